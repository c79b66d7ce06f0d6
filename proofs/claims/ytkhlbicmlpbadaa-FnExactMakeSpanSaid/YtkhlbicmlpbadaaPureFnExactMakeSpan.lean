/- FnExactMakeSpan of the program answers as the reference does, whatever is given: the pure part of the proof. No condition. -/
import Derived.Test.YtkhlbicmlpbadaaPFnExactMakeSpanx0
import Derived.Test.YtkhlbicmlpbadaaPFnExactMakeSpanx1
import Derived.Test.YtkhlbicmlpbadaaPFnExactMakeSpanx2
import Derived.Test.YtkhlbicmlpbadaaMath
set_option linter.unusedVariables false
set_option linter.unusedSimpArgs false
namespace Go.Proofs.Ytkhlbicmlpbadaa.Pure
open Go.RowKit Go.Proofs.Ytkhlbicmlpbadaa.PFnExactMakeSpan Go.Proofs.YtkhlbicmlpbadaaW.PrintWords Go.Proofs.YtkhlbicmlpbadaaW.PrintLast Go.Proofs.YtkhlbicmlpbadaaW.PrintMore Go.Proofs.Ytkhlbicmlpbadaa.Math

/-! spec_l1In -/
theorem spec_l1In_eq (a b c : Int) : spec_l1In.f a b c = some (decide (b ≤ a ∧ a ≤ c)) := by
  unfold spec_l1In.f
  by_cases h : a ≥ b
  · rw [if_pos h]; simp [show b ≤ a from h]
  · rw [if_neg h]; simp [show ¬ b ≤ a from h]

/-! spec_diCommon -/
theorem spec_diCommon_l0 : ∀ (n : Nat) (a b : Int), 0 ≤ a → 0 ≤ b → b < n → Ev (fun k => spec_diCommon.l0 k a b) (Int.gcd a b : Int) := by
  intro n
  induction n with
  | zero => intro a b _ h1 h2; omega
  | succ n ih =>
    intro a b ha hb hn
    by_cases h : b = 0
    · subst h
      refine Ev.step (f := fun _ => some a) (fun k => ?_) ?_
      · simp only [spec_diCommon.l0]
        rw [if_neg (by omega)]
      · rw [gcd_zero ha]; exact Ev.now a
    · have h1 := tmod_range ha (show 0 < b by omega)
      refine Ev.step (f := fun k => spec_diCommon.l0 k b (Int.tmod a b)) (fun k => ?_) ?_
      · simp only [spec_diCommon.l0]
        rw [if_pos (by omega), if_neg h]
      · rw [← gcd_step ha (show 0 < b by omega)]
        exact ih b _ (by omega) (by omega) (by omega)
theorem spec_diCommon_ev (a b : Int) (ha : 0 ≤ a) (hb : 0 ≤ b) : Ev (fun k => spec_diCommon.f k a b) (Int.gcd a b : Int) := by
  unfold spec_diCommon.f
  exact spec_diCommon_l0 (b.toNat + 1) a b ha hb (by omega)

/-! spec_drGood -/
theorem spec_drGood_ev (n d : Int) : Ev (fun k => spec_drGood.f k n d) (isS n d) := by
  unfold spec_drGood.f
  simp only [spec_l1In_eq, Option.bind_some]
  by_cases h : 0 ≤ n ∧ n ≤ 1000000
  · refine Ev.pos (by simpa using h) ?_
    by_cases h2 : 1 ≤ d ∧ d ≤ 10000
    · refine Ev.pos (by simpa using h2) ?_
      refine Ev.bind (spec_diCommon_ev n d (by omega) (by omega)) ?_
      refine Ev.val (Ev.now _) ?_
      unfold isS
      rw [Bool.eq_iff_iff]; simp; omega
    · refine Ev.neg (by simpa using h2) ?_
      refine Ev.val (Ev.now _) ?_
      unfold isS
      rw [Bool.eq_iff_iff]; simp; omega
  · refine Ev.neg (by simpa using h) ?_
    refine Ev.val (Ev.now _) ?_
    unfold isS
    rw [Bool.eq_iff_iff]; simp; omega

/-! spec_drMake -/
theorem spec_drMake_ev (n d : Int) (hn : 0 ≤ n) (hn' : n ≤ 4000000000000000000) (hd : 0 < d) (hd' : d ≤ 4000000000000000000) : Ev (fun k => spec_drMake.f k n d) (sp n d) := by
  unfold spec_drMake.f
  refine Ev.bind (spec_diCommon_ev n d hn (by omega)) ?_
  have hg := gcd_pos' n hd
  refine Ev.neg (by omega) ?_
  have e1 := Int.tdiv_eq_ediv_of_nonneg (b := (Int.gcd n d : Int)) hn
  have e2 := Int.tdiv_eq_ediv_of_nonneg (b := (Int.gcd n d : Int)) (show 0 ≤ d by omega)
  have b1 := ediv_le' hn hg
  have b2 := ediv_le' (show 0 ≤ d by omega) hg
  rw [e1, e2, wrap_id (by omega) (by omega), wrap_id (by omega) (by omega)]
  refine Ev.bind (spec_drGood_ev _ _) ?_
  unfold sp
  split <;> exact Ev.now _

/-! spec_MakeSpan -/
theorem spec_MakeSpan_ev (n d : Int) : Ev (fun k => spec_MakeSpan.f k n d) (vMakeSpan n d) := by
  unfold spec_MakeSpan.f vMakeSpan
  simp only [spec_l1In_eq, Option.bind_some]
  by_cases h1 : 0 ≤ n ∧ n ≤ 1000000000000
  · refine Ev.pos (by simpa using h1) ?_
    by_cases h2 : 1 ≤ d ∧ d ≤ 1000000000000
    · refine Ev.pos (by simpa using h2) ?_
      refine Ev.bind (spec_drMake_ev n d (by omega) (by omega) (by omega) (by omega)) ?_
      rw [if_pos ⟨h1, h2⟩]
      exact Ev.now _
    · refine Ev.neg (by simpa using h2) ?_
      rw [if_neg (fun h => h2 h.2)]
      exact Ev.now _
  · refine Ev.neg (by simpa using h1) ?_
    rw [if_neg (fun h => h1 h.1)]
    exact Ev.now _

/-! impl_within -/
theorem impl_within_eq (a b c : Int) : impl_within.f a b c = some (decide (b ≤ a ∧ a ≤ c)) := by
  unfold impl_within.f
  by_cases h : a ≥ b
  · rw [if_pos h]; simp [show b ≤ a from h]
  · rw [if_neg h]; simp [show ¬ b ≤ a from h]

/-! impl_gcd -/
theorem impl_gcd_l0 : ∀ (n : Nat) (a b : Int), 0 ≤ a → a ≤ 9223372036854775807 → 0 ≤ b → b ≤ 9223372036854775807 → b < n → Ev (fun k => impl_gcd.l0 k a b) (Int.gcd a b : Int) := by
  intro n
  induction n with
  | zero => intro a b _ _ h1 _ h2; omega
  | succ n ih =>
    intro a b ha ha' hb hb' hn
    by_cases h : b = 0
    · subst h
      refine Ev.step (f := fun _ => some a) (fun k => ?_) ?_
      · simp only [impl_gcd.l0]
        rw [wrap_id (by omega) (by omega)]
        unfold mx; simp; omega
      · rw [gcd_zero ha]; exact Ev.now a
    · have h1 := tmod_range ha (show 0 < b by omega)
      refine Ev.step (f := fun k => impl_gcd.l0 k b (Int.tmod a b)) (fun k => ?_) ?_
      · simp only [impl_gcd.l0]
        rw [if_neg h]
      · rw [← gcd_step ha (show 0 < b by omega)]
        exact ih b _ (by omega) (by omega) (by omega) (by omega) (by omega)
theorem impl_gcd_ev (a b : Int) (ha : 0 ≤ a) (ha' : a ≤ 9223372036854775807) (hb : 0 ≤ b) (hb' : b ≤ 9223372036854775807) : Ev (fun k => impl_gcd.f k a b) (Int.gcd a b : Int) := by
  unfold impl_gcd.f
  exact impl_gcd_l0 (b.toNat + 1) a b ha ha' hb hb' (by omega)

/-! impl_IsSpan -/
theorem impl_IsSpan_ev (n d : Int) : Ev (fun k => impl_IsSpan.f k n d) (isS n d) := by
  unfold impl_IsSpan.f
  simp only [impl_within_eq, Option.bind_some]
  by_cases h : 0 ≤ n ∧ n ≤ 1000000
  · refine Ev.pos (by simpa using h) ?_
    by_cases h2 : 1 ≤ d ∧ d ≤ 10000
    · refine Ev.pos (by simpa using h2) ?_
      refine Ev.bind (impl_gcd_ev n d (by omega) (by omega) (by omega) (by omega)) ?_
      refine Ev.val (Ev.now _) ?_
      unfold isS
      rw [Bool.eq_iff_iff]; simp; omega
    · refine Ev.neg (by simpa using h2) ?_
      refine Ev.val (Ev.now _) ?_
      unfold isS
      rw [Bool.eq_iff_iff]; simp; omega
  · refine Ev.neg (by simpa using h) ?_
    refine Ev.val (Ev.now _) ?_
    unfold isS
    rw [Bool.eq_iff_iff]; simp; omega

/-! impl_spanOf -/
theorem impl_spanOf_ev (n d : Int) (hn : 0 ≤ n) (hn' : n ≤ 4000000000000000000) (hd : 0 < d) (hd' : d ≤ 4000000000000000000) : Ev (fun k => impl_spanOf.f k n d) (sp n d) := by
  unfold impl_spanOf.f
  refine Ev.bind (impl_gcd_ev n d hn (by omega) (by omega) (by omega)) ?_
  have hg := gcd_pos' n hd
  refine Ev.neg (by omega) ?_
  have e1 := Int.tdiv_eq_ediv_of_nonneg (b := (Int.gcd n d : Int)) hn
  have e2 := Int.tdiv_eq_ediv_of_nonneg (b := (Int.gcd n d : Int)) (show 0 ≤ d by omega)
  have b1 := ediv_le' hn hg
  have b2 := ediv_le' (show 0 ≤ d by omega) hg
  rw [e1, e2, wrap_id (by omega) (by omega), wrap_id (by omega) (by omega)]
  refine Ev.bind (impl_IsSpan_ev _ _) ?_
  unfold sp
  split <;> exact Ev.now _

/-! impl_MakeSpan -/
theorem impl_MakeSpan_ev (n d : Int) : Ev (fun k => impl_MakeSpan.f k n d) (vMakeSpan n d) := by
  unfold impl_MakeSpan.f vMakeSpan
  simp only [impl_within_eq, Option.bind_some]
  by_cases h1 : 0 ≤ n ∧ n ≤ 1000000000000
  · refine Ev.pos (by simpa using h1) ?_
    by_cases h2 : 1 ≤ d ∧ d ≤ 1000000000000
    · refine Ev.pos (by simpa using h2) ?_
      refine Ev.bind (impl_spanOf_ev n d (by omega) (by omega) (by omega) (by omega)) ?_
      rw [if_pos ⟨h1, h2⟩]
      exact Ev.now _
    · refine Ev.neg (by simpa using h2) ?_
      rw [if_neg (fun h => h2 h.2)]
      exact Ev.now _
  · refine Ev.neg (by simpa using h1) ?_
    rw [if_neg (fun h => h1 h.1)]
    exact Ev.now _

/-! laws_eqSpan -/
theorem laws_eqSpan_self (a b : Int) : laws_eqSpan.f a b a b = some true := by
  unfold laws_eqSpan.f; rw [if_pos rfl, if_pos rfl]

/-! laws_FnExactMakeSpan -/
theorem FnExactMakeSpan : laws_FnExactMakeSpan.Pure := by
  intro n d _ _
  apply Ev.rounds (g := fun k => laws_FnExactMakeSpan.f k n d)
  unfold laws_FnExactMakeSpan.f
  refine Ev.bind (spec_MakeSpan_ev n d) ?_
  refine Ev.bind (impl_MakeSpan_ev n d) ?_
  simp only [laws_eqSpan_self, Option.bind_some, bne_self_eq_false, Bool.false_eq_true, if_false, if_true]
  exact Ev.now _

end Go.Proofs.Ytkhlbicmlpbadaa.Pure
