/- FnExactAddSpans of the program answers as the reference does, whatever is given: the pure part of the proof. No condition. -/
import Derived.Test.YtkhlbicmlpbadaaPFnExactAddSpansx0
import Derived.Test.YtkhlbicmlpbadaaPFnExactAddSpansx1
import Derived.Test.YtkhlbicmlpbadaaPFnExactAddSpansx2
import Derived.Test.YtkhlbicmlpbadaaPFnExactAddSpansx3
import Derived.Test.YtkhlbicmlpbadaaMath
set_option linter.unusedVariables false
set_option linter.unusedSimpArgs false
namespace Go.Proofs.Ytkhlbicmlpbadaa.Pure
open Go.RowKit Go.Proofs.Ytkhlbicmlpbadaa.PFnExactAddSpans Go.Proofs.YtkhlbicmlpbadaaW.PrintWords Go.Proofs.YtkhlbicmlpbadaaW.PrintLast Go.Proofs.YtkhlbicmlpbadaaW.PrintMore Go.Proofs.Ytkhlbicmlpbadaa.Math

/-! laws_eqSpan -/
theorem laws_eqSpan_self (a b : Int) : laws_eqSpan.f a b a b = some true := by
  unfold laws_eqSpan.f; rw [if_pos rfl, if_pos rfl]

/-! spec_l1In -/
theorem spec_l1In_eq (a b c : Int) : spec_l1In.f a b c = some (decide (b ≤ a ∧ a ≤ c)) := by
  unfold spec_l1In.f
  by_cases h : a ≥ b
  · rw [if_pos h]; simp [show b ≤ a from h]
  · rw [if_neg h]; simp [show ¬ b ≤ a from h]

/-! spec_diCommon -/
theorem spec_diCommon_l0 : ∀ (n : Nat) (a b : Int), 0 ≤ a → 0 ≤ b → b < n → Ev (fun k => spec_diCommon.l0 k a b) (Int.gcd a b : Int) := by
  intro n
  induction n with
  | zero => intro a b _ h1 h2; omega
  | succ n ih =>
    intro a b ha hb hn
    by_cases h : b = 0
    · subst h
      refine Ev.step (f := fun _ => some a) (fun k => ?_) ?_
      · simp only [spec_diCommon.l0]
        rw [if_neg (by omega)]
      · rw [gcd_zero ha]; exact Ev.now a
    · have h1 := tmod_range ha (show 0 < b by omega)
      refine Ev.step (f := fun k => spec_diCommon.l0 k b (Int.tmod a b)) (fun k => ?_) ?_
      · simp only [spec_diCommon.l0]
        rw [if_pos (by omega), if_neg h]
      · rw [← gcd_step ha (show 0 < b by omega)]
        exact ih b _ (by omega) (by omega) (by omega)
theorem spec_diCommon_ev (a b : Int) (ha : 0 ≤ a) (hb : 0 ≤ b) : Ev (fun k => spec_diCommon.f k a b) (Int.gcd a b : Int) := by
  unfold spec_diCommon.f
  exact spec_diCommon_l0 (b.toNat + 1) a b ha hb (by omega)

/-! spec_drGood -/
theorem spec_drGood_ev (n d : Int) : Ev (fun k => spec_drGood.f k n d) (isS n d) := by
  unfold spec_drGood.f
  simp only [spec_l1In_eq, Option.bind_some]
  by_cases h : 0 ≤ n ∧ n ≤ 1000000
  · refine Ev.pos (by simpa using h) ?_
    by_cases h2 : 1 ≤ d ∧ d ≤ 10000
    · refine Ev.pos (by simpa using h2) ?_
      refine Ev.bind (spec_diCommon_ev n d (by omega) (by omega)) ?_
      refine Ev.val (Ev.now _) ?_
      unfold isS
      rw [Bool.eq_iff_iff]; simp; omega
    · refine Ev.neg (by simpa using h2) ?_
      refine Ev.val (Ev.now _) ?_
      unfold isS
      rw [Bool.eq_iff_iff]; simp; omega
  · refine Ev.neg (by simpa using h) ?_
    refine Ev.val (Ev.now _) ?_
    unfold isS
    rw [Bool.eq_iff_iff]; simp; omega

/-! spec_drMake -/
theorem spec_drMake_ev (n d : Int) (hn : 0 ≤ n) (hn' : n ≤ 4000000000000000000) (hd : 0 < d) (hd' : d ≤ 4000000000000000000) : Ev (fun k => spec_drMake.f k n d) (sp n d) := by
  unfold spec_drMake.f
  refine Ev.bind (spec_diCommon_ev n d hn (by omega)) ?_
  have hg := gcd_pos' n hd
  refine Ev.neg (by omega) ?_
  have e1 := Int.tdiv_eq_ediv_of_nonneg (b := (Int.gcd n d : Int)) hn
  have e2 := Int.tdiv_eq_ediv_of_nonneg (b := (Int.gcd n d : Int)) (show 0 ≤ d by omega)
  have b1 := ediv_le' hn hg
  have b2 := ediv_le' (show 0 ≤ d by omega) hg
  rw [e1, e2, wrap_id (by omega) (by omega), wrap_id (by omega) (by omega)]
  refine Ev.bind (spec_drGood_ev _ _) ?_
  unfold sp
  split <;> exact Ev.now _

/-! spec_AddSpans -/
theorem spec_AddSpans_ev (a b c d : Int) : Ev (fun k => spec_AddSpans.f k a b c d) (vAddSpans a b c d) := by
  unfold spec_AddSpans.f vAddSpans
  refine Ev.bind (spec_drGood_ev a b) ?_
  cases h1 : isS a b
  · exact Ev.neg (by decide) (Ev.now _)
  refine Ev.pos rfl ?_
  refine Ev.bind (spec_drGood_ev c d) ?_
  cases h2 : isS c d
  · exact Ev.neg (by decide) (Ev.now _)
  refine Ev.pos rfl ?_
  obtain ⟨p1, p2, p3, p4, _⟩ := isS_iff.1 h1
  obtain ⟨r1, r2, r3, r4, _⟩ := isS_iff.1 h2
  have m1 := mul_bound (a := a) (b := d) (A := 1000000) (B := 10000) (by omega) (by omega) (by omega) (by omega)
  have m2 := mul_bound (a := c) (b := b) (A := 1000000) (B := 10000) (by omega) (by omega) (by omega) (by omega)
  have m3 := mul_bound (a := b) (b := d) (A := 10000) (B := 10000) (by omega) (by omega) (by omega) (by omega)
  have n1 := Int.mul_nonneg p1 (show 0 ≤ d by omega)
  have n2 := Int.mul_nonneg r1 (show 0 ≤ b by omega)
  have n3 := Int.mul_pos (show 0 < b by omega) (show 0 < d by omega)
  rw [wrap_id (x := a * d) (by omega) (by omega), wrap_id (x := c * b) (by omega) (by omega), wrap_id (x := b * d) (by omega) (by omega), wrap_id (by omega) (by omega)]
  exact Ev.bind (spec_drMake_ev _ _ (by omega) (by omega) (by omega) (by omega)) (Ev.now _)

/-! impl_within -/
theorem impl_within_eq (a b c : Int) : impl_within.f a b c = some (decide (b ≤ a ∧ a ≤ c)) := by
  unfold impl_within.f
  by_cases h : a ≥ b
  · rw [if_pos h]; simp [show b ≤ a from h]
  · rw [if_neg h]; simp [show ¬ b ≤ a from h]

/-! impl_gcd -/
theorem impl_gcd_l0 : ∀ (n : Nat) (a b : Int), 0 ≤ a → a ≤ 9223372036854775807 → 0 ≤ b → b ≤ 9223372036854775807 → b < n → Ev (fun k => impl_gcd.l0 k a b) (Int.gcd a b : Int) := by
  intro n
  induction n with
  | zero => intro a b _ _ h1 _ h2; omega
  | succ n ih =>
    intro a b ha ha' hb hb' hn
    by_cases h : b = 0
    · subst h
      refine Ev.step (f := fun _ => some a) (fun k => ?_) ?_
      · simp only [impl_gcd.l0]
        rw [wrap_id (by omega) (by omega)]
        unfold mx; simp; omega
      · rw [gcd_zero ha]; exact Ev.now a
    · have h1 := tmod_range ha (show 0 < b by omega)
      refine Ev.step (f := fun k => impl_gcd.l0 k b (Int.tmod a b)) (fun k => ?_) ?_
      · simp only [impl_gcd.l0]
        rw [if_neg h]
      · rw [← gcd_step ha (show 0 < b by omega)]
        exact ih b _ (by omega) (by omega) (by omega) (by omega) (by omega)
theorem impl_gcd_ev (a b : Int) (ha : 0 ≤ a) (ha' : a ≤ 9223372036854775807) (hb : 0 ≤ b) (hb' : b ≤ 9223372036854775807) : Ev (fun k => impl_gcd.f k a b) (Int.gcd a b : Int) := by
  unfold impl_gcd.f
  exact impl_gcd_l0 (b.toNat + 1) a b ha ha' hb hb' (by omega)

/-! impl_IsSpan -/
theorem impl_IsSpan_ev (n d : Int) : Ev (fun k => impl_IsSpan.f k n d) (isS n d) := by
  unfold impl_IsSpan.f
  simp only [impl_within_eq, Option.bind_some]
  by_cases h : 0 ≤ n ∧ n ≤ 1000000
  · refine Ev.pos (by simpa using h) ?_
    by_cases h2 : 1 ≤ d ∧ d ≤ 10000
    · refine Ev.pos (by simpa using h2) ?_
      refine Ev.bind (impl_gcd_ev n d (by omega) (by omega) (by omega) (by omega)) ?_
      refine Ev.val (Ev.now _) ?_
      unfold isS
      rw [Bool.eq_iff_iff]; simp; omega
    · refine Ev.neg (by simpa using h2) ?_
      refine Ev.val (Ev.now _) ?_
      unfold isS
      rw [Bool.eq_iff_iff]; simp; omega
  · refine Ev.neg (by simpa using h) ?_
    refine Ev.val (Ev.now _) ?_
    unfold isS
    rw [Bool.eq_iff_iff]; simp; omega

/-! impl_spanOf -/
theorem impl_spanOf_ev (n d : Int) (hn : 0 ≤ n) (hn' : n ≤ 4000000000000000000) (hd : 0 < d) (hd' : d ≤ 4000000000000000000) : Ev (fun k => impl_spanOf.f k n d) (sp n d) := by
  unfold impl_spanOf.f
  refine Ev.bind (impl_gcd_ev n d hn (by omega) (by omega) (by omega)) ?_
  have hg := gcd_pos' n hd
  refine Ev.neg (by omega) ?_
  have e1 := Int.tdiv_eq_ediv_of_nonneg (b := (Int.gcd n d : Int)) hn
  have e2 := Int.tdiv_eq_ediv_of_nonneg (b := (Int.gcd n d : Int)) (show 0 ≤ d by omega)
  have b1 := ediv_le' hn hg
  have b2 := ediv_le' (show 0 ≤ d by omega) hg
  rw [e1, e2, wrap_id (by omega) (by omega), wrap_id (by omega) (by omega)]
  refine Ev.bind (impl_IsSpan_ev _ _) ?_
  unfold sp
  split <;> exact Ev.now _

/-! impl_AddSpans -/
theorem impl_AddSpans_ev (a b c d : Int) : Ev (fun k => impl_AddSpans.f k a b c d) (vAddSpans a b c d) := by
  unfold impl_AddSpans.f vAddSpans
  refine Ev.bind (impl_IsSpan_ev a b) ?_
  cases h1 : isS a b
  · exact Ev.neg (by decide) (Ev.now _)
  refine Ev.pos rfl ?_
  refine Ev.bind (impl_IsSpan_ev c d) ?_
  cases h2 : isS c d
  · exact Ev.neg (by decide) (Ev.now _)
  refine Ev.pos rfl ?_
  obtain ⟨p1, p2, p3, p4, _⟩ := isS_iff.1 h1
  obtain ⟨r1, r2, r3, r4, _⟩ := isS_iff.1 h2
  have m1 := mul_bound (a := a) (b := d) (A := 1000000) (B := 10000) (by omega) (by omega) (by omega) (by omega)
  have m2 := mul_bound (a := c) (b := b) (A := 1000000) (B := 10000) (by omega) (by omega) (by omega) (by omega)
  have m3 := mul_bound (a := b) (b := d) (A := 10000) (B := 10000) (by omega) (by omega) (by omega) (by omega)
  have n1 := Int.mul_nonneg p1 (show 0 ≤ d by omega)
  have n2 := Int.mul_nonneg r1 (show 0 ≤ b by omega)
  have n3 := Int.mul_pos (show 0 < b by omega) (show 0 < d by omega)
  rw [wrap_id (x := a * d) (by omega) (by omega), wrap_id (x := c * b) (by omega) (by omega), wrap_id (x := b * d) (by omega) (by omega), wrap_id (by omega) (by omega)]
  exact Ev.bind (impl_spanOf_ev _ _ (by omega) (by omega) (by omega) (by omega)) (Ev.now _)

/-! laws_FnExactAddSpans -/
theorem FnExactAddSpans : laws_FnExactAddSpans.Pure := by
  intro a b c d _ _ _ _
  apply Ev.rounds (g := fun k => laws_FnExactAddSpans.f k a b c d)
  unfold laws_FnExactAddSpans.f laws_toSpan.f
  simp only [Option.bind_some]
  refine Ev.bind (spec_AddSpans_ev a b c d) ?_
  refine Ev.bind (impl_AddSpans_ev a b c d) ?_
  simp only [laws_eqSpan_self, Option.bind_some, bne_self_eq_false, Bool.false_eq_true, if_false, if_true]
  exact Ev.now _

end Go.Proofs.Ytkhlbicmlpbadaa.Pure
