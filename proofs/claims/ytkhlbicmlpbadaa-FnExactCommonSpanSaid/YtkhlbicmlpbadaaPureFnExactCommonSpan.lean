/- FnExactCommonSpan of the program answers as the reference does, whatever is given: the pure part of the proof. No condition. -/
import Derived.Test.YtkhlbicmlpbadaaPFnExactCommonSpanx0
import Derived.Test.YtkhlbicmlpbadaaPFnExactCommonSpanx1
import Derived.Test.YtkhlbicmlpbadaaPFnExactCommonSpanx2
import Derived.Test.YtkhlbicmlpbadaaPFnExactCommonSpanx3
import Derived.Test.YtkhlbicmlpbadaaPFnExactCommonSpanx4
import Derived.Test.YtkhlbicmlpbadaaMath
set_option linter.unusedVariables false
set_option linter.unusedSimpArgs false
namespace Go.Proofs.Ytkhlbicmlpbadaa.Pure
open Go.RowKit Go.Proofs.Ytkhlbicmlpbadaa.PFnExactCommonSpan Go.Proofs.YtkhlbicmlpbadaaW.PrintWords Go.Proofs.YtkhlbicmlpbadaaW.PrintLast Go.Proofs.YtkhlbicmlpbadaaW.PrintMore Go.Proofs.Ytkhlbicmlpbadaa.Math

/-! laws_eqSpan -/
theorem laws_eqSpan_self (a b : Int) : laws_eqSpan.f a b a b = some true := by
  unfold laws_eqSpan.f; rw [if_pos rfl, if_pos rfl]

/-! spec_diCommon -/
theorem spec_diCommon_l0 : ∀ (n : Nat) (a b : Int), 0 ≤ a → 0 ≤ b → b < n → Ev (fun k => spec_diCommon.l0 k a b) (Int.gcd a b : Int) := by
  intro n
  induction n with
  | zero => intro a b _ h1 h2; omega
  | succ n ih =>
    intro a b ha hb hn
    by_cases h : b = 0
    · subst h
      refine Ev.step (f := fun _ => some a) (fun k => ?_) ?_
      · simp only [spec_diCommon.l0]
        rw [if_neg (by omega)]
      · rw [gcd_zero ha]; exact Ev.now a
    · have h1 := tmod_range ha (show 0 < b by omega)
      refine Ev.step (f := fun k => spec_diCommon.l0 k b (Int.tmod a b)) (fun k => ?_) ?_
      · simp only [spec_diCommon.l0]
        rw [if_pos (by omega), if_neg h]
      · rw [← gcd_step ha (show 0 < b by omega)]
        exact ih b _ (by omega) (by omega) (by omega)
theorem spec_diCommon_ev (a b : Int) (ha : 0 ≤ a) (hb : 0 ≤ b) : Ev (fun k => spec_diCommon.f k a b) (Int.gcd a b : Int) := by
  unfold spec_diCommon.f
  exact spec_diCommon_l0 (b.toNat + 1) a b ha hb (by omega)

/-! spec_l1In -/
theorem spec_l1In_eq (a b c : Int) : spec_l1In.f a b c = some (decide (b ≤ a ∧ a ≤ c)) := by
  unfold spec_l1In.f
  by_cases h : a ≥ b
  · rw [if_pos h]; simp [show b ≤ a from h]
  · rw [if_neg h]; simp [show ¬ b ≤ a from h]

/-! spec_drGood -/
theorem spec_drGood_ev (n d : Int) : Ev (fun k => spec_drGood.f k n d) (isS n d) := by
  unfold spec_drGood.f
  simp only [spec_l1In_eq, Option.bind_some]
  by_cases h : 0 ≤ n ∧ n ≤ 1000000
  · refine Ev.pos (by simpa using h) ?_
    by_cases h2 : 1 ≤ d ∧ d ≤ 10000
    · refine Ev.pos (by simpa using h2) ?_
      refine Ev.bind (spec_diCommon_ev n d (by omega) (by omega)) ?_
      refine Ev.val (Ev.now _) ?_
      unfold isS
      rw [Bool.eq_iff_iff]; simp; omega
    · refine Ev.neg (by simpa using h2) ?_
      refine Ev.val (Ev.now _) ?_
      unfold isS
      rw [Bool.eq_iff_iff]; simp; omega
  · refine Ev.neg (by simpa using h) ?_
    refine Ev.val (Ev.now _) ?_
    unfold isS
    rw [Bool.eq_iff_iff]; simp; omega

/-! spec_drMake -/
theorem spec_drMake_ev (n d : Int) (hn : 0 ≤ n) (hn' : n ≤ 4000000000000000000) (hd : 0 < d) (hd' : d ≤ 4000000000000000000) : Ev (fun k => spec_drMake.f k n d) (sp n d) := by
  unfold spec_drMake.f
  refine Ev.bind (spec_diCommon_ev n d hn (by omega)) ?_
  have hg := gcd_pos' n hd
  refine Ev.neg (by omega) ?_
  have e1 := Int.tdiv_eq_ediv_of_nonneg (b := (Int.gcd n d : Int)) hn
  have e2 := Int.tdiv_eq_ediv_of_nonneg (b := (Int.gcd n d : Int)) (show 0 ≤ d by omega)
  have b1 := ediv_le' hn hg
  have b2 := ediv_le' (show 0 ≤ d by omega) hg
  rw [e1, e2, wrap_id (by omega) (by omega), wrap_id (by omega) (by omega)]
  refine Ev.bind (spec_drGood_ev _ _) ?_
  unfold sp
  split <;> exact Ev.now _

/-! spec_CommonSpan -/
theorem spec_CommonSpan_no (a b c d : Int) : Ev (fun k => spec_CommonSpan.j0 k true a b c d) (0, 0, false) := by
  refine Ev.step (f := fun _ => some (0, 0, false)) (fun k => ?_) (Ev.now _)
  simp only [spec_CommonSpan.j0]; rfl
theorem spec_CommonSpan_ev (a b c d : Int) : Ev (fun k => spec_CommonSpan.f k a b c d) (vCommon a b c d) := by
  unfold spec_CommonSpan.f vCommon
  refine Ev.bind (spec_drGood_ev a b) ?_
  cases h1 : isS a b
  · exact Ev.neg (by decide) (spec_CommonSpan_no _ _ _ _)
  refine Ev.pos rfl ?_
  refine Ev.bind (spec_drGood_ev c d) ?_
  cases h2 : isS c d
  · exact Ev.neg (by decide) (spec_CommonSpan_no _ _ _ _)
  refine Ev.pos rfl ?_
  by_cases ha : a = 0
  · refine Ev.pos ha ?_
    simpa [ha] using spec_CommonSpan_no _ _ _ _
  refine Ev.neg ha ?_
  by_cases hc : c = 0
  · simp only [hc, beq_self_eq_true]
    simpa using spec_CommonSpan_no _ _ _ _
  rw [show (c == 0) = false by simpa using hc]
  obtain ⟨p1, p2, p3, p4, _⟩ := isS_iff.1 h1
  obtain ⟨r1, r2, r3, r4, _⟩ := isS_iff.1 h2
  have hg := gcd_pos' a (show 0 < c by omega)
  have b1 := ediv_le' p1 hg
  have m1 := mul_bound (a := a / (Int.gcd a c : Int)) (b := c) (A := 1000000) (B := 1000000) (by omega) (by omega) (by omega) (by omega)
  have n1 := Int.mul_nonneg b1.1 r1
  have hg2 := gcd_pos' b (show 0 < d by omega)
  have hg3 := gcd_le b (show 0 < d by omega)
  have e1 := Int.tdiv_eq_ediv_of_nonneg (b := (Int.gcd a c : Int)) p1
  refine Ev.step (f := fun k => ((spec_diCommon.f k a c).bind fun t119 => (if t119 = 0 then (none) else ((spec_diCommon.f k b d).bind fun t120 => ((spec_drMake.f k (wrap64 ((wrap64 (Int.tdiv a t119)) * c)) t120).bind fun bt121 => (some (bt121.1, bt121.2.1, bt121.2.2))))))) (fun k => ?_) ?_
  · simp only [spec_CommonSpan.j0]; simp
  refine Ev.bind (spec_diCommon_ev a c p1 (by omega)) ?_
  refine Ev.neg (by omega) ?_
  refine Ev.bind (spec_diCommon_ev b d (by omega) (by omega)) ?_
  rw [e1, wrap_id (x := a / (Int.gcd a c : Int)) (by omega) (by omega), wrap_id (by omega) (by omega)]
  rw [show (decide (a = 0) || decide (c = 0)) = false by simp [ha, hc]]
  exact Ev.bind (spec_drMake_ev _ _ (by omega) (by omega) (by omega) (by omega)) (Ev.now _)

/-! impl_gcd -/
theorem impl_gcd_l0 : ∀ (n : Nat) (a b : Int), 0 ≤ a → a ≤ 9223372036854775807 → 0 ≤ b → b ≤ 9223372036854775807 → b < n → Ev (fun k => impl_gcd.l0 k a b) (Int.gcd a b : Int) := by
  intro n
  induction n with
  | zero => intro a b _ _ h1 _ h2; omega
  | succ n ih =>
    intro a b ha ha' hb hb' hn
    by_cases h : b = 0
    · subst h
      refine Ev.step (f := fun _ => some a) (fun k => ?_) ?_
      · simp only [impl_gcd.l0]
        rw [wrap_id (by omega) (by omega)]
        unfold mx; simp; omega
      · rw [gcd_zero ha]; exact Ev.now a
    · have h1 := tmod_range ha (show 0 < b by omega)
      refine Ev.step (f := fun k => impl_gcd.l0 k b (Int.tmod a b)) (fun k => ?_) ?_
      · simp only [impl_gcd.l0]
        rw [if_neg h]
      · rw [← gcd_step ha (show 0 < b by omega)]
        exact ih b _ (by omega) (by omega) (by omega) (by omega) (by omega)
theorem impl_gcd_ev (a b : Int) (ha : 0 ≤ a) (ha' : a ≤ 9223372036854775807) (hb : 0 ≤ b) (hb' : b ≤ 9223372036854775807) : Ev (fun k => impl_gcd.f k a b) (Int.gcd a b : Int) := by
  unfold impl_gcd.f
  exact impl_gcd_l0 (b.toNat + 1) a b ha ha' hb hb' (by omega)

/-! impl_within -/
theorem impl_within_eq (a b c : Int) : impl_within.f a b c = some (decide (b ≤ a ∧ a ≤ c)) := by
  unfold impl_within.f
  by_cases h : a ≥ b
  · rw [if_pos h]; simp [show b ≤ a from h]
  · rw [if_neg h]; simp [show ¬ b ≤ a from h]

/-! impl_IsSpan -/
theorem impl_IsSpan_ev (n d : Int) : Ev (fun k => impl_IsSpan.f k n d) (isS n d) := by
  unfold impl_IsSpan.f
  simp only [impl_within_eq, Option.bind_some]
  by_cases h : 0 ≤ n ∧ n ≤ 1000000
  · refine Ev.pos (by simpa using h) ?_
    by_cases h2 : 1 ≤ d ∧ d ≤ 10000
    · refine Ev.pos (by simpa using h2) ?_
      refine Ev.bind (impl_gcd_ev n d (by omega) (by omega) (by omega) (by omega)) ?_
      refine Ev.val (Ev.now _) ?_
      unfold isS
      rw [Bool.eq_iff_iff]; simp; omega
    · refine Ev.neg (by simpa using h2) ?_
      refine Ev.val (Ev.now _) ?_
      unfold isS
      rw [Bool.eq_iff_iff]; simp; omega
  · refine Ev.neg (by simpa using h) ?_
    refine Ev.val (Ev.now _) ?_
    unfold isS
    rw [Bool.eq_iff_iff]; simp; omega

/-! impl_spanOf -/
theorem impl_spanOf_ev (n d : Int) (hn : 0 ≤ n) (hn' : n ≤ 4000000000000000000) (hd : 0 < d) (hd' : d ≤ 4000000000000000000) : Ev (fun k => impl_spanOf.f k n d) (sp n d) := by
  unfold impl_spanOf.f
  refine Ev.bind (impl_gcd_ev n d hn (by omega) (by omega) (by omega)) ?_
  have hg := gcd_pos' n hd
  refine Ev.neg (by omega) ?_
  have e1 := Int.tdiv_eq_ediv_of_nonneg (b := (Int.gcd n d : Int)) hn
  have e2 := Int.tdiv_eq_ediv_of_nonneg (b := (Int.gcd n d : Int)) (show 0 ≤ d by omega)
  have b1 := ediv_le' hn hg
  have b2 := ediv_le' (show 0 ≤ d by omega) hg
  rw [e1, e2, wrap_id (by omega) (by omega), wrap_id (by omega) (by omega)]
  refine Ev.bind (impl_IsSpan_ev _ _) ?_
  unfold sp
  split <;> exact Ev.now _

/-! impl_lcm -/
theorem impl_lcm_ev (a b : Int) (ha : 0 ≤ a) (ha' : a ≤ 1000000) (hb : 0 < b) (hb' : b ≤ 1000000) : Ev (fun k => impl_lcm.f k a b) (a / (Int.gcd a b : Int) * b) := by
  unfold impl_lcm.f
  refine Ev.bind (impl_gcd_ev a b ha (by omega) (by omega) (by omega)) ?_
  have hg := gcd_pos' a hb
  refine Ev.neg (by omega) ?_
  have e1 := Int.tdiv_eq_ediv_of_nonneg (b := (Int.gcd a b : Int)) ha
  have b1 := ediv_le' ha hg
  have m1 := mul_bound (a := a / (Int.gcd a b : Int)) (b := b) (A := 1000000) (B := 1000000) (by omega) (by omega) (by omega) (by omega)
  rw [e1, wrap_id (x := a / (Int.gcd a b : Int)) (by omega) (by omega), wrap_id (by omega) (by omega)]
  exact Ev.now _

/-! impl_CommonSpan -/
theorem impl_CommonSpan_no (a b c d : Int) : Ev (fun k => impl_CommonSpan.j0 k true a b c d) (0, 0, false) := by
  refine Ev.step (f := fun _ => some (0, 0, false)) (fun k => ?_) (Ev.now _)
  simp only [impl_CommonSpan.j0]; rfl
theorem impl_CommonSpan_ev (a b c d : Int) : Ev (fun k => impl_CommonSpan.f k a b c d) (vCommon a b c d) := by
  unfold impl_CommonSpan.f vCommon
  refine Ev.bind (impl_IsSpan_ev a b) ?_
  cases h1 : isS a b
  · exact Ev.neg (by decide) (impl_CommonSpan_no _ _ _ _)
  refine Ev.pos rfl ?_
  refine Ev.bind (impl_IsSpan_ev c d) ?_
  cases h2 : isS c d
  · exact Ev.neg (by decide) (impl_CommonSpan_no _ _ _ _)
  refine Ev.pos rfl ?_
  by_cases ha : a = 0
  · refine Ev.pos ha ?_
    simpa [ha] using impl_CommonSpan_no _ _ _ _
  refine Ev.neg ha ?_
  by_cases hc : c = 0
  · simp only [hc, beq_self_eq_true]
    simpa using impl_CommonSpan_no _ _ _ _
  rw [show (c == 0) = false by simpa using hc]
  obtain ⟨p1, p2, p3, p4, _⟩ := isS_iff.1 h1
  obtain ⟨r1, r2, r3, r4, _⟩ := isS_iff.1 h2
  have hg := gcd_pos' a (show 0 < c by omega)
  have b1 := ediv_le' p1 hg
  have m1 := mul_bound (a := a / (Int.gcd a c : Int)) (b := c) (A := 1000000) (B := 1000000) (by omega) (by omega) (by omega) (by omega)
  have n1 := Int.mul_nonneg b1.1 r1
  have hg2 := gcd_pos' b (show 0 < d by omega)
  have hg3 := gcd_le b (show 0 < d by omega)
  refine Ev.step (f := fun k => ((impl_lcm.f k a c).bind fun t138 => ((impl_gcd.f k b d).bind fun t139 => ((impl_spanOf.f k t138 t139).bind fun bt140 => (some (bt140.1, bt140.2.1, bt140.2.2)))))) (fun k => ?_) ?_
  · simp only [impl_CommonSpan.j0]; simp
  refine Ev.bind (impl_lcm_ev a c p1 (by omega) (by omega) (by omega)) ?_
  refine Ev.bind (impl_gcd_ev b d (by omega) (by omega) (by omega) (by omega)) ?_
  rw [show (decide (a = 0) || decide (c = 0)) = false by simp [ha, hc]]
  exact Ev.bind (impl_spanOf_ev _ _ (by omega) (by omega) (by omega) (by omega)) (Ev.now _)

/-! laws_FnExactCommonSpan -/
theorem FnExactCommonSpan : laws_FnExactCommonSpan.Pure := by
  intro a b c d _ _ _ _
  apply Ev.rounds (g := fun k => laws_FnExactCommonSpan.f k a b c d)
  unfold laws_FnExactCommonSpan.f laws_toSpan.f
  simp only [Option.bind_some]
  refine Ev.bind (spec_CommonSpan_ev a b c d) ?_
  refine Ev.bind (impl_CommonSpan_ev a b c d) ?_
  simp only [laws_eqSpan_self, Option.bind_some, bne_self_eq_false, Bool.false_eq_true, if_false, if_true]
  exact Ev.now _

end Go.Proofs.Ytkhlbicmlpbadaa.Pure
