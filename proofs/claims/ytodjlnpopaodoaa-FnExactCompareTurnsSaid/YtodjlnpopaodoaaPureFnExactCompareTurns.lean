/- FnExactCompareTurns of the program answers as the reference does, whatever is given: the pure part of the proof. No condition. -/
import Derived.Test.YtodjlnpopaodoaaPFnExactCompareTurnsx0
import Derived.Test.YtodjlnpopaodoaaPFnExactCompareTurnsx1
import Derived.Test.YtodjlnpopaodoaaPFnExactCompareTurnsx2
import Derived.Test.YtodjlnpopaodoaaMath
set_option linter.unusedVariables false
set_option linter.unusedSimpArgs false
namespace Go.Proofs.Ytodjlnpopaodoaa.Pure
open Go.RowKit Go.Proofs.Ytodjlnpopaodoaa.PFnExactCompareTurns Go.Proofs.YtodjlnpopaodoaaW.PrintWords Go.Proofs.YtodjlnpopaodoaaW.PrintLast Go.Proofs.YtodjlnpopaodoaaW.PrintMore Go.Proofs.Ytodjlnpopaodoaa.Math

/-! spec_l1In -/
theorem spec_l1In_eq (a b c : Int) : spec_l1In.f a b c = some (decide (b ≤ a ∧ a ≤ c)) := by
  unfold spec_l1In.f
  by_cases h : a ≥ b
  · rw [if_pos h]; simp [show b ≤ a from h]
  · rw [if_neg h]; simp [show ¬ b ≤ a from h]

/-! spec_diCommon -/
theorem spec_diCommon_l0 : ∀ (n : Nat) (a b : Int), 0 ≤ a → 0 ≤ b → b < n → Ev (fun k => spec_diCommon.l0 k a b) (Int.gcd a b : Int) := by
  intro n
  induction n with
  | zero => intro a b _ h1 h2; omega
  | succ n ih =>
    intro a b ha hb hn
    by_cases h : b = 0
    · subst h
      refine Ev.step (f := fun _ => some a) (fun k => ?_) ?_
      · simp only [spec_diCommon.l0]
        rw [if_neg (by omega)]
      · rw [gcd_zero ha]; exact Ev.now a
    · have h1 := tmod_range ha (show 0 < b by omega)
      refine Ev.step (f := fun k => spec_diCommon.l0 k b (Int.tmod a b)) (fun k => ?_) ?_
      · simp only [spec_diCommon.l0]
        rw [if_pos (by omega), if_neg h]
      · rw [← gcd_step ha (show 0 < b by omega)]
        exact ih b _ (by omega) (by omega) (by omega)
theorem spec_diCommon_ev (a b : Int) (ha : 0 ≤ a) (hb : 0 ≤ b) : Ev (fun k => spec_diCommon.f k a b) (Int.gcd a b : Int) := by
  unfold spec_diCommon.f
  exact spec_diCommon_l0 (b.toNat + 1) a b ha hb (by omega)

/-! spec_diGood -/
theorem spec_diGood_ev (n d : Int) : Ev (fun k => spec_diGood.f k n d) (isT n d) := by
  unfold spec_diGood.f
  simp only [spec_l1In_eq, Option.bind_some]
  by_cases h : 1 ≤ d ∧ d ≤ 1000000
  · refine Ev.pos (by simpa using h) ?_
    rw [wrap_id (by omega) (by omega)]
    by_cases h2 : 0 ≤ n ∧ n ≤ d - 1
    · refine Ev.pos (by simpa using h2) ?_
      refine Ev.bind (spec_diCommon_ev n d (by omega) (by omega)) ?_
      refine Ev.val (Ev.now _) ?_
      unfold isT
      rw [Bool.eq_iff_iff]; simp; omega
    · refine Ev.neg (by simpa using h2) ?_
      refine Ev.val (Ev.now _) ?_
      unfold isT
      rw [Bool.eq_iff_iff]; simp; omega
  · refine Ev.neg (by simpa using h) ?_
    refine Ev.val (Ev.now _) ?_
    unfold isT
    rw [Bool.eq_iff_iff]; simp; omega

/-! spec_l1Sign -/
theorem spec_l1Sign_eq (a : Int) : spec_l1Sign.f a = some (sg a) := by
  unfold spec_l1Sign.f sg
  split
  · rfl
  · split <;> rfl

/-! spec_diCompare -/
theorem spec_diCompare_eq (a b c d : Int) (ha : isT a b = true) (hc : isT c d = true) : spec_diCompare.f a b c d = some (sg (a * d - c * b)) := by
  obtain ⟨p1, p2, p3, p4, _⟩ := isT_iff.1 ha
  obtain ⟨r1, r2, r3, r4, _⟩ := isT_iff.1 hc
  have m1 := mul_bound (a := a) (b := d) (A := 1000000) (B := 1000000) (by omega) (by omega) (by omega) (by omega)
  have m2 := mul_bound (a := c) (b := b) (A := 1000000) (B := 1000000) (by omega) (by omega) (by omega) (by omega)
  unfold spec_diCompare.f
  rw [wrap_id (x := a * d) (by omega) (by omega), wrap_id (x := c * b) (by omega) (by omega), wrap_id (by omega) (by omega)]
  simp only [spec_l1Sign_eq, Option.bind_some]

/-! spec_CompareTurns -/
theorem spec_CompareTurns_ev (a b c d : Int) : Ev (fun k => spec_CompareTurns.f k a b c d) (vCmp a b c d) := by
  unfold spec_CompareTurns.f vCmp
  refine Ev.bind (spec_diGood_ev a b) ?_
  cases h1 : isT a b
  · exact Ev.neg (by decide) (Ev.now _)
  refine Ev.pos rfl ?_
  refine Ev.bind (spec_diGood_ev c d) ?_
  cases h2 : isT c d
  · exact Ev.neg (by decide) (Ev.now _)
  refine Ev.pos rfl ?_
  simp only [spec_diCompare_eq a b c d h1 h2, Option.bind_some]
  exact Ev.now _

/-! impl_within -/
theorem impl_within_eq (a b c : Int) : impl_within.f a b c = some (decide (b ≤ a ∧ a ≤ c)) := by
  unfold impl_within.f
  by_cases h : a ≥ b
  · rw [if_pos h]; simp [show b ≤ a from h]
  · rw [if_neg h]; simp [show ¬ b ≤ a from h]

/-! impl_gcd -/
theorem impl_gcd_l0 : ∀ (n : Nat) (a b : Int), 0 ≤ a → a ≤ 9223372036854775807 → 0 ≤ b → b ≤ 9223372036854775807 → b < n → Ev (fun k => impl_gcd.l0 k a b) (Int.gcd a b : Int) := by
  intro n
  induction n with
  | zero => intro a b _ _ h1 _ h2; omega
  | succ n ih =>
    intro a b ha ha' hb hb' hn
    by_cases h : b = 0
    · subst h
      refine Ev.step (f := fun _ => some a) (fun k => ?_) ?_
      · simp only [impl_gcd.l0]
        rw [wrap_id (by omega) (by omega)]
        unfold mx; simp; omega
      · rw [gcd_zero ha]; exact Ev.now a
    · have h1 := tmod_range ha (show 0 < b by omega)
      refine Ev.step (f := fun k => impl_gcd.l0 k b (Int.tmod a b)) (fun k => ?_) ?_
      · simp only [impl_gcd.l0]
        rw [if_neg h]
      · rw [← gcd_step ha (show 0 < b by omega)]
        exact ih b _ (by omega) (by omega) (by omega) (by omega) (by omega)
theorem impl_gcd_ev (a b : Int) (ha : 0 ≤ a) (ha' : a ≤ 9223372036854775807) (hb : 0 ≤ b) (hb' : b ≤ 9223372036854775807) : Ev (fun k => impl_gcd.f k a b) (Int.gcd a b : Int) := by
  unfold impl_gcd.f
  exact impl_gcd_l0 (b.toNat + 1) a b ha ha' hb hb' (by omega)

/-! impl_IsTurn -/
theorem impl_IsTurn_ev (n d : Int) : Ev (fun k => impl_IsTurn.f k n d) (isT n d) := by
  unfold impl_IsTurn.f
  simp only [impl_within_eq, Option.bind_some]
  by_cases h : 1 ≤ d ∧ d ≤ 1000000
  · refine Ev.pos (by simpa using h) ?_
    rw [wrap_id (by omega) (by omega)]
    by_cases h2 : 0 ≤ n ∧ n ≤ d - 1
    · refine Ev.pos (by simpa using h2) ?_
      refine Ev.bind (impl_gcd_ev n d (by omega) (by omega) (by omega) (by omega)) ?_
      refine Ev.val (Ev.now _) ?_
      unfold isT
      rw [Bool.eq_iff_iff]; simp; omega
    · refine Ev.neg (by simpa using h2) ?_
      refine Ev.val (Ev.now _) ?_
      unfold isT
      rw [Bool.eq_iff_iff]; simp; omega
  · refine Ev.neg (by simpa using h) ?_
    refine Ev.val (Ev.now _) ?_
    unfold isT
    rw [Bool.eq_iff_iff]; simp; omega

/-! impl_areTurns_1 -/
theorem impl_areTurns_1_ev (n d : Int) : Ev (fun k => impl_areTurns_1.f k n d) (!isT n d) := by
  unfold impl_areTurns_1.f
  exact Ev.bind (impl_IsTurn_ev n d) (Ev.now _)

/-! impl_areTurns -/
theorem impl_areTurns_g : ∀ l : List S24, Ev (fun k => impl_areTurns.g k l) (l.all fun x => isT x.f0 x.f1)
  | [] => Ev.now _
  | x :: xs => by
    have e : (fun k => impl_areTurns.g k (x :: xs)) = fun k => (impl_areTurns_1.f k x.f0 x.f1).bind fun b => if b = true then some false else impl_areTurns.g k xs := by funext k; rfl
    rw [e]
    refine Ev.bind (impl_areTurns_1_ev _ _) ?_
    rw [List.all_cons]
    cases isT x.f0 x.f1
    · exact Ev.pos rfl (Ev.now _)
    · exact Ev.neg (by decide) (impl_areTurns_g xs)
theorem impl_areTurns_ev (l : List S24) (hl : l.length < 4611686018427387904) : Ev (fun k => impl_areTurns.f k l) (l.all fun x => isT x.f0 x.f1) := by
  unfold impl_areTurns.f
  exact Ev.pos hl (impl_areTurns_g l)
theorem impl_areTurns_two (a b c d : Int) : Ev (fun k => impl_areTurns.f k [(⟨a, b⟩ : S24), (⟨c, d⟩ : S24)]) (isT a b && isT c d) :=
  Ev.val (impl_areTurns_ev _ (by simp)) (by simp)

/-! cmp_isNaN_int -/
theorem cmp_isNaN_int_eq (a : Int) : cmp_isNaN_int.f a = some false := by unfold cmp_isNaN_int.f; simp

/-! cmp_Compare_int -/
theorem cmp_Compare_int_eq (a b : Int) : cmp_Compare_int.f a b = some (sg (a - b)) := by
  unfold cmp_Compare_int.f sg
  simp only [cmp_isNaN_int_eq, Option.bind_some, Bool.false_eq_true, if_false]
  by_cases h : a < b
  · rw [if_pos h, if_neg (by omega), if_pos (by omega)]
  · rw [if_neg h]
    by_cases h2 : a > b
    · rw [if_pos h2, if_pos (by omega)]
    · rw [if_neg h2, if_neg (by omega), if_neg (by omega)]

/-! impl_Turn_compare -/
theorem impl_Turn_compare_eq (a b c d : Int) (ha : isT a b = true) (hc : isT c d = true) : impl_Turn_compare.f a b c d = some (sg (a * d - c * b)) := by
  obtain ⟨p1, p2, p3, p4, _⟩ := isT_iff.1 ha
  obtain ⟨r1, r2, r3, r4, _⟩ := isT_iff.1 hc
  have m1 := mul_bound (a := a) (b := d) (A := 1000000) (B := 1000000) (by omega) (by omega) (by omega) (by omega)
  have m2 := mul_bound (a := c) (b := b) (A := 1000000) (B := 1000000) (by omega) (by omega) (by omega) (by omega)
  unfold impl_Turn_compare.f
  rw [wrap_id (x := a * d) (by omega) (by omega), wrap_id (x := c * b) (by omega) (by omega)]
  simp only [cmp_Compare_int_eq, Option.bind_some]

/-! impl_CompareTurns -/
theorem impl_CompareTurns_ev (a b c d : Int) : Ev (fun k => impl_CompareTurns.f k a b c d) (vCmp a b c d) := by
  unfold impl_CompareTurns.f vCmp
  refine Ev.bind (impl_areTurns_two a b c d) ?_
  cases h : isT a b && isT c d
  · exact Ev.neg (by decide) (Ev.now _)
  refine Ev.pos rfl ?_
  rw [Bool.and_eq_true] at h
  simp only [impl_Turn_compare_eq a b c d h.1 h.2, Option.bind_some]
  exact Ev.now _

/-! laws_FnExactCompareTurns -/
theorem FnExactCompareTurns : laws_FnExactCompareTurns.Pure := by
  intro a b c d _ _ _ _
  apply Ev.rounds (g := fun k => laws_FnExactCompareTurns.f k a b c d)
  unfold laws_FnExactCompareTurns.f laws_toTurn.f
  simp only [Option.bind_some]
  refine Ev.bind (spec_CompareTurns_ev a b c d) ?_
  refine Ev.bind (impl_CompareTurns_ev a b c d) ?_
  simp only [bne_self_eq_false, Bool.false_eq_true, if_false, if_true]
  exact Ev.now _

end Go.Proofs.Ytodjlnpopaodoaa.Pure
