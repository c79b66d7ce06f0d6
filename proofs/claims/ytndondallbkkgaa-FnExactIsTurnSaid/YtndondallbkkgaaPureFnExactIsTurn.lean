/- FnExactIsTurn of the program answers as the reference does, whatever is given: the pure part of the proof. No condition. -/
import Derived.Test.YtndondallbkkgaaPFnExactIsTurnx0
import Derived.Test.YtndondallbkkgaaPFnExactIsTurnx1
import Derived.Test.YtndondallbkkgaaMath
set_option linter.unusedVariables false
set_option linter.unusedSimpArgs false
namespace Go.Proofs.Ytndondallbkkgaa.Pure
open Go.RowKit Go.Proofs.Ytndondallbkkgaa.PFnExactIsTurn Go.Proofs.YtndondallbkkgaaW.PrintWords Go.Proofs.YtndondallbkkgaaW.PrintLast Go.Proofs.YtndondallbkkgaaW.PrintMore Go.Proofs.Ytndondallbkkgaa.Math

/-! spec_l1In -/
theorem spec_l1In_eq (a b c : Int) : spec_l1In.f a b c = some (decide (b ≤ a ∧ a ≤ c)) := by
  unfold spec_l1In.f
  by_cases h : a ≥ b
  · rw [if_pos h]; simp [show b ≤ a from h]
  · rw [if_neg h]; simp [show ¬ b ≤ a from h]

/-! spec_diCommon -/
theorem spec_diCommon_l0 : ∀ (n : Nat) (a b : Int), 0 ≤ a → 0 ≤ b → b < n → Ev (fun k => spec_diCommon.l0 k a b) (Int.gcd a b : Int) := by
  intro n
  induction n with
  | zero => intro a b _ h1 h2; omega
  | succ n ih =>
    intro a b ha hb hn
    by_cases h : b = 0
    · subst h
      refine Ev.step (f := fun _ => some a) (fun k => ?_) ?_
      · simp only [spec_diCommon.l0]
        rw [if_neg (by omega)]
      · rw [gcd_zero ha]; exact Ev.now a
    · have h1 := tmod_range ha (show 0 < b by omega)
      refine Ev.step (f := fun k => spec_diCommon.l0 k b (Int.tmod a b)) (fun k => ?_) ?_
      · simp only [spec_diCommon.l0]
        rw [if_pos (by omega), if_neg h]
      · rw [← gcd_step ha (show 0 < b by omega)]
        exact ih b _ (by omega) (by omega) (by omega)
theorem spec_diCommon_ev (a b : Int) (ha : 0 ≤ a) (hb : 0 ≤ b) : Ev (fun k => spec_diCommon.f k a b) (Int.gcd a b : Int) := by
  unfold spec_diCommon.f
  exact spec_diCommon_l0 (b.toNat + 1) a b ha hb (by omega)

/-! spec_diGood -/
theorem spec_diGood_ev (n d : Int) : Ev (fun k => spec_diGood.f k n d) (isT n d) := by
  unfold spec_diGood.f
  simp only [spec_l1In_eq, Option.bind_some]
  by_cases h : 1 ≤ d ∧ d ≤ 1000000
  · refine Ev.pos (by simpa using h) ?_
    rw [wrap_id (by omega) (by omega)]
    by_cases h2 : 0 ≤ n ∧ n ≤ d - 1
    · refine Ev.pos (by simpa using h2) ?_
      refine Ev.bind (spec_diCommon_ev n d (by omega) (by omega)) ?_
      refine Ev.val (Ev.now _) ?_
      unfold isT
      rw [Bool.eq_iff_iff]; simp; omega
    · refine Ev.neg (by simpa using h2) ?_
      refine Ev.val (Ev.now _) ?_
      unfold isT
      rw [Bool.eq_iff_iff]; simp; omega
  · refine Ev.neg (by simpa using h) ?_
    refine Ev.val (Ev.now _) ?_
    unfold isT
    rw [Bool.eq_iff_iff]; simp; omega

/-! spec_IsTurn -/
theorem spec_IsTurn_ev (n d : Int) : Ev (fun k => spec_IsTurn.f k n d) (isT n d) := by
  unfold spec_IsTurn.f
  exact Ev.bind (spec_diGood_ev n d) (Ev.now _)

/-! impl_within -/
theorem impl_within_eq (a b c : Int) : impl_within.f a b c = some (decide (b ≤ a ∧ a ≤ c)) := by
  unfold impl_within.f
  by_cases h : a ≥ b
  · rw [if_pos h]; simp [show b ≤ a from h]
  · rw [if_neg h]; simp [show ¬ b ≤ a from h]

/-! impl_gcd -/
theorem impl_gcd_l0 : ∀ (n : Nat) (a b : Int), 0 ≤ a → a ≤ 9223372036854775807 → 0 ≤ b → b ≤ 9223372036854775807 → b < n → Ev (fun k => impl_gcd.l0 k a b) (Int.gcd a b : Int) := by
  intro n
  induction n with
  | zero => intro a b _ _ h1 _ h2; omega
  | succ n ih =>
    intro a b ha ha' hb hb' hn
    by_cases h : b = 0
    · subst h
      refine Ev.step (f := fun _ => some a) (fun k => ?_) ?_
      · simp only [impl_gcd.l0]
        rw [wrap_id (by omega) (by omega)]
        unfold mx; simp; omega
      · rw [gcd_zero ha]; exact Ev.now a
    · have h1 := tmod_range ha (show 0 < b by omega)
      refine Ev.step (f := fun k => impl_gcd.l0 k b (Int.tmod a b)) (fun k => ?_) ?_
      · simp only [impl_gcd.l0]
        rw [if_neg h]
      · rw [← gcd_step ha (show 0 < b by omega)]
        exact ih b _ (by omega) (by omega) (by omega) (by omega) (by omega)
theorem impl_gcd_ev (a b : Int) (ha : 0 ≤ a) (ha' : a ≤ 9223372036854775807) (hb : 0 ≤ b) (hb' : b ≤ 9223372036854775807) : Ev (fun k => impl_gcd.f k a b) (Int.gcd a b : Int) := by
  unfold impl_gcd.f
  exact impl_gcd_l0 (b.toNat + 1) a b ha ha' hb hb' (by omega)

/-! impl_IsTurn -/
theorem impl_IsTurn_ev (n d : Int) : Ev (fun k => impl_IsTurn.f k n d) (isT n d) := by
  unfold impl_IsTurn.f
  simp only [impl_within_eq, Option.bind_some]
  by_cases h : 1 ≤ d ∧ d ≤ 1000000
  · refine Ev.pos (by simpa using h) ?_
    rw [wrap_id (by omega) (by omega)]
    by_cases h2 : 0 ≤ n ∧ n ≤ d - 1
    · refine Ev.pos (by simpa using h2) ?_
      refine Ev.bind (impl_gcd_ev n d (by omega) (by omega) (by omega) (by omega)) ?_
      refine Ev.val (Ev.now _) ?_
      unfold isT
      rw [Bool.eq_iff_iff]; simp; omega
    · refine Ev.neg (by simpa using h2) ?_
      refine Ev.val (Ev.now _) ?_
      unfold isT
      rw [Bool.eq_iff_iff]; simp; omega
  · refine Ev.neg (by simpa using h) ?_
    refine Ev.val (Ev.now _) ?_
    unfold isT
    rw [Bool.eq_iff_iff]; simp; omega

/-! laws_FnExactIsTurn -/
theorem FnExactIsTurn : laws_FnExactIsTurn.Pure := by
  intro n d _ _
  apply Ev.rounds (g := fun k => laws_FnExactIsTurn.f k n d)
  unfold laws_FnExactIsTurn.f laws_toTurn.f
  simp only [Option.bind_some]
  refine Ev.bind (spec_IsTurn_ev n d) ?_
  refine Ev.bind (impl_IsTurn_ev n d) ?_
  simp only [bne_self_eq_false, Bool.false_eq_true, if_false]
  exact Ev.now _

end Go.Proofs.Ytndondallbkkgaa.Pure
