/- FnExactIsClock of the program answers as the reference does, whatever is given: the pure part of the proof. No condition. -/
import Derived.Test.YtndondallbkkgaaPFnExactIsClockx0
import Derived.Test.YtndondallbkkgaaPFnExactIsClockx1
import Derived.Test.YtndondallbkkgaaMath
set_option linter.unusedVariables false
set_option linter.unusedSimpArgs false
namespace Go.Proofs.Ytndondallbkkgaa.Pure
open Go.RowKit Go.Proofs.Ytndondallbkkgaa.PFnExactIsClock Go.Proofs.YtndondallbkkgaaW.PrintWords Go.Proofs.YtndondallbkkgaaW.PrintLast Go.Proofs.YtndondallbkkgaaW.PrintMore Go.Proofs.Ytndondallbkkgaa.Math

/-! spec_l1In -/
theorem spec_l1In_eq (a b c : Int) : spec_l1In.f a b c = some (decide (b ≤ a ∧ a ≤ c)) := by
  unfold spec_l1In.f
  by_cases h : a ≥ b
  · rw [if_pos h]; simp [show b ≤ a from h]
  · rw [if_neg h]; simp [show ¬ b ≤ a from h]

/-! spec_diCommon -/
theorem spec_diCommon_l0 : ∀ (n : Nat) (a b : Int), 0 ≤ a → 0 ≤ b → b < n → Ev (fun k => spec_diCommon.l0 k a b) (Int.gcd a b : Int) := by
  intro n
  induction n with
  | zero => intro a b _ h1 h2; omega
  | succ n ih =>
    intro a b ha hb hn
    by_cases h : b = 0
    · subst h
      refine Ev.step (f := fun _ => some a) (fun k => ?_) ?_
      · simp only [spec_diCommon.l0]
        rw [if_neg (by omega)]
      · rw [gcd_zero ha]; exact Ev.now a
    · have h1 := tmod_range ha (show 0 < b by omega)
      refine Ev.step (f := fun k => spec_diCommon.l0 k b (Int.tmod a b)) (fun k => ?_) ?_
      · simp only [spec_diCommon.l0]
        rw [if_pos (by omega), if_neg h]
      · rw [← gcd_step ha (show 0 < b by omega)]
        exact ih b _ (by omega) (by omega) (by omega)
theorem spec_diCommon_ev (a b : Int) (ha : 0 ≤ a) (hb : 0 ≤ b) : Ev (fun k => spec_diCommon.f k a b) (Int.gcd a b : Int) := by
  unfold spec_diCommon.f
  exact spec_diCommon_l0 (b.toNat + 1) a b ha hb (by omega)

/-! spec_diGood -/
theorem spec_diGood_ev (n d : Int) : Ev (fun k => spec_diGood.f k n d) (isT n d) := by
  unfold spec_diGood.f
  simp only [spec_l1In_eq, Option.bind_some]
  by_cases h : 1 ≤ d ∧ d ≤ 1000000
  · refine Ev.pos (by simpa using h) ?_
    rw [wrap_id (by omega) (by omega)]
    by_cases h2 : 0 ≤ n ∧ n ≤ d - 1
    · refine Ev.pos (by simpa using h2) ?_
      refine Ev.bind (spec_diCommon_ev n d (by omega) (by omega)) ?_
      refine Ev.val (Ev.now _) ?_
      unfold isT
      rw [Bool.eq_iff_iff]; simp; omega
    · refine Ev.neg (by simpa using h2) ?_
      refine Ev.val (Ev.now _) ?_
      unfold isT
      rw [Bool.eq_iff_iff]; simp; omega
  · refine Ev.neg (by simpa using h) ?_
    refine Ev.val (Ev.now _) ?_
    unfold isT
    rw [Bool.eq_iff_iff]; simp; omega

/-! spec_drClock -/
theorem spec_drClock_ev (n d a b : Int) : Ev (fun k => spec_drClock.f k n d a b) (isK n d a b) := by
  unfold spec_drClock.f isK isC
  refine Ev.bind (spec_diGood_ev n d) ?_
  simp only [spec_l1In_eq, Option.bind_some]
  cases isT n d
  · exact Ev.val (Ev.now _) (by simp)
  · refine Ev.pos rfl ?_
    by_cases h : d ≤ 1000
    · refine Ev.pos h ?_
      by_cases h2 : 1 ≤ a ∧ a ≤ 1000
      · refine Ev.pos (by simpa using h2) ?_
        by_cases h3 : 1 ≤ b ∧ b ≤ 1000
        · refine Ev.pos (by simpa using h3) ?_
          refine Ev.bind (spec_diCommon_ev a b (by omega) (by omega)) ?_
          refine Ev.val (Ev.now _) ?_
          rw [Bool.eq_iff_iff]; simp; omega
        · refine Ev.neg (by simpa using h3) ?_
          refine Ev.val (Ev.now _) ?_
          rw [Bool.eq_iff_iff]; simp; omega
      · refine Ev.neg (by simpa using h2) ?_
        refine Ev.val (Ev.now _) ?_
        rw [Bool.eq_iff_iff]; simp; omega
    · refine Ev.neg h ?_
      exact Ev.val (Ev.now _) (by simp [h])

/-! spec_IsClock -/
theorem spec_IsClock_ev (n d a b : Int) : Ev (fun k => spec_IsClock.f k n d a b) (isK n d a b) := by
  unfold spec_IsClock.f
  exact Ev.bind (spec_drClock_ev n d a b) (Ev.now _)

/-! impl_within -/
theorem impl_within_eq (a b c : Int) : impl_within.f a b c = some (decide (b ≤ a ∧ a ≤ c)) := by
  unfold impl_within.f
  by_cases h : a ≥ b
  · rw [if_pos h]; simp [show b ≤ a from h]
  · rw [if_neg h]; simp [show ¬ b ≤ a from h]

/-! impl_gcd -/
theorem impl_gcd_l0 : ∀ (n : Nat) (a b : Int), 0 ≤ a → a ≤ 9223372036854775807 → 0 ≤ b → b ≤ 9223372036854775807 → b < n → Ev (fun k => impl_gcd.l0 k a b) (Int.gcd a b : Int) := by
  intro n
  induction n with
  | zero => intro a b _ _ h1 _ h2; omega
  | succ n ih =>
    intro a b ha ha' hb hb' hn
    by_cases h : b = 0
    · subst h
      refine Ev.step (f := fun _ => some a) (fun k => ?_) ?_
      · simp only [impl_gcd.l0]
        rw [wrap_id (by omega) (by omega)]
        unfold mx; simp; omega
      · rw [gcd_zero ha]; exact Ev.now a
    · have h1 := tmod_range ha (show 0 < b by omega)
      refine Ev.step (f := fun k => impl_gcd.l0 k b (Int.tmod a b)) (fun k => ?_) ?_
      · simp only [impl_gcd.l0]
        rw [if_neg h]
      · rw [← gcd_step ha (show 0 < b by omega)]
        exact ih b _ (by omega) (by omega) (by omega) (by omega) (by omega)
theorem impl_gcd_ev (a b : Int) (ha : 0 ≤ a) (ha' : a ≤ 9223372036854775807) (hb : 0 ≤ b) (hb' : b ≤ 9223372036854775807) : Ev (fun k => impl_gcd.f k a b) (Int.gcd a b : Int) := by
  unfold impl_gcd.f
  exact impl_gcd_l0 (b.toNat + 1) a b ha ha' hb hb' (by omega)

/-! impl_IsTurn -/
theorem impl_IsTurn_ev (n d : Int) : Ev (fun k => impl_IsTurn.f k n d) (isT n d) := by
  unfold impl_IsTurn.f
  simp only [impl_within_eq, Option.bind_some]
  by_cases h : 1 ≤ d ∧ d ≤ 1000000
  · refine Ev.pos (by simpa using h) ?_
    rw [wrap_id (by omega) (by omega)]
    by_cases h2 : 0 ≤ n ∧ n ≤ d - 1
    · refine Ev.pos (by simpa using h2) ?_
      refine Ev.bind (impl_gcd_ev n d (by omega) (by omega) (by omega) (by omega)) ?_
      refine Ev.val (Ev.now _) ?_
      unfold isT
      rw [Bool.eq_iff_iff]; simp; omega
    · refine Ev.neg (by simpa using h2) ?_
      refine Ev.val (Ev.now _) ?_
      unfold isT
      rw [Bool.eq_iff_iff]; simp; omega
  · refine Ev.neg (by simpa using h) ?_
    refine Ev.val (Ev.now _) ?_
    unfold isT
    rw [Bool.eq_iff_iff]; simp; omega

/-! impl_IsClock -/
theorem impl_IsClock_ev (n d a b : Int) : Ev (fun k => impl_IsClock.f k n d a b) (isK n d a b) := by
  unfold impl_IsClock.f isK isC
  refine Ev.bind (impl_IsTurn_ev n d) ?_
  simp only [impl_within_eq, Option.bind_some]
  cases isT n d
  · exact Ev.val (Ev.now _) (by simp)
  · refine Ev.pos rfl ?_
    by_cases h : d ≤ 1000
    · refine Ev.pos h ?_
      by_cases h2 : 1 ≤ a ∧ a ≤ 1000
      · refine Ev.pos (by simpa using h2) ?_
        by_cases h3 : 1 ≤ b ∧ b ≤ 1000
        · refine Ev.pos (by simpa using h3) ?_
          refine Ev.bind (impl_gcd_ev a b (by omega) (by omega) (by omega) (by omega)) ?_
          refine Ev.val (Ev.now _) ?_
          rw [Bool.eq_iff_iff]; simp; omega
        · refine Ev.neg (by simpa using h3) ?_
          refine Ev.val (Ev.now _) ?_
          rw [Bool.eq_iff_iff]; simp; omega
      · refine Ev.neg (by simpa using h2) ?_
        refine Ev.val (Ev.now _) ?_
        rw [Bool.eq_iff_iff]; simp; omega
    · refine Ev.neg h ?_
      exact Ev.val (Ev.now _) (by simp [h])

/-! laws_FnExactIsClock -/
theorem FnExactIsClock : laws_FnExactIsClock.Pure := by
  intro n d a b _ _ _ _
  apply Ev.rounds (g := fun k => laws_FnExactIsClock.f k n d a b)
  unfold laws_FnExactIsClock.f laws_toClock.f laws_toTurn.f
  simp only [Option.bind_some]
  refine Ev.bind (spec_IsClock_ev n d a b) ?_
  refine Ev.bind (impl_IsClock_ev n d a b) ?_
  simp only [bne_self_eq_false, Bool.false_eq_true, if_false]
  exact Ev.now _

end Go.Proofs.Ytndondallbkkgaa.Pure
