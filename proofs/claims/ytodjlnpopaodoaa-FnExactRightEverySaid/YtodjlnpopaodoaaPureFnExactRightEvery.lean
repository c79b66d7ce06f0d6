/- FnExactRightEvery of the program answers as the reference does, whatever is given: the pure part of the proof. No condition. -/
import Derived.Test.YtodjlnpopaodoaaPFnExactRightEveryx0
import Derived.Test.YtodjlnpopaodoaaPFnExactRightEveryx1
import Derived.Test.YtodjlnpopaodoaaPFnExactRightEveryx2
import Derived.Test.YtodjlnpopaodoaaPFnExactRightEveryx3
import Derived.Test.YtodjlnpopaodoaaMath
set_option linter.unusedVariables false
set_option linter.unusedSimpArgs false
namespace Go.Proofs.Ytodjlnpopaodoaa.Pure
open Go.RowKit Go.Proofs.Ytodjlnpopaodoaa.PFnExactRightEvery Go.Proofs.YtodjlnpopaodoaaW.PrintWords Go.Proofs.YtodjlnpopaodoaaW.PrintLast Go.Proofs.YtodjlnpopaodoaaW.PrintMore Go.Proofs.Ytodjlnpopaodoaa.Math

/-! spec_l1In -/
theorem spec_l1In_eq (a b c : Int) : spec_l1In.f a b c = some (decide (b ≤ a ∧ a ≤ c)) := by
  unfold spec_l1In.f
  by_cases h : a ≥ b
  · rw [if_pos h]; simp [show b ≤ a from h]
  · rw [if_neg h]; simp [show ¬ b ≤ a from h]

/-! spec_diCommon -/
theorem spec_diCommon_l0 : ∀ (n : Nat) (a b : Int), 0 ≤ a → 0 ≤ b → b < n → Ev (fun k => spec_diCommon.l0 k a b) (Int.gcd a b : Int) := by
  intro n
  induction n with
  | zero => intro a b _ h1 h2; omega
  | succ n ih =>
    intro a b ha hb hn
    by_cases h : b = 0
    · subst h
      refine Ev.step (f := fun _ => some a) (fun k => ?_) ?_
      · simp only [spec_diCommon.l0]
        rw [if_neg (by omega)]
      · rw [gcd_zero ha]; exact Ev.now a
    · have h1 := tmod_range ha (show 0 < b by omega)
      refine Ev.step (f := fun k => spec_diCommon.l0 k b (Int.tmod a b)) (fun k => ?_) ?_
      · simp only [spec_diCommon.l0]
        rw [if_pos (by omega), if_neg h]
      · rw [← gcd_step ha (show 0 < b by omega)]
        exact ih b _ (by omega) (by omega) (by omega)
theorem spec_diCommon_ev (a b : Int) (ha : 0 ≤ a) (hb : 0 ≤ b) : Ev (fun k => spec_diCommon.f k a b) (Int.gcd a b : Int) := by
  unfold spec_diCommon.f
  exact spec_diCommon_l0 (b.toNat + 1) a b ha hb (by omega)

/-! spec_diGood -/
theorem spec_diGood_ev (n d : Int) : Ev (fun k => spec_diGood.f k n d) (isT n d) := by
  unfold spec_diGood.f
  simp only [spec_l1In_eq, Option.bind_some]
  by_cases h : 1 ≤ d ∧ d ≤ 1000000
  · refine Ev.pos (by simpa using h) ?_
    rw [wrap_id (by omega) (by omega)]
    by_cases h2 : 0 ≤ n ∧ n ≤ d - 1
    · refine Ev.pos (by simpa using h2) ?_
      refine Ev.bind (spec_diCommon_ev n d (by omega) (by omega)) ?_
      refine Ev.val (Ev.now _) ?_
      unfold isT
      rw [Bool.eq_iff_iff]; simp; omega
    · refine Ev.neg (by simpa using h2) ?_
      refine Ev.val (Ev.now _) ?_
      unfold isT
      rw [Bool.eq_iff_iff]; simp; omega
  · refine Ev.neg (by simpa using h) ?_
    refine Ev.val (Ev.now _) ?_
    unfold isT
    rw [Bool.eq_iff_iff]; simp; omega

/-! spec_drClock -/
theorem spec_drClock_ev (n d a b : Int) : Ev (fun k => spec_drClock.f k n d a b) (isK n d a b) := by
  unfold spec_drClock.f isK isC
  refine Ev.bind (spec_diGood_ev n d) ?_
  simp only [spec_l1In_eq, Option.bind_some]
  cases isT n d
  · exact Ev.val (Ev.now _) (by simp)
  · refine Ev.pos rfl ?_
    by_cases h : d ≤ 1000
    · refine Ev.pos h ?_
      by_cases h2 : 1 ≤ a ∧ a ≤ 1000
      · refine Ev.pos (by simpa using h2) ?_
        by_cases h3 : 1 ≤ b ∧ b ≤ 1000
        · refine Ev.pos (by simpa using h3) ?_
          refine Ev.bind (spec_diCommon_ev a b (by omega) (by omega)) ?_
          refine Ev.val (Ev.now _) ?_
          rw [Bool.eq_iff_iff]; simp; omega
        · refine Ev.neg (by simpa using h3) ?_
          refine Ev.val (Ev.now _) ?_
          rw [Bool.eq_iff_iff]; simp; omega
      · refine Ev.neg (by simpa using h2) ?_
        refine Ev.val (Ev.now _) ?_
        rw [Bool.eq_iff_iff]; simp; omega
    · refine Ev.neg h ?_
      exact Ev.val (Ev.now _) (by simp [h])

/-! spec_drGood -/
theorem spec_drGood_ev (n d : Int) : Ev (fun k => spec_drGood.f k n d) (isS n d) := by
  unfold spec_drGood.f
  simp only [spec_l1In_eq, Option.bind_some]
  by_cases h : 0 ≤ n ∧ n ≤ 1000000
  · refine Ev.pos (by simpa using h) ?_
    by_cases h2 : 1 ≤ d ∧ d ≤ 10000
    · refine Ev.pos (by simpa using h2) ?_
      refine Ev.bind (spec_diCommon_ev n d (by omega) (by omega)) ?_
      refine Ev.val (Ev.now _) ?_
      unfold isS
      rw [Bool.eq_iff_iff]; simp; omega
    · refine Ev.neg (by simpa using h2) ?_
      refine Ev.val (Ev.now _) ?_
      unfold isS
      rw [Bool.eq_iff_iff]; simp; omega
  · refine Ev.neg (by simpa using h) ?_
    refine Ev.val (Ev.now _) ?_
    unfold isS
    rw [Bool.eq_iff_iff]; simp; omega

/-! spec_drMake -/
theorem spec_drMake_ev (n d : Int) (hn : 0 ≤ n) (hn' : n ≤ 4000000000000000000) (hd : 0 < d) (hd' : d ≤ 4000000000000000000) : Ev (fun k => spec_drMake.f k n d) (sp n d) := by
  unfold spec_drMake.f
  refine Ev.bind (spec_diCommon_ev n d hn (by omega)) ?_
  have hg := gcd_pos' n hd
  refine Ev.neg (by omega) ?_
  have e1 := Int.tdiv_eq_ediv_of_nonneg (b := (Int.gcd n d : Int)) hn
  have e2 := Int.tdiv_eq_ediv_of_nonneg (b := (Int.gcd n d : Int)) (show 0 ≤ d by omega)
  have b1 := ediv_le' hn hg
  have b2 := ediv_le' (show 0 ≤ d by omega) hg
  rw [e1, e2, wrap_id (by omega) (by omega), wrap_id (by omega) (by omega)]
  refine Ev.bind (spec_drGood_ev _ _) ?_
  unfold sp
  split <;> exact Ev.now _

/-! spec_l1Most -/
theorem spec_l1Most_eq (a b : Int) : spec_l1Most.f a b = some (if a > b then a else b) := by
  unfold spec_l1Most.f; split <;> rfl

/-! spec_l1Abs -/
theorem spec_l1Abs_eq (a : Int) (h0 : -9000000000000000000 ≤ a) (h1 : a ≤ 9000000000000000000) : spec_l1Abs.f a = some (ab a) := by
  unfold spec_l1Abs.f
  simp only [spec_l1Most_eq, Option.bind_some]
  rw [wrap_id (by omega) (by omega)]
  unfold ab
  congr 1
  split <;> split <;> omega

/-! spec_RightEvery -/
theorem spec_RightEvery_ev (a b m n : Int) : Ev (fun k => spec_RightEvery.f k a b m n) (vEvery a b m n) := by
  unfold spec_RightEvery.f vEvery
  have no : Ev (fun k => spec_RightEvery.j0 k true a b m n) (0, 0, false) := by
    refine Ev.step (f := fun _ => some (0, 0, false)) (fun k => ?_) (Ev.now _)
    simp only [spec_RightEvery.j0]; rfl
  refine Ev.bind (spec_drClock_ev a b m n) ?_
  cases h1 : isK a b m n
  · exact Ev.neg (by decide) no
  refine Ev.pos rfl ?_
  obtain ⟨p0, p1, p2, p3, p4⟩ := isK_iff.1 h1
  by_cases h : m = n
  · rw [show (m == n) = true by simpa using h, if_pos rfl, if_pos h]
    exact no
  · rw [show (m == n) = false by simpa using h, if_pos rfl, if_neg h]
    refine Ev.step (f := fun k => (spec_l1Abs.f (wrap64 (m - n))).bind fun t => ((spec_drMake.f k n t).bind fun bt => (some (bt.1, bt.2.1, bt.2.2)))) (fun k => ?_) ?_
    · simp only [spec_RightEvery.j0]; simp
    rw [wrap_id (by omega) (by omega), spec_l1Abs_eq _ (by omega) (by omega)]
    simp only [Option.bind_some]
    have hab : 0 < ab (m - n) ∧ ab (m - n) ≤ 1000 := by unfold ab; split <;> omega
    exact Ev.bind (spec_drMake_ev n (ab (m - n)) (by omega) (by omega) (by omega) (by omega)) (Ev.now _)

/-! impl_gain -/
theorem impl_gain_right (a b m n : Int) (h1 : isK a b m n = true) : impl_gain.f a b m n 0 1 1 1 = some (m - n, n) := by
  obtain ⟨p0, p1, p2, p3, p4⟩ := isK_iff.1 h1
  unfold impl_gain.f
  rw [wrap_id (x := m * 1) (by omega) (by omega), wrap_id (x := 1 * n) (by omega) (by omega), wrap_id (x := n * 1) (by omega) (by omega), wrap_id (by omega) (by omega), Int.mul_one, Int.one_mul, Int.mul_one]

/-! impl_within -/
theorem impl_within_eq (a b c : Int) : impl_within.f a b c = some (decide (b ≤ a ∧ a ≤ c)) := by
  unfold impl_within.f
  by_cases h : a ≥ b
  · rw [if_pos h]; simp [show b ≤ a from h]
  · rw [if_neg h]; simp [show ¬ b ≤ a from h]

/-! impl_gcd -/
theorem impl_gcd_l0 : ∀ (n : Nat) (a b : Int), 0 ≤ a → a ≤ 9223372036854775807 → 0 ≤ b → b ≤ 9223372036854775807 → b < n → Ev (fun k => impl_gcd.l0 k a b) (Int.gcd a b : Int) := by
  intro n
  induction n with
  | zero => intro a b _ _ h1 _ h2; omega
  | succ n ih =>
    intro a b ha ha' hb hb' hn
    by_cases h : b = 0
    · subst h
      refine Ev.step (f := fun _ => some a) (fun k => ?_) ?_
      · simp only [impl_gcd.l0]
        rw [wrap_id (by omega) (by omega)]
        unfold mx; simp; omega
      · rw [gcd_zero ha]; exact Ev.now a
    · have h1 := tmod_range ha (show 0 < b by omega)
      refine Ev.step (f := fun k => impl_gcd.l0 k b (Int.tmod a b)) (fun k => ?_) ?_
      · simp only [impl_gcd.l0]
        rw [if_neg h]
      · rw [← gcd_step ha (show 0 < b by omega)]
        exact ih b _ (by omega) (by omega) (by omega) (by omega) (by omega)
theorem impl_gcd_ev (a b : Int) (ha : 0 ≤ a) (ha' : a ≤ 9223372036854775807) (hb : 0 ≤ b) (hb' : b ≤ 9223372036854775807) : Ev (fun k => impl_gcd.f k a b) (Int.gcd a b : Int) := by
  unfold impl_gcd.f
  exact impl_gcd_l0 (b.toNat + 1) a b ha ha' hb hb' (by omega)

/-! impl_IsTurn -/
theorem impl_IsTurn_ev (n d : Int) : Ev (fun k => impl_IsTurn.f k n d) (isT n d) := by
  unfold impl_IsTurn.f
  simp only [impl_within_eq, Option.bind_some]
  by_cases h : 1 ≤ d ∧ d ≤ 1000000
  · refine Ev.pos (by simpa using h) ?_
    rw [wrap_id (by omega) (by omega)]
    by_cases h2 : 0 ≤ n ∧ n ≤ d - 1
    · refine Ev.pos (by simpa using h2) ?_
      refine Ev.bind (impl_gcd_ev n d (by omega) (by omega) (by omega) (by omega)) ?_
      refine Ev.val (Ev.now _) ?_
      unfold isT
      rw [Bool.eq_iff_iff]; simp; omega
    · refine Ev.neg (by simpa using h2) ?_
      refine Ev.val (Ev.now _) ?_
      unfold isT
      rw [Bool.eq_iff_iff]; simp; omega
  · refine Ev.neg (by simpa using h) ?_
    refine Ev.val (Ev.now _) ?_
    unfold isT
    rw [Bool.eq_iff_iff]; simp; omega

/-! impl_IsClock -/
theorem impl_IsClock_ev (n d a b : Int) : Ev (fun k => impl_IsClock.f k n d a b) (isK n d a b) := by
  unfold impl_IsClock.f isK isC
  refine Ev.bind (impl_IsTurn_ev n d) ?_
  simp only [impl_within_eq, Option.bind_some]
  cases isT n d
  · exact Ev.val (Ev.now _) (by simp)
  · refine Ev.pos rfl ?_
    by_cases h : d ≤ 1000
    · refine Ev.pos h ?_
      by_cases h2 : 1 ≤ a ∧ a ≤ 1000
      · refine Ev.pos (by simpa using h2) ?_
        by_cases h3 : 1 ≤ b ∧ b ≤ 1000
        · refine Ev.pos (by simpa using h3) ?_
          refine Ev.bind (impl_gcd_ev a b (by omega) (by omega) (by omega) (by omega)) ?_
          refine Ev.val (Ev.now _) ?_
          rw [Bool.eq_iff_iff]; simp; omega
        · refine Ev.neg (by simpa using h3) ?_
          refine Ev.val (Ev.now _) ?_
          rw [Bool.eq_iff_iff]; simp; omega
      · refine Ev.neg (by simpa using h2) ?_
        refine Ev.val (Ev.now _) ?_
        rw [Bool.eq_iff_iff]; simp; omega
    · refine Ev.neg h ?_
      exact Ev.val (Ev.now _) (by simp [h])

/-! impl_IsSpan -/
theorem impl_IsSpan_ev (n d : Int) : Ev (fun k => impl_IsSpan.f k n d) (isS n d) := by
  unfold impl_IsSpan.f
  simp only [impl_within_eq, Option.bind_some]
  by_cases h : 0 ≤ n ∧ n ≤ 1000000
  · refine Ev.pos (by simpa using h) ?_
    by_cases h2 : 1 ≤ d ∧ d ≤ 10000
    · refine Ev.pos (by simpa using h2) ?_
      refine Ev.bind (impl_gcd_ev n d (by omega) (by omega) (by omega) (by omega)) ?_
      refine Ev.val (Ev.now _) ?_
      unfold isS
      rw [Bool.eq_iff_iff]; simp; omega
    · refine Ev.neg (by simpa using h2) ?_
      refine Ev.val (Ev.now _) ?_
      unfold isS
      rw [Bool.eq_iff_iff]; simp; omega
  · refine Ev.neg (by simpa using h) ?_
    refine Ev.val (Ev.now _) ?_
    unfold isS
    rw [Bool.eq_iff_iff]; simp; omega

/-! impl_spanOf -/
theorem impl_spanOf_ev (n d : Int) (hn : 0 ≤ n) (hn' : n ≤ 4000000000000000000) (hd : 0 < d) (hd' : d ≤ 4000000000000000000) : Ev (fun k => impl_spanOf.f k n d) (sp n d) := by
  unfold impl_spanOf.f
  refine Ev.bind (impl_gcd_ev n d hn (by omega) (by omega) (by omega)) ?_
  have hg := gcd_pos' n hd
  refine Ev.neg (by omega) ?_
  have e1 := Int.tdiv_eq_ediv_of_nonneg (b := (Int.gcd n d : Int)) hn
  have e2 := Int.tdiv_eq_ediv_of_nonneg (b := (Int.gcd n d : Int)) (show 0 ≤ d by omega)
  have b1 := ediv_le' hn hg
  have b2 := ediv_le' (show 0 ≤ d by omega) hg
  rw [e1, e2, wrap_id (by omega) (by omega), wrap_id (by omega) (by omega)]
  refine Ev.bind (impl_IsSpan_ev _ _) ?_
  unfold sp
  split <;> exact Ev.now _

/-! impl_RightEvery -/
theorem impl_RightEvery_ev (a b m n : Int) : Ev (fun k => impl_RightEvery.f k a b m n) (vEvery a b m n) := by
  unfold impl_RightEvery.f impl_rightClock.f impl_every.f vEvery
  simp only [Option.bind_some]
  cases h1 : isK a b m n
  · unfold impl_gain.f
    simp only [Option.bind_some]
    refine Ev.bind (a := (0, 0, false)) (Ev.bind (impl_IsClock_ev a b m n) ?_) ?_
    · rw [h1]; exact Ev.neg (by decide) (Ev.now _)
    · exact Ev.now _
  rw [impl_gain_right a b m n h1]
  simp only [Option.bind_some]
  obtain ⟨p0, p1, p2, p3, p4⟩ := isK_iff.1 h1
  refine Ev.bind (a := if m = n then (0, 0, false) else sp n (ab (m - n))) (Ev.bind (impl_IsClock_ev a b m n) ?_) ?_
  · rw [h1]
    refine Ev.pos rfl (Ev.bind (impl_IsClock_ev 0 1 1 1) ?_)
    refine Ev.pos (by decide) ?_
    by_cases h : m = n
    · refine Ev.pos (by omega) ?_
      rw [if_pos h]; exact Ev.now _
    · refine Ev.neg (by omega) ?_
      rw [if_neg h, wrap_id (by omega) (by omega)]
      rw [show mx (m - n) (-(m - n)) = ab (m - n) by unfold mx ab; split <;> split <;> omega]
      have hab : 0 < ab (m - n) ∧ ab (m - n) ≤ 1000 := by unfold ab; split <;> omega
      exact Ev.bind (impl_spanOf_ev n (ab (m - n)) (by omega) (by omega) (by omega) (by omega)) (Ev.now _)
  · exact Ev.now _

/-! laws_eqSpan -/
theorem laws_eqSpan_self (a b : Int) : laws_eqSpan.f a b a b = some true := by
  unfold laws_eqSpan.f; rw [if_pos rfl, if_pos rfl]

/-! laws_FnExactRightEvery -/
theorem FnExactRightEvery : laws_FnExactRightEvery.Pure := by
  intro a b m n _ _ _ _
  apply Ev.rounds (g := fun k => laws_FnExactRightEvery.f k a b m n)
  unfold laws_FnExactRightEvery.f laws_toClock.f laws_toTurn.f
  simp only [Option.bind_some]
  refine Ev.bind (spec_RightEvery_ev a b m n) ?_
  refine Ev.bind (impl_RightEvery_ev a b m n) ?_
  simp only [laws_eqSpan_self, Option.bind_some, bne_self_eq_false, Bool.false_eq_true, if_false, if_true]
  exact Ev.now _

end Go.Proofs.Ytodjlnpopaodoaa.Pure
