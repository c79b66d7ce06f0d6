/- FnExactCountMeets of the program answers as the reference does, whatever is given: the pure part of the proof. No condition. -/
import Derived.Test.YtkhlbicmlpbadaaPFnExactCountMeetsx2
import Derived.Test.YtkhlbicmlpbadaaPFnExactCountMeetsx2
import Derived.Test.YtkhlbicmlpbadaaPFnExactCountMeetsx2
import Derived.Test.YtkhlbicmlpbadaaMath
set_option linter.unusedVariables false
set_option linter.unusedSimpArgs false
namespace Go.Proofs.Ytkhlbicmlpbadaa.Pure
open Go.RowKit Go.Proofs.Ytkhlbicmlpbadaa.PFnExactCountMeets Go.Proofs.YtkhlbicmlpbadaaW.PrintWords Go.Proofs.YtkhlbicmlpbadaaW.PrintLast Go.Proofs.YtkhlbicmlpbadaaW.PrintMore Go.Proofs.Ytkhlbicmlpbadaa.Math

/-! impl_within -/
theorem impl_within_eq (a b c : Int) : impl_within.f a b c = some (decide (b ≤ a ∧ a ≤ c)) := by
  unfold impl_within.f
  by_cases h : a ≥ b
  · rw [if_pos h]; simp [show b ≤ a from h]
  · rw [if_neg h]; simp [show ¬ b ≤ a from h]

/-! impl_gcd -/
theorem impl_gcd_l0 : ∀ (n : Nat) (a b : Int), 0 ≤ a → a ≤ 9223372036854775807 → 0 ≤ b → b ≤ 9223372036854775807 → b < n → Ev (fun k => impl_gcd.l0 k a b) (Int.gcd a b : Int) := by
  intro n
  induction n with
  | zero => intro a b _ _ h1 _ h2; omega
  | succ n ih =>
    intro a b ha ha' hb hb' hn
    by_cases h : b = 0
    · subst h
      refine Ev.step (f := fun _ => some a) (fun k => ?_) ?_
      · simp only [impl_gcd.l0]
        rw [wrap_id (by omega) (by omega)]
        unfold mx; simp; omega
      · rw [gcd_zero ha]; exact Ev.now a
    · have h1 := tmod_range ha (show 0 < b by omega)
      refine Ev.step (f := fun k => impl_gcd.l0 k b (Int.tmod a b)) (fun k => ?_) ?_
      · simp only [impl_gcd.l0]
        rw [if_neg h]
      · rw [← gcd_step ha (show 0 < b by omega)]
        exact ih b _ (by omega) (by omega) (by omega) (by omega) (by omega)
theorem impl_gcd_ev (a b : Int) (ha : 0 ≤ a) (ha' : a ≤ 9223372036854775807) (hb : 0 ≤ b) (hb' : b ≤ 9223372036854775807) : Ev (fun k => impl_gcd.f k a b) (Int.gcd a b : Int) := by
  unfold impl_gcd.f
  exact impl_gcd_l0 (b.toNat + 1) a b ha ha' hb hb' (by omega)

/-! impl_IsTurn -/
theorem impl_IsTurn_ev (n d : Int) : Ev (fun k => impl_IsTurn.f k n d) (isT n d) := by
  unfold impl_IsTurn.f
  simp only [impl_within_eq, Option.bind_some]
  by_cases h : 1 ≤ d ∧ d ≤ 1000000
  · refine Ev.pos (by simpa using h) ?_
    rw [wrap_id (by omega) (by omega)]
    by_cases h2 : 0 ≤ n ∧ n ≤ d - 1
    · refine Ev.pos (by simpa using h2) ?_
      refine Ev.bind (impl_gcd_ev n d (by omega) (by omega) (by omega) (by omega)) ?_
      refine Ev.val (Ev.now _) ?_
      unfold isT
      rw [Bool.eq_iff_iff]; simp; omega
    · refine Ev.neg (by simpa using h2) ?_
      refine Ev.val (Ev.now _) ?_
      unfold isT
      rw [Bool.eq_iff_iff]; simp; omega
  · refine Ev.neg (by simpa using h) ?_
    refine Ev.val (Ev.now _) ?_
    unfold isT
    rw [Bool.eq_iff_iff]; simp; omega

/-! impl_isCoarse -/
theorem impl_isCoarse_ev (n d : Int) : Ev (fun k => impl_isCoarse.f k n d) (isC n d) := by
  unfold impl_isCoarse.f isC
  refine Ev.bind (impl_IsTurn_ev n d) ?_
  cases isT n d
  · exact Ev.val (Ev.now _) (by simp)
  · exact Ev.val (Ev.now _) (by simp)

/-! impl_IsHand -/
theorem impl_IsHand_ev (n d s : Int) : Ev (fun k => impl_IsHand.f k n d s) (isH n d s) := by
  unfold impl_IsHand.f isH
  refine Ev.bind (impl_isCoarse_ev n d) ?_
  simp only [impl_within_eq, Option.bind_some]
  cases isC n d
  · exact Ev.val (Ev.now _) (by simp)
  · exact Ev.val (Ev.now _) (by simp)

/-! impl_areHands_1 -/
theorem impl_areHands_1_ev (n d s : Int) : Ev (fun k => impl_areHands_1.f k n d s) (!isH n d s) := by
  unfold impl_areHands_1.f
  exact Ev.bind (impl_IsHand_ev n d s) (Ev.now _)

/-! impl_areHands -/
theorem impl_areHands_g : ∀ l : List S25, Ev (fun k => impl_areHands.g k l) (l.all fun x => isH x.f0.f0 x.f0.f1 x.f1)
  | [] => Ev.now _
  | x :: xs => by
    have e : (fun k => impl_areHands.g k (x :: xs)) = fun k => (impl_areHands_1.f k x.f0.f0 x.f0.f1 x.f1).bind fun b => if b = true then some false else impl_areHands.g k xs := by funext k; rfl
    rw [e]
    refine Ev.bind (impl_areHands_1_ev _ _ _) ?_
    rw [List.all_cons]
    cases isH x.f0.f0 x.f0.f1 x.f1
    · exact Ev.pos rfl (Ev.now _)
    · exact Ev.neg (by decide) (impl_areHands_g xs)
theorem impl_areHands_ev (l : List S25) (hl : l.length < 4611686018427387904) : Ev (fun k => impl_areHands.f k l) (l.all fun x => isH x.f0.f0 x.f0.f1 x.f1) := by
  unfold impl_areHands.f
  exact Ev.pos hl (impl_areHands_g l)
theorem impl_areHands_two (a b s c d t : Int) : Ev (fun k => impl_areHands.f k [(⟨(⟨a, b⟩ : S23), s⟩ : S25), (⟨(⟨c, d⟩ : S23), t⟩ : S25)]) (isH a b s && isH c d t) :=
  Ev.val (impl_areHands_ev _ (by simp)) (by simp)

/-! impl_CountMeets -/
theorem impl_CountMeets_ev (a b s c d t : Int) : Ev (fun k => impl_CountMeets.f k a b s c d t) (vCount a b s c d t) := by
  unfold impl_CountMeets.f vCount vAsked
  refine Ev.bind (impl_areHands_two a b s c d t) ?_
  cases h : isH a b s && isH c d t
  · exact Ev.neg (by decide) (Ev.now _)
  refine Ev.pos rfl ?_
  rw [Bool.and_eq_true] at h
  obtain ⟨h1, h2⟩ := isH_speed h.1
  obtain ⟨h3, h4⟩ := isH_speed h.2
  by_cases hs : s = t
  · exact Ev.pos hs (Ev.val (Ev.now _) (by simp [hs]))
  · refine Ev.neg hs (Ev.val (Ev.now _) ?_)
    rw [wrap_id (by omega) (by omega), wrap_id (by omega) (by omega)]
    simp only [Bool.true_and, bne_iff_ne, ne_eq, hs, not_false_eq_true, if_true]
    unfold mx ab
    congr 1
    split <;> split <;> omega

/-! spec_l1In -/
theorem spec_l1In_eq (a b c : Int) : spec_l1In.f a b c = some (decide (b ≤ a ∧ a ≤ c)) := by
  unfold spec_l1In.f
  by_cases h : a ≥ b
  · rw [if_pos h]; simp [show b ≤ a from h]
  · rw [if_neg h]; simp [show ¬ b ≤ a from h]

/-! spec_diCommon -/
theorem spec_diCommon_l0 : ∀ (n : Nat) (a b : Int), 0 ≤ a → 0 ≤ b → b < n → Ev (fun k => spec_diCommon.l0 k a b) (Int.gcd a b : Int) := by
  intro n
  induction n with
  | zero => intro a b _ h1 h2; omega
  | succ n ih =>
    intro a b ha hb hn
    by_cases h : b = 0
    · subst h
      refine Ev.step (f := fun _ => some a) (fun k => ?_) ?_
      · simp only [spec_diCommon.l0]
        rw [if_neg (by omega)]
      · rw [gcd_zero ha]; exact Ev.now a
    · have h1 := tmod_range ha (show 0 < b by omega)
      refine Ev.step (f := fun k => spec_diCommon.l0 k b (Int.tmod a b)) (fun k => ?_) ?_
      · simp only [spec_diCommon.l0]
        rw [if_pos (by omega), if_neg h]
      · rw [← gcd_step ha (show 0 < b by omega)]
        exact ih b _ (by omega) (by omega) (by omega)
theorem spec_diCommon_ev (a b : Int) (ha : 0 ≤ a) (hb : 0 ≤ b) : Ev (fun k => spec_diCommon.f k a b) (Int.gcd a b : Int) := by
  unfold spec_diCommon.f
  exact spec_diCommon_l0 (b.toNat + 1) a b ha hb (by omega)

/-! spec_diGood -/
theorem spec_diGood_ev (n d : Int) : Ev (fun k => spec_diGood.f k n d) (isT n d) := by
  unfold spec_diGood.f
  simp only [spec_l1In_eq, Option.bind_some]
  by_cases h : 1 ≤ d ∧ d ≤ 1000000
  · refine Ev.pos (by simpa using h) ?_
    rw [wrap_id (by omega) (by omega)]
    by_cases h2 : 0 ≤ n ∧ n ≤ d - 1
    · refine Ev.pos (by simpa using h2) ?_
      refine Ev.bind (spec_diCommon_ev n d (by omega) (by omega)) ?_
      refine Ev.val (Ev.now _) ?_
      unfold isT
      rw [Bool.eq_iff_iff]; simp; omega
    · refine Ev.neg (by simpa using h2) ?_
      refine Ev.val (Ev.now _) ?_
      unfold isT
      rw [Bool.eq_iff_iff]; simp; omega
  · refine Ev.neg (by simpa using h) ?_
    refine Ev.val (Ev.now _) ?_
    unfold isT
    rw [Bool.eq_iff_iff]; simp; omega

/-! spec_meGood -/
theorem spec_meGood_ev (n d s : Int) : Ev (fun k => spec_meGood.f k n d s) (isH n d s) := by
  unfold spec_meGood.f isH isC
  refine Ev.bind (spec_diGood_ev n d) ?_
  simp only [spec_l1In_eq, Option.bind_some]
  cases isT n d
  · exact Ev.val (Ev.now _) (by simp)
  · by_cases h : d ≤ 1000
    · refine Ev.pos rfl (Ev.pos h ?_)
      exact Ev.val (Ev.now _) (by simp [h])
    · refine Ev.pos rfl (Ev.neg h ?_)
      exact Ev.val (Ev.now _) (by simp [h])

/-! spec_meTwo -/
theorem spec_meTwo_ev (a b s c d t : Int) : Ev (fun k => spec_meTwo.f k a b s c d t) (isH a b s && isH c d t) := by
  unfold spec_meTwo.f
  refine Ev.bind (spec_meGood_ev a b s) ?_
  cases isH a b s
  · exact Ev.neg (by decide) (Ev.now _)
  · exact Ev.pos rfl (Ev.bind (spec_meGood_ev c d t) (Ev.now _))

/-! spec_meAsked -/
theorem spec_meAsked_ev (a b s c d t : Int) : Ev (fun k => spec_meAsked.f k a b s c d t) (vAsked a b s c d t) := by
  unfold spec_meAsked.f vAsked
  refine Ev.bind (spec_meTwo_ev a b s c d t) ?_
  cases isH a b s && isH c d t
  · exact Ev.neg (by decide) (Ev.now _)
  · exact Ev.pos rfl (Ev.now _)

/-! spec_l1Most -/
theorem spec_l1Most_eq (a b : Int) : spec_l1Most.f a b = some (if a > b then a else b) := by
  unfold spec_l1Most.f; split <;> rfl

/-! spec_l1Abs -/
theorem spec_l1Abs_eq (a : Int) (h0 : -9000000000000000000 ≤ a) (h1 : a ≤ 9000000000000000000) : spec_l1Abs.f a = some (ab a) := by
  unfold spec_l1Abs.f
  simp only [spec_l1Most_eq, Option.bind_some]
  rw [wrap_id (by omega) (by omega)]
  unfold ab
  congr 1
  split <;> split <;> omega

/-! spec_CountMeets -/
theorem spec_CountMeets_ev (a b s c d t : Int) : Ev (fun k => spec_CountMeets.f k a b s c d t) (vCount a b s c d t) := by
  unfold spec_CountMeets.f vCount
  refine Ev.bind (spec_meAsked_ev a b s c d t) ?_
  cases h : vAsked a b s c d t
  · exact Ev.neg (by decide) (Ev.now _)
  refine Ev.pos rfl ?_
  unfold vAsked at h
  simp only [Bool.and_eq_true] at h
  obtain ⟨h1, h2⟩ := isH_speed h.1.1
  obtain ⟨h3, h4⟩ := isH_speed h.1.2
  rw [wrap_id (by omega) (by omega), spec_l1Abs_eq _ (by omega) (by omega)]
  exact Ev.now _

/-! laws_FnExactCountMeets -/
theorem FnExactCountMeets : laws_FnExactCountMeets.Pure := by
  intro a b s c d t _ _ _ _ _ _
  apply Ev.rounds (g := fun k => laws_FnExactCountMeets.f k a b s c d t)
  unfold laws_FnExactCountMeets.f laws_toHand.f laws_toTurn.f
  simp only [Option.bind_some]
  refine Ev.bind (spec_CountMeets_ev a b s c d t) ?_
  refine Ev.bind (impl_CountMeets_ev a b s c d t) ?_
  simp only [bne_self_eq_false, Bool.false_eq_true, if_false, if_true]
  exact Ev.now _

end Go.Proofs.Ytkhlbicmlpbadaa.Pure
