/- FnExactRelativeHand of the program answers as the reference does, whatever is given: the pure part of the proof. No condition. -/
import Derived.Test.YthhienjfgcjleaaPFnExactRelativeHandx0
import Derived.Test.YthhienjfgcjleaaPFnExactRelativeHandx1
import Derived.Test.YthhienjfgcjleaaPFnExactRelativeHandx2
import Derived.Test.YthhienjfgcjleaaPFnExactRelativeHandx3
import Derived.Test.YthhienjfgcjleaaPFnExactRelativeHandx4
import Derived.Test.YthhienjfgcjleaaMath
set_option linter.unusedVariables false
set_option linter.unusedSimpArgs false
namespace Go.Proofs.Ythhienjfgcjleaa.Pure
open Go.RowKit Go.Proofs.Ythhienjfgcjleaa.PFnExactRelativeHand Go.Proofs.YthhienjfgcjleaaW.PrintWords Go.Proofs.YthhienjfgcjleaaW.PrintLast Go.Proofs.YthhienjfgcjleaaW.PrintMore Go.Proofs.Ythhienjfgcjleaa.Math

/-! spec_l1In -/
theorem spec_l1In_eq (a b c : Int) : spec_l1In.f a b c = some (decide (b ≤ a ∧ a ≤ c)) := by
  unfold spec_l1In.f
  by_cases h : a ≥ b
  · rw [if_pos h]; simp [show b ≤ a from h]
  · rw [if_neg h]; simp [show ¬ b ≤ a from h]

/-! spec_diCommon -/
theorem spec_diCommon_l0 : ∀ (n : Nat) (a b : Int), 0 ≤ a → 0 ≤ b → b < n → Ev (fun k => spec_diCommon.l0 k a b) (Int.gcd a b : Int) := by
  intro n
  induction n with
  | zero => intro a b _ h1 h2; omega
  | succ n ih =>
    intro a b ha hb hn
    by_cases h : b = 0
    · subst h
      refine Ev.step (f := fun _ => some a) (fun k => ?_) ?_
      · simp only [spec_diCommon.l0]
        rw [if_neg (by omega)]
      · rw [gcd_zero ha]; exact Ev.now a
    · have h1 := tmod_range ha (show 0 < b by omega)
      refine Ev.step (f := fun k => spec_diCommon.l0 k b (Int.tmod a b)) (fun k => ?_) ?_
      · simp only [spec_diCommon.l0]
        rw [if_pos (by omega), if_neg h]
      · rw [← gcd_step ha (show 0 < b by omega)]
        exact ih b _ (by omega) (by omega) (by omega)
theorem spec_diCommon_ev (a b : Int) (ha : 0 ≤ a) (hb : 0 ≤ b) : Ev (fun k => spec_diCommon.f k a b) (Int.gcd a b : Int) := by
  unfold spec_diCommon.f
  exact spec_diCommon_l0 (b.toNat + 1) a b ha hb (by omega)

/-! spec_diGood -/
theorem spec_diGood_ev (n d : Int) : Ev (fun k => spec_diGood.f k n d) (isT n d) := by
  unfold spec_diGood.f
  simp only [spec_l1In_eq, Option.bind_some]
  by_cases h : 1 ≤ d ∧ d ≤ 1000000
  · refine Ev.pos (by simpa using h) ?_
    rw [wrap_id (by omega) (by omega)]
    by_cases h2 : 0 ≤ n ∧ n ≤ d - 1
    · refine Ev.pos (by simpa using h2) ?_
      refine Ev.bind (spec_diCommon_ev n d (by omega) (by omega)) ?_
      refine Ev.val (Ev.now _) ?_
      unfold isT
      rw [Bool.eq_iff_iff]; simp; omega
    · refine Ev.neg (by simpa using h2) ?_
      refine Ev.val (Ev.now _) ?_
      unfold isT
      rw [Bool.eq_iff_iff]; simp; omega
  · refine Ev.neg (by simpa using h) ?_
    refine Ev.val (Ev.now _) ?_
    unfold isT
    rw [Bool.eq_iff_iff]; simp; omega

/-! spec_meGood -/
theorem spec_meGood_ev (n d s : Int) : Ev (fun k => spec_meGood.f k n d s) (isH n d s) := by
  unfold spec_meGood.f isH isC
  refine Ev.bind (spec_diGood_ev n d) ?_
  simp only [spec_l1In_eq, Option.bind_some]
  cases isT n d
  · exact Ev.val (Ev.now _) (by simp)
  · by_cases h : d ≤ 1000
    · refine Ev.pos rfl (Ev.pos h ?_)
      exact Ev.val (Ev.now _) (by simp [h])
    · refine Ev.pos rfl (Ev.neg h ?_)
      exact Ev.val (Ev.now _) (by simp [h])

/-! spec_meTwo -/
theorem spec_meTwo_ev (a b s c d t : Int) : Ev (fun k => spec_meTwo.f k a b s c d t) (isH a b s && isH c d t) := by
  unfold spec_meTwo.f
  refine Ev.bind (spec_meGood_ev a b s) ?_
  cases isH a b s
  · exact Ev.neg (by decide) (Ev.now _)
  · exact Ev.pos rfl (Ev.bind (spec_meGood_ev c d t) (Ev.now _))

/-! spec_diMake -/
theorem spec_diMake_ev (n d : Int) (hd : 0 < d) (hd' : d ≤ 4000000000000000000) (hn : -4000000000000000000 ≤ n) (hn' : n ≤ 4000000000000000000) : Ev (fun k => spec_diMake.f k n d) (mk ((n : Rat) / d)) := by
  unfold spec_diMake.f
  refine Ev.neg (by omega) ?_
  have h0 := Int.emod_nonneg n (show d ≠ 0 by omega)
  have h1 := Int.emod_lt_of_pos n hd
  obtain ⟨t1, t2⟩ := tmod_bound n d hd
  have e0 : Int.tmod (wrap64 (Int.tmod n d + d)) d = n % d := by
    rw [wrap_id (by omega) (by omega)]; exact tmod_tmod n d hd
  rw [e0]
  refine Ev.bind (spec_diCommon_ev (n % d) d h0 (by omega)) ?_
  have hg := gcd_pos' (n % d) hd
  refine Ev.neg (by omega) ?_
  have e1 := Int.tdiv_eq_ediv_of_nonneg (b := (Int.gcd (n % d) d : Int)) h0
  have e2 := Int.tdiv_eq_ediv_of_nonneg (b := (Int.gcd (n % d) d : Int)) (show 0 ≤ d by omega)
  have b1 := ediv_le' h0 hg
  have b2 := ediv_le' (show 0 ≤ d by omega) hg
  rw [e1, e2, wrap_id (by omega) (by omega), wrap_id (by omega) (by omega)]
  unfold mk
  rw [tn_div n d hd, td_div n d hd]
  by_cases h : d / (Int.gcd (n % d) d : Int) > 1000000
  · rw [if_pos h, if_neg (by omega)]; exact Ev.now _
  · rw [if_neg h, if_pos (by omega)]; exact Ev.now _

/-! spec_diAdd -/
theorem spec_diAdd_ev (a b c d t : Int) (hb : 0 < b) (hd : 0 < d) (hm : b * d ≤ 1000000000000000) (ha : -b ≤ a) (ha' : a ≤ b) (hc : -d ≤ c) (hc' : c ≤ d) (ht : -1000 ≤ t) (ht' : t ≤ 1000) : Ev (fun k => spec_diAdd.f k a b c d t) (mk ((a : Rat) / b + t * ((c : Rat) / d))) := by
  have m1 := mul_bound (a := a) (b := d) (A := b) (B := d) (by omega) (by omega) (by omega) (by omega)
  have m2 := mul_bound (a := t) (b := c) (A := 1000) (B := d) (by omega) (by omega) (by omega) (by omega)
  have m4 := mul_bound (a := t * c) (b := b) (A := 1000 * d) (B := b) (by omega) (by omega) (by omega) (by omega)
  have m3 := Int.mul_pos hb hd
  have m5 : d ≤ b * d := by have := Int.mul_le_mul_of_nonneg_right (show 1 ≤ b by omega) (show 0 ≤ d by omega); omega
  rw [Int.mul_assoc, Int.mul_comm d b] at m4
  unfold spec_diAdd.f
  rw [wrap_id (x := a * d) (by omega) (by omega), wrap_id (x := t * c) (by omega) (by omega), wrap_id (x := t * c * b) (by omega) (by omega), wrap_id (x := b * d) (by omega) (by omega), wrap_id (by omega) (by omega)]
  rw [← q_add_mul hb hd]
  exact Ev.bind (spec_diMake_ev _ _ (by omega) (by omega) (by omega) (by omega)) (Ev.now _)
theorem spec_diAdd_T (a b c d t : Int) (h1 : isT a b = true) (h2 : isT c d = true) (ht : -1000 ≤ t) (ht' : t ≤ 1000) : Ev (fun k => spec_diAdd.f k a b c d t) (mk ((a : Rat) / b + t * ((c : Rat) / d))) := by
  obtain ⟨p1, p2, p3, p4, _⟩ := isT_iff.1 h1
  obtain ⟨r1, r2, r3, r4, _⟩ := isT_iff.1 h2
  have m3 := mul_bound (a := b) (b := d) (A := 1000000) (B := 1000000) (by omega) (by omega) (by omega) (by omega)
  exact spec_diAdd_ev a b c d t (by omega) (by omega) (by omega) (by omega) (by omega) (by omega) (by omega) ht ht'

/-! spec_meRelative -/
theorem spec_meRelative_ev (a b s c d t : Int) (h1 : isH a b s = true) (h2 : isH c d t = true) : Ev (fun k => spec_meRelative.f k a b s c d t) (tn ((a : Rat) / b - (c : Rat) / d), td ((a : Rat) / b - (c : Rat) / d), s - t) := by
  obtain ⟨u1, u2⟩ := isH_speed h1
  obtain ⟨u3, u4⟩ := isH_speed h2
  have p0 := (isC_iff.1 (isH_iff.1 h1).1).1
  have r0 := (isC_iff.1 (isH_iff.1 h2).1).1
  unfold spec_meRelative.f
  rw [wrap_id (x := s - t) (by omega) (by omega)]
  refine Ev.bind (spec_diAdd_T a b c d (-1) p0 r0 (by omega) (by omega)) ?_
  rw [add_neg_one_mul', mk_of (by have := td_start h1 h2; omega)]
  exact Ev.now _

/-! spec_RelativeHand -/
theorem spec_RelativeHand_ev (a b s c d t : Int) : Ev (fun k => spec_RelativeHand.f k a b s c d t) (vRelative a b s c d t) := by
  unfold spec_RelativeHand.f vRelative
  refine Ev.bind (spec_meTwo_ev a b s c d t) ?_
  cases h1 : isH a b s && isH c d t
  · exact Ev.neg (by decide) (Ev.now _)
  refine Ev.pos rfl ?_
  rw [Bool.and_eq_true] at h1
  refine Ev.bind (spec_meRelative_ev a b s c d t h1.1 h1.2) ?_
  refine Ev.bind (spec_meGood_ev _ _ _) ?_
  simp only [if_true]
  cases h : isH (tn ((a : Rat) / b - (c : Rat) / d)) (td ((a : Rat) / b - (c : Rat) / d)) (s - t)
  · exact Ev.neg (by decide) (Ev.now _)
  · exact Ev.pos rfl (Ev.bind (spec_meRelative_ev a b s c d t h1.1 h1.2) (Ev.now _))

/-! impl_within -/
theorem impl_within_eq (a b c : Int) : impl_within.f a b c = some (decide (b ≤ a ∧ a ≤ c)) := by
  unfold impl_within.f
  by_cases h : a ≥ b
  · rw [if_pos h]; simp [show b ≤ a from h]
  · rw [if_neg h]; simp [show ¬ b ≤ a from h]

/-! impl_gcd -/
theorem impl_gcd_l0 : ∀ (n : Nat) (a b : Int), 0 ≤ a → a ≤ 9223372036854775807 → 0 ≤ b → b ≤ 9223372036854775807 → b < n → Ev (fun k => impl_gcd.l0 k a b) (Int.gcd a b : Int) := by
  intro n
  induction n with
  | zero => intro a b _ _ h1 _ h2; omega
  | succ n ih =>
    intro a b ha ha' hb hb' hn
    by_cases h : b = 0
    · subst h
      refine Ev.step (f := fun _ => some a) (fun k => ?_) ?_
      · simp only [impl_gcd.l0]
        rw [wrap_id (by omega) (by omega)]
        unfold mx; simp; omega
      · rw [gcd_zero ha]; exact Ev.now a
    · have h1 := tmod_range ha (show 0 < b by omega)
      refine Ev.step (f := fun k => impl_gcd.l0 k b (Int.tmod a b)) (fun k => ?_) ?_
      · simp only [impl_gcd.l0]
        rw [if_neg h]
      · rw [← gcd_step ha (show 0 < b by omega)]
        exact ih b _ (by omega) (by omega) (by omega) (by omega) (by omega)
theorem impl_gcd_ev (a b : Int) (ha : 0 ≤ a) (ha' : a ≤ 9223372036854775807) (hb : 0 ≤ b) (hb' : b ≤ 9223372036854775807) : Ev (fun k => impl_gcd.f k a b) (Int.gcd a b : Int) := by
  unfold impl_gcd.f
  exact impl_gcd_l0 (b.toNat + 1) a b ha ha' hb hb' (by omega)

/-! impl_IsTurn -/
theorem impl_IsTurn_ev (n d : Int) : Ev (fun k => impl_IsTurn.f k n d) (isT n d) := by
  unfold impl_IsTurn.f
  simp only [impl_within_eq, Option.bind_some]
  by_cases h : 1 ≤ d ∧ d ≤ 1000000
  · refine Ev.pos (by simpa using h) ?_
    rw [wrap_id (by omega) (by omega)]
    by_cases h2 : 0 ≤ n ∧ n ≤ d - 1
    · refine Ev.pos (by simpa using h2) ?_
      refine Ev.bind (impl_gcd_ev n d (by omega) (by omega) (by omega) (by omega)) ?_
      refine Ev.val (Ev.now _) ?_
      unfold isT
      rw [Bool.eq_iff_iff]; simp; omega
    · refine Ev.neg (by simpa using h2) ?_
      refine Ev.val (Ev.now _) ?_
      unfold isT
      rw [Bool.eq_iff_iff]; simp; omega
  · refine Ev.neg (by simpa using h) ?_
    refine Ev.val (Ev.now _) ?_
    unfold isT
    rw [Bool.eq_iff_iff]; simp; omega

/-! impl_isCoarse -/
theorem impl_isCoarse_ev (n d : Int) : Ev (fun k => impl_isCoarse.f k n d) (isC n d) := by
  unfold impl_isCoarse.f isC
  refine Ev.bind (impl_IsTurn_ev n d) ?_
  cases isT n d
  · exact Ev.val (Ev.now _) (by simp)
  · exact Ev.val (Ev.now _) (by simp)

/-! impl_IsHand -/
theorem impl_IsHand_ev (n d s : Int) : Ev (fun k => impl_IsHand.f k n d s) (isH n d s) := by
  unfold impl_IsHand.f isH
  refine Ev.bind (impl_isCoarse_ev n d) ?_
  simp only [impl_within_eq, Option.bind_some]
  cases isC n d
  · exact Ev.val (Ev.now _) (by simp)
  · exact Ev.val (Ev.now _) (by simp)

/-! impl_areHands_1 -/
theorem impl_areHands_1_ev (n d s : Int) : Ev (fun k => impl_areHands_1.f k n d s) (!isH n d s) := by
  unfold impl_areHands_1.f
  exact Ev.bind (impl_IsHand_ev n d s) (Ev.now _)

/-! impl_areHands -/
theorem impl_areHands_g : ∀ l : List S41, Ev (fun k => impl_areHands.g k l) (l.all fun x => isH x.f0.f0 x.f0.f1 x.f1)
  | [] => Ev.now _
  | x :: xs => by
    have e : (fun k => impl_areHands.g k (x :: xs)) = fun k => (impl_areHands_1.f k x.f0.f0 x.f0.f1 x.f1).bind fun b => if b = true then some false else impl_areHands.g k xs := by funext k; rfl
    rw [e]
    refine Ev.bind (impl_areHands_1_ev _ _ _) ?_
    rw [List.all_cons]
    cases isH x.f0.f0 x.f0.f1 x.f1
    · exact Ev.pos rfl (Ev.now _)
    · exact Ev.neg (by decide) (impl_areHands_g xs)
theorem impl_areHands_ev (l : List S41) (hl : l.length < 4611686018427387904) : Ev (fun k => impl_areHands.f k l) (l.all fun x => isH x.f0.f0 x.f0.f1 x.f1) := by
  unfold impl_areHands.f
  exact Ev.pos hl (impl_areHands_g l)
theorem impl_areHands_two (a b s c d t : Int) : Ev (fun k => impl_areHands.f k [(⟨(⟨a, b⟩ : S27), s⟩ : S41), (⟨(⟨c, d⟩ : S27), t⟩ : S41)]) (isH a b s && isH c d t) :=
  Ev.val (impl_areHands_ev _ (by simp)) (by simp)

/-! impl_floorDiv -/
theorem impl_floorDiv_eq (a b : Int) (hb : 0 < b) (hb' : b ≤ 4000000000000000000) (ha : -4000000000000000000 ≤ a) (ha' : a ≤ 4000000000000000000) : impl_floorDiv.f a b = some (a / b, a % b) := by
  obtain ⟨h1, h2, h3⟩ := floor_of_trunc a b hb
  obtain ⟨h4, h5⟩ := tdiv_bound a b hb
  have h8 := tmod_bound a b hb
  obtain ⟨h6, h7⟩ := ediv_bound a b hb
  unfold impl_floorDiv.f
  rw [if_neg (by omega)]
  by_cases h : Int.tmod a b < 0
  · rw [if_pos h]
    obtain ⟨e1, e2⟩ := h2 h
    rw [wrap_id (x := Int.tdiv a b) (by omega) (by omega), wrap_id (by omega) (by omega), wrap_id (by omega) (by omega), e1, e2]
  · rw [if_neg h]
    obtain ⟨e1, e2⟩ := h3 (by omega)
    rw [wrap_id (by omega) (by omega), e1, e2]

/-! impl_part -/
theorem impl_part_ev (n d : Int) (hd : 0 < d) (hd' : d ≤ 4000000000000000000) (hn : -4000000000000000000 ≤ n) (hn' : n ≤ 4000000000000000000) : Ev (fun k => impl_part.f k n d) (tn ((n : Rat) / d), td ((n : Rat) / d)) := by
  unfold impl_part.f
  rw [impl_floorDiv_eq n d hd hd' hn hn']
  simp only [Option.bind_some]
  have h0 := Int.emod_nonneg n (show d ≠ 0 by omega)
  have h1 := Int.emod_lt_of_pos n hd
  refine Ev.bind (impl_gcd_ev (n % d) d h0 (by omega) (by omega) (by omega)) ?_
  have hg := gcd_pos' (n % d) hd
  refine Ev.neg (by omega) ?_
  have e1 := Int.tdiv_eq_ediv_of_nonneg (b := (Int.gcd (n % d) d : Int)) h0
  have e2 := Int.tdiv_eq_ediv_of_nonneg (b := (Int.gcd (n % d) d : Int)) (show 0 ≤ d by omega)
  have b1 := ediv_le' h0 hg
  have b2 := ediv_le' (show 0 ≤ d by omega) hg
  rw [e1, e2, wrap_id (by omega) (by omega), wrap_id (by omega) (by omega), tn_div n d hd, td_div n d hd]
  exact Ev.now _

/-! impl_Turn_minus -/
theorem impl_Turn_minus_ev (a b c d : Int) (hb : 0 < b) (hd : 0 < d) (hm : b * d ≤ 1000000000000000000) (ha : -b ≤ a) (ha' : a ≤ b) (hc : -d ≤ c) (hc' : c ≤ d) : Ev (fun k => impl_Turn_minus.f k a b c d) (tn ((a : Rat) / b - (c : Rat) / d), td ((a : Rat) / b - (c : Rat) / d)) := by
  have m1 := mul_bound (a := a) (b := d) (A := b) (B := d) (by omega) (by omega) (by omega) (by omega)
  have m2 := mul_bound (a := c) (b := b) (A := d) (B := b) (by omega) (by omega) (by omega) (by omega)
  have m3 := Int.mul_pos hb hd
  rw [Int.mul_comm d b] at m2
  unfold impl_Turn_minus.f
  rw [wrap_id (x := a * d) (by omega) (by omega), wrap_id (x := c * b) (by omega) (by omega), wrap_id (x := b * d) (by omega) (by omega), wrap_id (by omega) (by omega)]
  rw [← q_sub hb hd]
  exact Ev.bind (impl_part_ev _ _ (by omega) (by omega) (by omega) (by omega)) (Ev.now _)
theorem impl_Turn_minus_fr (p q : Rat) (hm : td p * td q ≤ 1000000000000000000) : Ev (fun k => impl_Turn_minus.f k (tn p) (td p) (tn q) (td q)) (tn (p - q), td (p - q)) := by
  have h1 := tn_nonneg p
  have h2 := tn_lt p
  have h3 := tn_nonneg q
  have h4 := tn_lt q
  refine Ev.val (impl_Turn_minus_ev _ _ _ _ (td_pos p) (td_pos q) hm (by omega) (by omega) (by omega) (by omega)) ?_
  rw [tn_td, tn_td]
  exact tt_of_fr (fr_minus p q)

/-! impl_relative -/
theorem impl_relative_ev (a b s c d t : Int) (h1 : isH a b s = true) (h2 : isH c d t = true) : Ev (fun k => impl_relative.f k a b s c d t) (tn ((a : Rat) / b - (c : Rat) / d), td ((a : Rat) / b - (c : Rat) / d), s - t) := by
  obtain ⟨u1, u2⟩ := isH_speed h1
  obtain ⟨u3, u4⟩ := isH_speed h2
  obtain ⟨p0, p5⟩ := isC_iff.1 (isH_iff.1 h1).1
  obtain ⟨r0, r5⟩ := isC_iff.1 (isH_iff.1 h2).1
  obtain ⟨p1, p2, p3, p4, _⟩ := isT_iff.1 p0
  obtain ⟨r1, r2, r3, r4, _⟩ := isT_iff.1 r0
  have m3 := mul_bound (a := b) (b := d) (A := 1000) (B := 1000) (by omega) (by omega) (by omega) (by omega)
  unfold impl_relative.f
  rw [wrap_id (x := s - t) (by omega) (by omega)]
  exact Ev.bind (impl_Turn_minus_ev a b c d (by omega) (by omega) (by omega) (by omega) (by omega) (by omega) (by omega)) (Ev.now _)

/-! impl_RelativeHand -/
theorem impl_RelativeHand_ev (a b s c d t : Int) : Ev (fun k => impl_RelativeHand.f k a b s c d t) (vRelative a b s c d t) := by
  unfold impl_RelativeHand.f vRelative
  refine Ev.bind (impl_areHands_two a b s c d t) ?_
  cases h1 : isH a b s && isH c d t
  · exact Ev.neg (by decide) (Ev.now _)
  refine Ev.pos rfl ?_
  rw [Bool.and_eq_true] at h1
  refine Ev.bind (impl_relative_ev a b s c d t h1.1 h1.2) ?_
  refine Ev.bind (impl_IsHand_ev _ _ _) ?_
  simp only [if_true]
  split <;> exact Ev.now _

/-! laws_eqTurn -/
theorem laws_eqTurn_self (a b : Int) : laws_eqTurn.f a b a b = some true := by
  unfold laws_eqTurn.f; rw [if_pos rfl, if_pos rfl]

/-! laws_eqHand -/
theorem laws_eqHand_self (a b c : Int) : laws_eqHand.f a b c a b c = some true := by
  unfold laws_eqHand.f; simp only [laws_eqTurn_self, Option.bind_some]; simp

/-! laws_FnExactRelativeHand -/
theorem FnExactRelativeHand : laws_FnExactRelativeHand.Pure := by
  intro a b s c d t _ _ _ _ _ _
  apply Ev.rounds (g := fun k => laws_FnExactRelativeHand.f k a b s c d t)
  unfold laws_FnExactRelativeHand.f laws_toHand.f laws_toTurn.f
  simp only [Option.bind_some]
  refine Ev.bind (spec_RelativeHand_ev a b s c d t) ?_
  refine Ev.bind (impl_RelativeHand_ev a b s c d t) ?_
  simp only [laws_eqHand_self, Option.bind_some, bne_self_eq_false, Bool.false_eq_true, if_false, if_true]
  exact Ev.now _

end Go.Proofs.Ythhienjfgcjleaa.Pure
