/- HandsStandOfAll: hours, minutes and seconds tell times, the long hand goes around as often as there are hours, and texts are read back, whatever is given: the pure part of the proof. No condition. -/
import Derived.Test.YtchglfpiicaedaaGreatDoorPFnHandsStandOfAllx0
import Derived.Test.YtchglfpiicaedaaGreatDoorPFnHandsStandOfAllx1
import Derived.Test.YtchglfpiicaedaaGreatDoorPFnHandsStandOfAllx2
import Derived.Test.YtchglfpiicaedaaGreatDoorPFnHandsStandOfAllx3
import Derived.Test.YtchglfpiicaedaaGreatDoorPFnHandsStandOfAllx4
import Derived.Test.YtchglfpiicaedaaGreatDoorPFnHandsStandOfAllx5
import Derived.Test.YtchglfpiicaedaaGreatDoorPFnHandsStandOfAllx6
import Derived.Test.YtchglfpiicaedaaGreatDoorPFnHandsStandOfAllx7
import Derived.Test.YtchglfpiicaedaaGreatDoorPFnHandsStandOfAllx8
import Derived.Test.YtchglfpiicaedaaGreatDoorPFnHandsStandOfAllx9
import Derived.Test.YtchglfpiicaedaaGreatDoorPFnHandsStandOfAllx10
import Derived.Test.YtchglfpiicaedaaGreatDoorPFnHandsStandOfAllx11
import Derived.Test.YtchglfpiicaedaaGreatDoorPFnHandsStandOfAllx12
import Derived.Test.YtchglfpiicaedaaGreatDoorPFnHandsStandOfAllx13c
import Derived.Test.YtchglfpiicaedaaGreatDoorPFnHandsStandOfAllx13
import Derived.Test.YtchglfpiicaedaaGreatDoorMath
import Derived.Lib.ItoaLen
import Derived.Lib.AtoiAllCases
import Derived.Lib.IndexLaws
import Derived.Lib.IndexBytes
set_option linter.unusedVariables false
set_option linter.unusedSimpArgs false
namespace Go.Proofs.YtchglfpiicaedaaGreatDoor.Pure
open Go.RowKit Go.Proofs.YtchglfpiicaedaaGreatDoor.PFnHandsStandOfAll Go.Proofs.YtchglfpiicaedaaGreatDoorW.PrintWords Go.Proofs.YtchglfpiicaedaaGreatDoorW.PrintLast Go.Proofs.YtchglfpiicaedaaGreatDoorW.PrintMore Go.Proofs.YtchglfpiicaedaaGreatDoor.Math

/-! impl_within -/
theorem impl_within_eq (a b c : Int) : impl_within.f a b c = some (decide (b ≤ a ∧ a ≤ c)) := by
  unfold impl_within.f
  by_cases h : a ≥ b
  · rw [if_pos h]; simp [show b ≤ a from h]
  · rw [if_neg h]; simp [show ¬ b ≤ a from h]

/-! impl_isDial -/
theorem impl_isDial_eq (h : Int) : impl_isDial.f h = some (isD h) := by
  unfold impl_isDial.f isD; simp only [impl_within_eq, Option.bind_some]

/-! impl_gcd -/
theorem impl_gcd_l0 : ∀ (n : Nat) (a b : Int), 0 ≤ a → a ≤ 9223372036854775807 → 0 ≤ b → b ≤ 9223372036854775807 → b < n → Ev (fun k => impl_gcd.l0 k a b) (Int.gcd a b : Int) := by
  intro n
  induction n with
  | zero => intro a b _ _ h1 _ h2; omega
  | succ n ih =>
    intro a b ha ha' hb hb' hn
    by_cases h : b = 0
    · subst h
      refine Ev.step (f := fun _ => some a) (fun k => ?_) ?_
      · simp only [impl_gcd.l0]
        rw [wrap_id (by omega) (by omega)]
        unfold mx; simp; omega
      · rw [gcd_zero ha]; exact Ev.now a
    · have h1 := tmod_range ha (show 0 < b by omega)
      refine Ev.step (f := fun k => impl_gcd.l0 k b (Int.tmod a b)) (fun k => ?_) ?_
      · simp only [impl_gcd.l0]
        rw [if_neg h]
      · rw [← gcd_step ha (show 0 < b by omega)]
        exact ih b _ (by omega) (by omega) (by omega) (by omega) (by omega)
theorem impl_gcd_ev (a b : Int) (ha : 0 ≤ a) (ha' : a ≤ 9223372036854775807) (hb : 0 ≤ b) (hb' : b ≤ 9223372036854775807) : Ev (fun k => impl_gcd.f k a b) (Int.gcd a b : Int) := by
  unfold impl_gcd.f
  exact impl_gcd_l0 (b.toNat + 1) a b ha ha' hb hb' (by omega)

/-! impl_IsTurn -/
theorem impl_IsTurn_ev (n d : Int) : Ev (fun k => impl_IsTurn.f k n d) (isT n d) := by
  unfold impl_IsTurn.f
  simp only [impl_within_eq, Option.bind_some]
  by_cases h : 1 ≤ d ∧ d ≤ 1000000
  · refine Ev.pos (by simpa using h) ?_
    rw [wrap_id (by omega) (by omega)]
    by_cases h2 : 0 ≤ n ∧ n ≤ d - 1
    · refine Ev.pos (by simpa using h2) ?_
      refine Ev.bind (impl_gcd_ev n d (by omega) (by omega) (by omega) (by omega)) ?_
      refine Ev.val (Ev.now _) ?_
      unfold isT
      rw [Bool.eq_iff_iff]; simp; omega
    · refine Ev.neg (by simpa using h2) ?_
      refine Ev.val (Ev.now _) ?_
      unfold isT
      rw [Bool.eq_iff_iff]; simp; omega
  · refine Ev.neg (by simpa using h) ?_
    refine Ev.val (Ev.now _) ?_
    unfold isT
    rw [Bool.eq_iff_iff]; simp; omega

/-! impl_isTime -/
theorem impl_isTime_ev (h n d : Int) : Ev (fun k => impl_isTime.f k h n d) (isD h && isT n d) := by
  unfold impl_isTime.f
  simp only [impl_isDial_eq, Option.bind_some]
  cases isD h
  · exact Ev.neg (by decide) (Ev.now _)
  · exact Ev.pos rfl (Ev.bind (impl_IsTurn_ev n d) (Ev.now _))

/-! impl_floorDiv -/
theorem impl_floorDiv_eq (a b : Int) (hb : 0 < b) (hb' : b ≤ 4000000000000000000) (ha : -4000000000000000000 ≤ a) (ha' : a ≤ 4000000000000000000) : impl_floorDiv.f a b = some (a / b, a % b) := by
  obtain ⟨h1, h2, h3⟩ := floor_of_trunc a b hb
  obtain ⟨h4, h5⟩ := tdiv_bound a b hb
  have h8 := tmod_bound a b hb
  obtain ⟨h6, h7⟩ := ediv_bound a b hb
  unfold impl_floorDiv.f
  rw [if_neg (by omega)]
  by_cases h : Int.tmod a b < 0
  · rw [if_pos h]
    obtain ⟨e1, e2⟩ := h2 h
    rw [wrap_id (x := Int.tdiv a b) (by omega) (by omega), wrap_id (by omega) (by omega), wrap_id (by omega) (by omega), e1, e2]
  · rw [if_neg h]
    obtain ⟨e1, e2⟩ := h3 (by omega)
    rw [wrap_id (by omega) (by omega), e1, e2]

/-! impl_part -/
theorem impl_part_ev (n d : Int) (hd : 0 < d) (hd' : d ≤ 4000000000000000000) (hn : -4000000000000000000 ≤ n) (hn' : n ≤ 4000000000000000000) : Ev (fun k => impl_part.f k n d) (tn ((n : Rat) / d), td ((n : Rat) / d)) := by
  unfold impl_part.f
  rw [impl_floorDiv_eq n d hd hd' hn hn']
  simp only [Option.bind_some]
  have h0 := Int.emod_nonneg n (show d ≠ 0 by omega)
  have h1 := Int.emod_lt_of_pos n hd
  refine Ev.bind (impl_gcd_ev (n % d) d h0 (by omega) (by omega) (by omega)) ?_
  have hg := gcd_pos' (n % d) hd
  refine Ev.neg (by omega) ?_
  have e1 := Int.tdiv_eq_ediv_of_nonneg (b := (Int.gcd (n % d) d : Int)) h0
  have e2 := Int.tdiv_eq_ediv_of_nonneg (b := (Int.gcd (n % d) d : Int)) (show 0 ≤ d by omega)
  have b1 := ediv_le' h0 hg
  have b2 := ediv_le' (show 0 ≤ d by omega) hg
  rw [e1, e2, wrap_id (by omega) (by omega), wrap_id (by omega) (by omega), tn_div n d hd, td_div n d hd]
  exact Ev.now _

/-! impl_Turn_times -/
theorem impl_Turn_times_ev (a b k : Int) (hb : 0 < b) (hb' : b ≤ 4000000000000000000) (h0 : -4000000000000000000 ≤ a * k) (h1 : a * k ≤ 4000000000000000000) : Ev (fun n => impl_Turn_times.f n a b k) (tn (k * ((a : Rat) / b)), td (k * ((a : Rat) / b))) := by
  unfold impl_Turn_times.f
  rw [wrap_id (by omega) (by omega), ← q_mul hb]
  exact Ev.bind (impl_part_ev _ _ hb hb' h0 h1) (Ev.now _)
theorem impl_Turn_times_fr (p : Rat) (k : Int) (hp : td p ≤ 10000000000) (h0 : -100000 ≤ k) (h1 : k ≤ 100000) : Ev (fun n => impl_Turn_times.f n (tn p) (td p) k) (tn (k * p), td (k * p)) := by
  have h2 := tn_nonneg p
  have h3 := tn_lt p
  have m1 := mul_bound (a := tn p) (b := k) (A := 10000000000) (B := 100000) (by omega) (by omega) h0 h1
  refine Ev.val (impl_Turn_times_ev _ _ k (td_pos p) (by omega) (by omega) (by omega)) ?_
  rw [tn_td]
  exact tt_of_fr (fr_mul_fr k p)
theorem impl_Turn_times_T (a b k : Int) (h : isT a b = true) (h0 : -100000 ≤ k) (h1 : k ≤ 100000) : Ev (fun n => impl_Turn_times.f n a b k) (tn (k * ((a : Rat) / b)), td (k * ((a : Rat) / b))) := by
  obtain ⟨p1, p2, p3, p4, _⟩ := isT_iff.1 h
  have m1 := mul_bound (a := a) (b := k) (A := 1000000) (B := 100000) (by omega) (by omega) h0 h1
  exact impl_Turn_times_ev a b k (by omega) (by omega) (by omega) (by omega)

/-! impl_LongHand -/
theorem impl_LongHand_ev (h a b : Int) : Ev (fun k => impl_LongHand.f k h a b) (vLong h a b) := by
  unfold impl_LongHand.f vLong
  refine Ev.bind (impl_isTime_ev h a b) ?_
  cases e : isD h && isT a b
  · exact Ev.neg (by decide) (Ev.now _)
  refine Ev.pos rfl ?_
  rw [Bool.and_eq_true] at e
  obtain ⟨q1, q2⟩ := isD_iff.1 e.1
  exact Ev.bind (impl_Turn_times_T a b h e.2 (by omega) (by omega)) (Ev.now _)

/-! spec_l1In -/
theorem spec_l1In_eq (a b c : Int) : spec_l1In.f a b c = some (decide (b ≤ a ∧ a ≤ c)) := by
  unfold spec_l1In.f
  by_cases h : a ≥ b
  · rw [if_pos h]; simp [show b ≤ a from h]
  · rw [if_neg h]; simp [show ¬ b ≤ a from h]

/-! spec_diHours -/
theorem spec_diHours_eq (h : Int) : spec_diHours.f h = some (isD h) := by
  unfold spec_diHours.f isD; simp only [spec_l1In_eq, Option.bind_some]

/-! spec_diCommon -/
theorem spec_diCommon_l0 : ∀ (n : Nat) (a b : Int), 0 ≤ a → 0 ≤ b → b < n → Ev (fun k => spec_diCommon.l0 k a b) (Int.gcd a b : Int) := by
  intro n
  induction n with
  | zero => intro a b _ h1 h2; omega
  | succ n ih =>
    intro a b ha hb hn
    by_cases h : b = 0
    · subst h
      refine Ev.step (f := fun _ => some a) (fun k => ?_) ?_
      · simp only [spec_diCommon.l0]
        rw [if_neg (by omega)]
      · rw [gcd_zero ha]; exact Ev.now a
    · have h1 := tmod_range ha (show 0 < b by omega)
      refine Ev.step (f := fun k => spec_diCommon.l0 k b (Int.tmod a b)) (fun k => ?_) ?_
      · simp only [spec_diCommon.l0]
        rw [if_pos (by omega), if_neg h]
      · rw [← gcd_step ha (show 0 < b by omega)]
        exact ih b _ (by omega) (by omega) (by omega)
theorem spec_diCommon_ev (a b : Int) (ha : 0 ≤ a) (hb : 0 ≤ b) : Ev (fun k => spec_diCommon.f k a b) (Int.gcd a b : Int) := by
  unfold spec_diCommon.f
  exact spec_diCommon_l0 (b.toNat + 1) a b ha hb (by omega)

/-! spec_diGood -/
theorem spec_diGood_ev (n d : Int) : Ev (fun k => spec_diGood.f k n d) (isT n d) := by
  unfold spec_diGood.f
  simp only [spec_l1In_eq, Option.bind_some]
  by_cases h : 1 ≤ d ∧ d ≤ 1000000
  · refine Ev.pos (by simpa using h) ?_
    rw [wrap_id (by omega) (by omega)]
    by_cases h2 : 0 ≤ n ∧ n ≤ d - 1
    · refine Ev.pos (by simpa using h2) ?_
      refine Ev.bind (spec_diCommon_ev n d (by omega) (by omega)) ?_
      refine Ev.val (Ev.now _) ?_
      unfold isT
      rw [Bool.eq_iff_iff]; simp; omega
    · refine Ev.neg (by simpa using h2) ?_
      refine Ev.val (Ev.now _) ?_
      unfold isT
      rw [Bool.eq_iff_iff]; simp; omega
  · refine Ev.neg (by simpa using h) ?_
    refine Ev.val (Ev.now _) ?_
    unfold isT
    rw [Bool.eq_iff_iff]; simp; omega

/-! spec_diAsked -/
theorem spec_diAsked_ev (h n d : Int) : Ev (fun k => spec_diAsked.f k h n d) (isD h && isT n d) := by
  unfold spec_diAsked.f
  simp only [spec_diHours_eq, Option.bind_some]
  cases isD h
  · exact Ev.neg (by decide) (Ev.now _)
  · exact Ev.pos rfl (Ev.bind (spec_diGood_ev n d) (Ev.now _))

/-! spec_diMake -/
theorem spec_diMake_ev (n d : Int) (hd : 0 < d) (hd' : d ≤ 4000000000000000000) (hn : -4000000000000000000 ≤ n) (hn' : n ≤ 4000000000000000000) : Ev (fun k => spec_diMake.f k n d) (mk ((n : Rat) / d)) := by
  unfold spec_diMake.f
  refine Ev.neg (by omega) ?_
  have h0 := Int.emod_nonneg n (show d ≠ 0 by omega)
  have h1 := Int.emod_lt_of_pos n hd
  obtain ⟨t1, t2⟩ := tmod_bound n d hd
  have e0 : Int.tmod (wrap64 (Int.tmod n d + d)) d = n % d := by
    rw [wrap_id (by omega) (by omega)]; exact tmod_tmod n d hd
  rw [e0]
  refine Ev.bind (spec_diCommon_ev (n % d) d h0 (by omega)) ?_
  have hg := gcd_pos' (n % d) hd
  refine Ev.neg (by omega) ?_
  have e1 := Int.tdiv_eq_ediv_of_nonneg (b := (Int.gcd (n % d) d : Int)) h0
  have e2 := Int.tdiv_eq_ediv_of_nonneg (b := (Int.gcd (n % d) d : Int)) (show 0 ≤ d by omega)
  have b1 := ediv_le' h0 hg
  have b2 := ediv_le' (show 0 ≤ d by omega) hg
  rw [e1, e2, wrap_id (by omega) (by omega), wrap_id (by omega) (by omega)]
  unfold mk
  rw [tn_div n d hd, td_div n d hd]
  by_cases h : d / (Int.gcd (n % d) d : Int) > 1000000
  · rw [if_pos h, if_neg (by omega)]; exact Ev.now _
  · rw [if_neg h, if_pos (by omega)]; exact Ev.now _

/-! spec_diTimes -/
theorem spec_diTimes_ev (a b k : Int) (h : isT a b = true) (h0 : -100000 ≤ k) (h1 : k ≤ 100000) : Ev (fun n => spec_diTimes.f n a b k) (tn (k * ((a : Rat) / b)), td (k * ((a : Rat) / b))) := by
  obtain ⟨p1, p2, p3, p4, _⟩ := isT_iff.1 h
  have m1 := mul_bound (a := a) (b := k) (A := 1000000) (B := 100000) (by omega) (by omega) h0 h1
  unfold spec_diTimes.f
  rw [wrap_id (by omega) (by omega)]
  refine Ev.bind (spec_diMake_ev _ _ (by omega) (by omega) (by omega) (by omega)) ?_
  rw [q_mul (show 0 < b by omega), mk_of (Int.le_trans (td_mul_le (show 0 < b by omega)) p2)]
  exact Ev.now _
theorem spec_diTimes_fr (p : Rat) (k : Int) (hp : td p ≤ 1000000) (h0 : -100000 ≤ k) (h1 : k ≤ 100000) : Ev (fun n => spec_diTimes.f n (tn p) (td p) k) (tn (k * p), td (k * p)) := by
  refine Ev.val (spec_diTimes_ev (tn p) (td p) k (by rw [isT_tn]; simpa using hp) h0 h1) ?_
  rw [tn_td]
  exact tt_of_fr (fr_mul_fr k p)

/-! spec_LongHand -/
theorem spec_LongHand_ev (h a b : Int) : Ev (fun k => spec_LongHand.f k h a b) (vLong h a b) := by
  unfold spec_LongHand.f vLong
  refine Ev.bind (spec_diAsked_ev h a b) ?_
  cases e : isD h && isT a b
  · exact Ev.neg (by decide) (Ev.now _)
  refine Ev.pos rfl ?_
  rw [Bool.and_eq_true] at e
  obtain ⟨q1, q2⟩ := isD_iff.1 e.1
  exact Ev.bind (spec_diTimes_ev a b h e.2 (by omega) (by omega)) (Ev.now _)

/-! impl_AngleOf -/
theorem impl_AngleOf_ev (h a b : Int) : Ev (fun k => impl_AngleOf.f k h a b) (vAngle h a b) := by
  unfold impl_AngleOf.f vAngle
  refine Ev.bind (impl_isTime_ev h a b) ?_
  cases e : isD h && isT a b
  · exact Ev.neg (by decide) (Ev.now _)
  refine Ev.pos rfl ?_
  rw [Bool.and_eq_true] at e
  obtain ⟨q1, q2⟩ := isD_iff.1 e.1
  rw [wrap_id (x := h - 1) (by omega) (by omega)]
  exact Ev.bind (impl_Turn_times_T a b (h - 1) e.2 (by omega) (by omega)) (Ev.now _)

/-! spec_AngleOf -/
theorem spec_AngleOf_ev (h a b : Int) : Ev (fun k => spec_AngleOf.f k h a b) (vAngle h a b) := by
  unfold spec_AngleOf.f vAngle
  refine Ev.bind (spec_diAsked_ev h a b) ?_
  cases e : isD h && isT a b
  · exact Ev.neg (by decide) (Ev.now _)
  refine Ev.pos rfl ?_
  rw [Bool.and_eq_true] at e
  obtain ⟨q1, q2⟩ := isD_iff.1 e.1
  rw [wrap_id (x := h - 1) (by omega) (by omega)]
  exact Ev.bind (spec_diTimes_ev a b (h - 1) e.2 (by omega) (by omega)) (Ev.now _)

/-! impl_Turn_mirror -/
theorem impl_Turn_mirror_fr (p : Rat) (hp : td p ≤ 10000000000) : Ev (fun n => impl_Turn_mirror.f n (tn p) (td p)) (tn (-p), td (-p)) := by
  unfold impl_Turn_mirror.f
  refine Ev.bind (impl_Turn_times_fr p (-1) hp (by omega) (by omega)) ?_
  rw [neg_one_mul']
  exact Ev.now _
theorem impl_Turn_mirror_T (a b : Int) (h : isT a b = true) : Ev (fun n => impl_Turn_mirror.f n a b) (tn (-((a : Rat) / b)), td (-((a : Rat) / b))) := by
  unfold impl_Turn_mirror.f
  refine Ev.bind (impl_Turn_times_T a b (-1) h (by omega) (by omega)) ?_
  rw [neg_one_mul']
  exact Ev.now _

/-! cmp_isNaN_int -/
theorem cmp_isNaN_int_eq (a : Int) : cmp_isNaN_int.f a = some false := by unfold cmp_isNaN_int.f; simp

/-! cmp_Compare_int -/
theorem cmp_Compare_int_eq (a b : Int) : cmp_Compare_int.f a b = some (sg (a - b)) := by
  unfold cmp_Compare_int.f sg
  simp only [cmp_isNaN_int_eq, Option.bind_some, Bool.false_eq_true, if_false]
  by_cases h : a < b
  · rw [if_pos h, if_neg (by omega), if_pos (by omega)]
  · rw [if_neg h]
    by_cases h2 : a > b
    · rw [if_pos h2, if_pos (by omega)]
    · rw [if_neg h2, if_neg (by omega), if_neg (by omega)]

/-! impl_Turn_compare -/
theorem impl_Turn_compare_eq (a b c d : Int) (ha : isT a b = true) (hc : isT c d = true) : impl_Turn_compare.f a b c d = some (sg (a * d - c * b)) := by
  obtain ⟨p1, p2, p3, p4, _⟩ := isT_iff.1 ha
  obtain ⟨r1, r2, r3, r4, _⟩ := isT_iff.1 hc
  have m1 := mul_bound (a := a) (b := d) (A := 1000000) (B := 1000000) (by omega) (by omega) (by omega) (by omega)
  have m2 := mul_bound (a := c) (b := b) (A := 1000000) (B := 1000000) (by omega) (by omega) (by omega) (by omega)
  unfold impl_Turn_compare.f
  rw [wrap_id (x := a * d) (by omega) (by omega), wrap_id (x := c * b) (by omega) (by omega)]
  simp only [cmp_Compare_int_eq, Option.bind_some]

/-! impl_SmallAngle -/
theorem impl_SmallAngle_ev (h a b : Int) : Ev (fun k => impl_SmallAngle.f k h a b) (vSmall h a b) := by
  unfold impl_SmallAngle.f vSmall
  refine Ev.bind (impl_AngleOf_ev h a b) ?_
  unfold vAngle
  cases e : isD h && isT a b
  · exact Ev.neg (by simp) (Ev.now _)
  refine Ev.pos (by simp) ?_
  rw [Bool.and_eq_true] at e
  obtain ⟨p1, p2, p3, p4, _⟩ := isT_iff.1 e.2
  have hq : td (((h - 1 : Int) : Rat) * ((a : Rat) / b)) ≤ 1000000 := Int.le_trans (td_mul_le (show 0 < b by omega)) p2
  simp only [if_true]
  generalize ((h - 1 : Int) : Rat) * ((a : Rat) / b) = q at hq ⊢
  refine Ev.bind (impl_Turn_mirror_fr q (by omega)) ?_
  have hn := td_neg_le q
  simp only [impl_Turn_compare_eq _ _ _ _ (show isT (tn (-q)) (td (-q)) = true by rw [isT_tn]; simp; omega) (show isT (tn q) (td q) = true by rw [isT_tn]; simpa using hq), Option.bind_some]
  split <;> exact Ev.now _

/-! spec_diMirror -/
theorem spec_diMirror_fr (p : Rat) (hp : td p ≤ 1000000) : Ev (fun n => spec_diMirror.f n (tn p) (td p)) (tn (-p), td (-p)) := by
  unfold spec_diMirror.f
  refine Ev.bind (spec_diTimes_fr p (-1) hp (by omega) (by omega)) ?_
  rw [neg_one_mul']
  exact Ev.now _
theorem spec_diMirror_T (a b : Int) (h : isT a b = true) : Ev (fun n => spec_diMirror.f n a b) (tn (-((a : Rat) / b)), td (-((a : Rat) / b))) := by
  unfold spec_diMirror.f
  refine Ev.bind (spec_diTimes_ev a b (-1) h (by omega) (by omega)) ?_
  rw [neg_one_mul']
  exact Ev.now _

/-! spec_l1Sign -/
theorem spec_l1Sign_eq (a : Int) : spec_l1Sign.f a = some (sg a) := by
  unfold spec_l1Sign.f sg
  split
  · rfl
  · split <;> rfl

/-! spec_diCompare -/
theorem spec_diCompare_eq (a b c d : Int) (ha : isT a b = true) (hc : isT c d = true) : spec_diCompare.f a b c d = some (sg (a * d - c * b)) := by
  obtain ⟨p1, p2, p3, p4, _⟩ := isT_iff.1 ha
  obtain ⟨r1, r2, r3, r4, _⟩ := isT_iff.1 hc
  have m1 := mul_bound (a := a) (b := d) (A := 1000000) (B := 1000000) (by omega) (by omega) (by omega) (by omega)
  have m2 := mul_bound (a := c) (b := b) (A := 1000000) (B := 1000000) (by omega) (by omega) (by omega) (by omega)
  unfold spec_diCompare.f
  rw [wrap_id (x := a * d) (by omega) (by omega), wrap_id (x := c * b) (by omega) (by omega), wrap_id (by omega) (by omega)]
  simp only [spec_l1Sign_eq, Option.bind_some]

/-! spec_SmallAngle -/
theorem spec_SmallAngle_ev (h a b : Int) : Ev (fun k => spec_SmallAngle.f k h a b) (vSmall h a b) := by
  unfold spec_SmallAngle.f vSmall
  refine Ev.bind (spec_diAsked_ev h a b) ?_
  cases e : isD h && isT a b
  · exact Ev.neg (by decide) (Ev.now _)
  refine Ev.pos rfl ?_
  rw [Bool.and_eq_true] at e
  obtain ⟨p1, p2, p3, p4, _⟩ := isT_iff.1 e.2
  obtain ⟨q1, q2⟩ := isD_iff.1 e.1
  have hq : td (((h - 1 : Int) : Rat) * ((a : Rat) / b)) ≤ 1000000 := Int.le_trans (td_mul_le (show 0 < b by omega)) p2
  rw [wrap_id (x := h - 1) (by omega) (by omega)]
  refine Ev.bind (spec_diTimes_ev a b (h - 1) e.2 (by omega) (by omega)) ?_
  simp only [if_true]
  generalize ((h - 1 : Int) : Rat) * ((a : Rat) / b) = q at hq ⊢
  refine Ev.bind (spec_diMirror_fr q (by omega)) ?_
  have hn := td_neg_le q
  simp only [spec_diCompare_eq _ _ _ _ (show isT (tn (-q)) (td (-q)) = true by rw [isT_tn]; simp; omega) (show isT (tn q) (td q) = true by rw [isT_tn]; simpa using hq), Option.bind_some]
  split <;> exact Ev.now _

/-! impl_split -/
theorem impl_split_ev (h n d : Int) (hh : isD h = true) (ht : isT n d = true) : Ev (fun k => impl_split.f k h n d) (n * h * 60 / d / 60, n * h * 60 / d % 60, tn (((60 * h : Int) : Rat) * ((n : Rat) / d)), td (((60 * h : Int) : Rat) * ((n : Rat) / d))) := by
  obtain ⟨p1, p2, p3, p4, _⟩ := isT_iff.1 ht
  obtain ⟨q1, q2⟩ := isD_iff.1 hh
  have m1 := mul_bound (a := n) (b := h) (A := 1000000) (B := 24) (by omega) (by omega) (by omega) (by omega)
  have n1 := Int.mul_nonneg p3 (show 0 ≤ h by omega)
  have e1 := Int.tdiv_eq_ediv_of_nonneg (b := d) (show 0 ≤ n * h * 60 by omega)
  have b1 := ediv_le' (show 0 ≤ n * h * 60 by omega) (show 0 < d by omega)
  have e2 := Int.tdiv_eq_ediv_of_nonneg (b := 60) b1.1
  have e3 := Int.tmod_eq_emod_of_nonneg (b := 60) b1.1
  unfold impl_split.f
  refine Ev.neg (by omega) ?_
  rw [wrap_id (x := n * h) (by omega) (by omega), wrap_id (x := n * h * 60) (by omega) (by omega), e1, wrap_id (x := n * h * 60 / d) (by omega) (by omega), e2, e3, wrap_id (by omega) (by omega)]
  refine Ev.bind (impl_part_ev _ d (by omega) (by omega) (by omega) (by omega)) ?_
  rw [show n * h * 60 = n * (60 * h) by rw [Int.mul_assoc, Int.mul_comm h], q_mul (k := 60 * h) (show 0 < d by omega)]
  exact Ev.now _

/-! impl_HourOf -/
theorem impl_HourOf_ev (h n d : Int) : Ev (fun k => impl_HourOf.f k h n d) (vHour h n d) := by
  unfold impl_HourOf.f vHour
  refine Ev.bind (impl_isTime_ev h n d) ?_
  cases e : isD h && isT n d
  · exact Ev.neg (by decide) (Ev.now _)
  refine Ev.pos rfl ?_
  rw [Bool.and_eq_true] at e
  refine Ev.bind (impl_split_ev h n d e.1 e.2) ?_
  refine Ev.val (Ev.now _) ?_
  obtain ⟨p1, p2, p3, p4, _⟩ := isT_iff.1 e.2
  show (n * h * 60 / d / 60, true) = (n * h / d, true)
  rw [Int.ediv_ediv_of_nonneg (by omega), Int.mul_ediv_mul_of_pos_left _ _ (by omega)]

/-! spec_HourOf -/
theorem spec_HourOf_ev (h n d : Int) : Ev (fun k => spec_HourOf.f k h n d) (vHour h n d) := by
  unfold spec_HourOf.f vHour
  refine Ev.bind (spec_diAsked_ev h n d) ?_
  cases e : isD h && isT n d
  · exact Ev.neg (by decide) (Ev.now _)
  refine Ev.pos rfl ?_
  rw [Bool.and_eq_true] at e
  obtain ⟨p1, p2, p3, p4, _⟩ := isT_iff.1 e.2
  obtain ⟨q1, q2⟩ := isD_iff.1 e.1
  have m1 := mul_bound (a := n) (b := h) (A := 1000000) (B := 24) (by omega) (by omega) (by omega) (by omega)
  have n1 := Int.mul_nonneg p3 (show 0 ≤ h by omega)
  have e1 := Int.tdiv_eq_ediv_of_nonneg (b := d) n1
  have b1 := ediv_le' n1 (show 0 < d by omega)
  refine Ev.neg (by omega) ?_
  rw [wrap_id (x := n * h) (by omega) (by omega), e1, wrap_id (by omega) (by omega)]
  exact Ev.now _

/-! impl_MinuteOf -/
theorem impl_MinuteOf_ev (h n d : Int) : Ev (fun k => impl_MinuteOf.f k h n d) (vMinute h n d) := by
  unfold impl_MinuteOf.f vMinute
  refine Ev.bind (impl_isTime_ev h n d) ?_
  cases e : isD h && isT n d
  · exact Ev.neg (by decide) (Ev.now _)
  refine Ev.pos rfl ?_
  rw [Bool.and_eq_true] at e
  refine Ev.bind (impl_split_ev h n d e.1 e.2) ?_
  exact Ev.now _

/-! spec_MinuteOf -/
theorem spec_MinuteOf_ev (h n d : Int) : Ev (fun k => spec_MinuteOf.f k h n d) (vMinute h n d) := by
  unfold spec_MinuteOf.f vMinute
  refine Ev.bind (spec_diAsked_ev h n d) ?_
  cases e : isD h && isT n d
  · exact Ev.neg (by decide) (Ev.now _)
  refine Ev.pos rfl ?_
  rw [Bool.and_eq_true] at e
  obtain ⟨p1, p2, p3, p4, _⟩ := isT_iff.1 e.2
  obtain ⟨q1, q2⟩ := isD_iff.1 e.1
  have m1 := mul_bound (a := n) (b := h) (A := 1000000) (B := 24) (by omega) (by omega) (by omega) (by omega)
  have n1 := Int.mul_nonneg p3 (show 0 ≤ h by omega)
  have e1 := Int.tdiv_eq_ediv_of_nonneg (b := d) (show 0 ≤ n * h * 60 by omega)
  have b1 := ediv_le' (show 0 ≤ n * h * 60 by omega) (show 0 < d by omega)
  have e3 := Int.tmod_eq_emod_of_nonneg (b := 60) b1.1
  refine Ev.neg (by omega) ?_
  rw [wrap_id (x := n * h) (by omega) (by omega), wrap_id (x := n * h * 60) (by omega) (by omega), e1, wrap_id (by omega) (by omega), e3]
  exact Ev.now _

/-! impl_SecondOf -/
theorem impl_SecondOf_ev (h a b : Int) : Ev (fun k => impl_SecondOf.f k h a b) (vSecond h a b) := by
  unfold impl_SecondOf.f vSecond
  refine Ev.bind (impl_isTime_ev h a b) ?_
  cases e : isD h && isT a b
  · exact Ev.neg (by decide) (Ev.now _)
  refine Ev.pos rfl ?_
  rw [Bool.and_eq_true] at e
  obtain ⟨q1, q2⟩ := isD_iff.1 e.1
  exact Ev.bind (impl_split_ev h a b e.1 e.2) (Ev.now _)

/-! spec_SecondOf -/
theorem spec_SecondOf_ev (h a b : Int) : Ev (fun k => spec_SecondOf.f k h a b) (vSecond h a b) := by
  unfold spec_SecondOf.f vSecond
  refine Ev.bind (spec_diAsked_ev h a b) ?_
  cases e : isD h && isT a b
  · exact Ev.neg (by decide) (Ev.now _)
  refine Ev.pos rfl ?_
  rw [Bool.and_eq_true] at e
  obtain ⟨q1, q2⟩ := isD_iff.1 e.1
  rw [wrap_id (x := 60 * h) (by omega) (by omega)]
  exact Ev.bind (spec_diTimes_ev a b (60 * h) e.2 (by omega) (by omega)) (Ev.now _)

/-! impl_areTurns_1 -/
theorem impl_areTurns_1_ev (n d : Int) : Ev (fun k => impl_areTurns_1.f k n d) (!isT n d) := by
  unfold impl_areTurns_1.f
  exact Ev.bind (impl_IsTurn_ev n d) (Ev.now _)

/-! impl_areTurns -/
theorem impl_areTurns_g : ∀ l : List S23, Ev (fun k => impl_areTurns.g k l) (l.all fun x => isT x.f0 x.f1)
  | [] => Ev.now _
  | x :: xs => by
    have e : (fun k => impl_areTurns.g k (x :: xs)) = fun k => (impl_areTurns_1.f k x.f0 x.f1).bind fun b => if b = true then some false else impl_areTurns.g k xs := by funext k; rfl
    rw [e]
    refine Ev.bind (impl_areTurns_1_ev _ _) ?_
    rw [List.all_cons]
    cases isT x.f0 x.f1
    · exact Ev.pos rfl (Ev.now _)
    · exact Ev.neg (by decide) (impl_areTurns_g xs)
theorem impl_areTurns_ev (l : List S23) (hl : l.length < 4611686018427387904) : Ev (fun k => impl_areTurns.f k l) (l.all fun x => isT x.f0 x.f1) := by
  unfold impl_areTurns.f
  exact Ev.pos hl (impl_areTurns_g l)
theorem impl_areTurns_two (a b c d : Int) : Ev (fun k => impl_areTurns.f k [(⟨a, b⟩ : S23), (⟨c, d⟩ : S23)]) (isT a b && isT c d) :=
  Ev.val (impl_areTurns_ev _ (by simp)) (by simp)

/-! h_lists -/
def pk (q : Rat) : S23 := ⟨tn q, td q⟩
/-- The first n of the parts whose s-fold is w, but for whole turns. -/
def rl (w : Rat) (s : Int) (n : Nat) : List S23 := (List.range n).map fun i => pk ((w + (((i : Nat) : Int) : Rat)) / (s : Rat))
theorem rl_succ (w : Rat) (s : Int) (n : Nat) : rl w s (n + 1) = rl w s n ++ [pk ((w + (((n : Nat) : Int) : Rat)) / (s : Rat))] := by
  unfold rl; rw [List.range_succ, List.map_append]; rfl
theorem rl_length (w : Rat) (s : Int) (n : Nat) : (rl w s n).length = n := by unfold rl; simp
def okR (w : Rat) (s : Int) (n : Nat) : Bool := (rl w s n).all fun x => isT x.f0 x.f1
theorem okR_iff {w : Rat} {s : Int} {n : Nat} : okR w s n = true ↔ ∀ i, i < n → td ((w + ((i : Int) : Rat)) / (s : Rat)) ≤ 1000000 := by
  unfold okR rl
  simp only [List.all_map, List.all_eq_true, List.mem_range, Function.comp, pk, isT_tn, decide_eq_true_eq]
theorem rl_get (w : Rat) (s : Int) (n : Nat) (i : Int) (h0 : 0 ≤ i) (h1 : i < n) : rd_T23 (rl w s n) i = pk ((w + (i : Rat)) / (s : Rat)) := by
  unfold rd_T23 rl
  rw [List.getD_eq_getElem?_getD, List.getElem?_map, List.getElem?_range (by omega)]
  simp only [Option.map_some, Option.getD_some]
  rw [show ((i.toNat : Nat) : Int) = i by omega]
def vRoots (w : Rat) (s : Int) : List S23 × Bool := if okR w s s.toNat = true then (rl w s s.toNat, true) else ([], false)
/-- The times at which a hand with the speed s has gone on by q. -/
def vTimesAt (q : Rat) (s : Int) : List S23 × Bool := if s < 0 then vRoots (fr (-q)) (-s) else vRoots (fr q) s
theorem vTimesAt_no {q : Rat} {s : Int} (hs : s ≠ 0) (hq : 1000000 < td q) : vTimesAt q s = ([], false) := by
  unfold vTimesAt vRoots
  by_cases h : s < 0
  · rw [if_pos h, if_neg]
    intro ho
    have h1 := okR_iff.1 ho 0 (by omega)
    have h2 := td_root (-q) (-s) 0 (by omega)
    rw [td_neg] at h2
    simp only [Int.cast_ofNat_Int] at h1 h2
    omega
  · rw [if_neg h, if_neg]
    intro ho
    have h1 := okR_iff.1 ho 0 (by omega)
    have h2 := td_root q s 0 (by omega)
    simp only [Int.cast_ofNat_Int] at h1 h2
    omega
theorem vRoots_len {w : Rat} {s : Int} (hs : 0 ≤ s) : (vRoots w s).1.length ≤ s := by
  unfold vRoots
  split
  · rw [rl_length]; omega
  · exact hs
theorem vTimesAt_len {q : Rat} {s : Int} (h0 : -1000 ≤ s) (h1 : s ≤ 1000) : (vTimesAt q s).1.length ≤ 1000 := by
  unfold vTimesAt
  split
  · have := vRoots_len (w := fr (-q)) (show 0 ≤ -s by omega); omega
  · have := vRoots_len (w := fr q) (show 0 ≤ s by omega); omega

/-! impl_ifTurns -/
theorem impl_ifTurns_ev (l : List S23) (b : Bool) (hl : l.length < 4611686018427387904) : Ev (fun k => impl_ifTurns.f k l b) (if (b && l.all fun x => isT x.f0 x.f1) = true then (l, true) else ([], false)) := by
  unfold impl_ifTurns.f
  cases b
  · exact Ev.neg (by decide) (Ev.now _)
  refine Ev.pos rfl ?_
  refine Ev.bind (impl_areTurns_ev l hl) ?_
  rw [Bool.true_and]
  split <;> exact Ev.now _
theorem impl_ifTurns_roots (w : Rat) (s : Int) (hs : s ≤ 100000) : Ev (fun k => impl_ifTurns.f k (rl w s s.toNat) (okR w s s.toNat)) (vRoots w s) := by
  refine Ev.val (impl_ifTurns_ev _ _ (by rw [rl_length]; omega)) ?_
  show (if (okR w s s.toNat && okR w s s.toNat) = true then _ else _) = _
  rw [Bool.and_self]; rfl

/-! impl_roots -/
theorem impl_roots_l0 (w : Rat) (s : Int) (hs : 0 < s) (hs' : s ≤ 100000) (hw : td w ≤ 10000000000) : ∀ (n i : Nat), s.toNat - i = n → i ≤ s.toNat →
    Ev (fun k => impl_roots.l0 k s (rl (fr w) s i) s i (tn w) (td w)) (rl (fr w) s s.toNat, okR (fr w) s s.toNat) := by
  intro n
  induction n with
  | zero =>
    intro i h0 h1
    have hi : i = s.toNat := by omega
    refine Ev.step (f := fun k => ((impl_areTurns.f k (rl (fr w) s i)).bind fun t => (some (rl (fr w) s i, t)))) (fun k => ?_) ?_
    · simp only [impl_roots.l0]; rw [if_neg (by omega)]
    · refine Ev.bind (impl_areTurns_ev _ (by rw [rl_length]; omega)) ?_
      rw [hi]; exact Ev.now _
  | succ n ih =>
    intro i h0 h1
    have hb := td_pos w
    have h2 := tn_nonneg w
    have h3 := tn_lt w
    have m1 := mul_bound (a := (i : Int)) (b := td w) (A := 100000) (B := 10000000000) (by omega) (by omega) (by omega) (by omega)
    have m2 := mul_bound (a := td w) (b := s) (A := 10000000000) (B := 100000) (by omega) (by omega) (by omega) (by omega)
    have m3 := Int.mul_pos hb hs
    have e1 : ((tn w + (i : Int) * td w : Int) : Rat) / ((td w * s : Int) : Rat) = (fr w + (((i : Nat) : Int) : Rat)) / (s : Rat) := q_root hb hs i
    refine Ev.step (f := fun k => ((impl_part.f k (tn w + (i : Int) * td w) (td w * s)).bind fun bt => (if (rl (fr w) s i).length < 8796093022208 then (impl_roots.l0 k s (rl (fr w) s i ++ [⟨bt.1, bt.2⟩]) s ((i + 1 : Nat) : Int) (tn w) (td w)) else none))) (fun k => ?_) ?_
    · simp only [impl_roots.l0]
      rw [if_pos (by omega), wrap_id (x := (i : Int) * td w) (by omega) (by omega), wrap_id (x := td w * s) (by omega) (by omega), wrap_id (x := tn w + (i : Int) * td w) (by omega) (by omega), wrap_id (x := (i : Int) + 1) (by omega) (by omega)]
      rfl
    · refine Ev.bind (impl_part_ev _ _ m3 (by omega) (by omega) (by omega)) ?_
      refine Ev.pos (by rw [rl_length]; omega) ?_
      rw [e1]
      have := ih (i + 1) (by omega) (by omega)
      rw [rl_succ] at this
      exact this
theorem impl_roots_ev (w : Rat) (s : Int) (hs : 0 < s) (hs' : s ≤ 100000) (hw : td w ≤ 10000000000) : Ev (fun k => impl_roots.f k (tn w) (td w) s) (rl (fr w) s s.toNat, okR (fr w) s s.toNat) := by
  unfold impl_roots.f
  exact impl_roots_l0 w s hs hs' hw s.toNat 0 (by omega) (by omega)

/-! h_twl -/
def vTWL (h a b : Int) : List S23 × Bool := if (isD h && isT a b) = true then vRoots ((a : Rat) / b) h else ([], false)
theorem vTWL_len (h a b : Int) : (vTWL h a b).1.length ≤ 1000 := by
  unfold vTWL
  split
  · rename_i e
    rw [Bool.and_eq_true] at e
    obtain ⟨q1, q2⟩ := isD_iff.1 e.1
    have := vRoots_len (w := (a : Rat) / b) (show 0 ≤ h by omega)
    omega
  · simp

/-! impl_TimesWithLong -/
theorem impl_TimesWithLong_ev (h a b : Int) : Ev (fun k => impl_TimesWithLong.f k h a b) (vTWL h a b) := by
  unfold impl_TimesWithLong.f vTWL
  refine Ev.bind (impl_isTime_ev h a b) ?_
  cases e : isD h && isT a b
  · exact Ev.neg (by decide) (Ev.now _)
  refine Ev.pos rfl ?_
  rw [Bool.and_eq_true] at e
  obtain ⟨q1, q2⟩ := isD_iff.1 e.1
  obtain ⟨e1, e2⟩ := isT_canon e.2
  obtain ⟨p1, p2, p3, p4, _⟩ := isT_iff.1 e.2
  have := impl_roots_ev ((a : Rat) / b) h (by omega) (by omega) (by omega)
  rw [e1, e2, isT_fr e.2] at this
  refine Ev.bind this ?_
  exact Ev.bind (impl_ifTurns_roots _ h (by omega)) (Ev.now _)

/-! spec_TimesWithLong -/
theorem spec_TimesWithLong_l0 (w : Rat) (s : Int) (hs : 0 < s) (hs' : s ≤ 100000) (hw : td w ≤ 10000000000) : ∀ (n i : Nat), s.toNat - i = n → i ≤ s.toNat → (∀ j, j < i → td ((fr w + ((j : Int) : Rat)) / (s : Rat)) ≤ 1000000) →
    Ev (fun k => spec_TimesWithLong.l0 k s (rl (fr w) s i) (i : Int) (tn w) (td w)) (vRoots (fr w) s) := by
  intro n
  induction n with
  | zero =>
    intro i h0 h1 hj
    have hi : i = s.toNat := by omega
    refine Ev.step (f := fun k => some (rl (fr w) s i, true)) (fun k => ?_) ?_
    · simp only [spec_TimesWithLong.l0]; rw [if_neg (by omega)]
    · unfold vRoots
      rw [if_pos (okR_iff.2 (fun j h => hj j (by omega))), hi]; exact Ev.now _
  | succ n ih =>
    intro i h0 h1 hj
    have hb := td_pos w
    have h2 := tn_nonneg w
    have h3 := tn_lt w
    have m1 := mul_bound (a := (i : Int)) (b := td w) (A := 100000) (B := 10000000000) (by omega) (by omega) (by omega) (by omega)
    have m2 := mul_bound (a := td w) (b := s) (A := 10000000000) (B := 100000) (by omega) (by omega) (by omega) (by omega)
    have m3 := Int.mul_pos hb hs
    have e1 : ((tn w + (i : Int) * td w : Int) : Rat) / ((td w * s : Int) : Rat) = (fr w + (((i : Nat) : Int) : Rat)) / (s : Rat) := q_root hb hs i
    refine Ev.step (f := fun k => ((spec_diMake.f k (tn w + (i : Int) * td w) (td w * s)).bind fun bt => (if bt.2.2 = true then (if (rl (fr w) s i).length < 8796093022208 then (spec_TimesWithLong.l0 k s (rl (fr w) s i ++ [⟨bt.1, bt.2.1⟩]) ((i + 1 : Nat) : Int) (tn w) (td w)) else none) else some ([], false)))) (fun k => ?_) ?_
    · simp only [spec_TimesWithLong.l0]
      rw [if_pos (by omega), wrap_id (x := (i : Int) * td w) (by omega) (by omega), wrap_id (x := td w * s) (by omega) (by omega), wrap_id (x := tn w + (i : Int) * td w) (by omega) (by omega), wrap_id (x := (i : Int) + 1) (by omega) (by omega)]
      rfl
    · refine Ev.bind (spec_diMake_ev _ _ m3 (by omega) (by omega) (by omega)) ?_
      rw [e1]
      by_cases ht : td ((fr w + (((i : Nat) : Int) : Rat)) / (s : Rat)) ≤ 1000000
      · rw [mk_of ht]
        refine Ev.pos rfl (Ev.pos (by rw [rl_length]; omega) ?_)
        have := ih (i + 1) (by omega) (by omega) (fun j h => by
          by_cases e : j = i
          · rw [e]; exact ht
          · exact hj j (by omega))
        rw [rl_succ] at this
        exact this
      · rw [show mk ((fr w + (((i : Nat) : Int) : Rat)) / (s : Rat)) = (0, 0, false) from if_neg ht]
        refine Ev.neg (by decide) ?_
        unfold vRoots
        rw [if_neg (fun h => ht (okR_iff.1 h i (by omega)))]
        exact Ev.now _

theorem spec_TimesWithLong_ev (h a b : Int) : Ev (fun k => spec_TimesWithLong.f k h a b) (vTWL h a b) := by
  unfold spec_TimesWithLong.f vTWL
  refine Ev.bind (spec_diAsked_ev h a b) ?_
  cases e : isD h && isT a b
  · exact Ev.neg (by decide) (Ev.now _)
  refine Ev.pos rfl ?_
  rw [Bool.and_eq_true] at e
  obtain ⟨q1, q2⟩ := isD_iff.1 e.1
  obtain ⟨e1, e2⟩ := isT_canon e.2
  obtain ⟨p1, p2, p3, p4, _⟩ := isT_iff.1 e.2
  have := spec_TimesWithLong_l0 ((a : Rat) / b) h (by omega) (by omega) (by omega) h.toNat 0 (by omega) (by omega) (fun j hj => by omega)
  rw [e1, e2, isT_fr e.2] at this
  exact this

/-! h_text -/
/-- The digits of a number that is not below zero. -/
def dg (a : Int) : ByteArray := ⟨(Lib.decDigits a.toNat).toArray⟩
theorem sz1 (c : UInt8) : (⟨#[c]⟩ : ByteArray).size = 1 := rfl
theorem dg_size (a : Int) (h : a ≤ 1000000000000) : (dg a).size ≤ 20 := by
  show (Lib.decDigits a.toNat).toArray.size ≤ 20
  rw [List.size_toArray, Lib.decDigits_length]
  exact Lib.nDigits_le20 a.toNat (by omega)
theorem dg_one {a : Int} (h0 : 0 ≤ a) (h : a < 10) : strOfNums [(wrap64 (48 + a)) % 256] = dg a := by
  rw [wrap_id (by omega) (by omega), Int.emod_eq_of_lt (by omega) (by omega)]
  unfold dg strOfNums
  rw [Lib.decDigits_one (show a.toNat < 10 by omega)]
  simp only [List.map_cons, List.map_nil]
  rw [show (48 + a).toNat = 48 + a.toNat by omega]
theorem dg_more {a : Int} (h : 10 ≤ a) : dg (a / 10) ++ strOfNums [(wrap64 (48 + a % 10)) % 256] = dg a := by
  have h1 := Int.emod_nonneg a (show (10 : Int) ≠ 0 by decide)
  have h2 := Int.emod_lt_of_pos a (show (0 : Int) < 10 by decide)
  rw [dg_one h1 h2]
  unfold dg
  rw [show (a % 10).toNat = a.toNat % 10 by omega, show (a / 10).toNat = a.toNat / 10 by omega]
  conv => rhs; rw [Lib.decDigits, dif_neg (show ¬ a.toNat < 10 by omega)]
  rw [Lib.decDigits_one (show a.toNat % 10 < 10 by omega)]
  apply ByteArray.ext
  rw [ByteArray.data_append]
  simp
def two (a : Int) : ByteArray := if a < 10 then (⟨#[48]⟩ : ByteArray) ++ dg a else dg a
theorem two_size (a : Int) (h : a ≤ 1000000000000) : (two a).size ≤ 21 := by
  have := dg_size a h
  unfold two
  split
  · rw [ByteArray.size_append, sz1]; omega
  · omega
def tBase (x y z : Int) : ByteArray := (((two x ++ (⟨#[58]⟩ : ByteArray)) ++ two y) ++ (⟨#[58]⟩ : ByteArray)) ++ two z
def tMore (n d : Int) : ByteArray := (((⟨#[43]⟩ : ByteArray) ++ dg n) ++ (⟨#[47]⟩ : ByteArray)) ++ dg d
def tText (x y z n d : Int) : ByteArray := if n > 0 then tBase x y z ++ tMore n d else tBase x y z
def qA (h n d : Int) : Rat := ((60 * h : Int) : Rat) * ((n : Rat) / d)
def qB (h n d : Int) : Rat := ((h * 3600 : Int) : Rat) * ((n : Rat) / d)
def vText (h n d : Int) : ByteArray := tText (n * h * 60 / d / 60) (n * h * 60 / d % 60) (tn (qA h n d) * 60 / td (qA h n d)) (tn (qB h n d)) (td (qB h n d))
def vTimeText (h n d : Int) : ByteArray × Bool := if (isD h && isT n d) = true then (vText h n d, true) else ((⟨#[]⟩ : ByteArray), false)
theorem sec_key {A d : Int} (hd : 0 < d) : A * 60 / d = (A % d) * 60 / d + 60 * (A / d) := by
  have e := Int.emod_add_mul_ediv A d
  have e2 : A * 60 = (A % d) * 60 + d * (60 * (A / d)) := by
    rw [Int.mul_left_comm]
    omega
  rw [e2, Int.add_mul_ediv_left _ _ (by omega)]
theorem sec_range {A d : Int} (hd : 0 < d) : 0 ≤ (A % d) * 60 / d ∧ (A % d) * 60 / d < 60 := by
  have h0 := Int.emod_nonneg A (show d ≠ 0 by omega)
  have h1 := Int.emod_lt_of_pos A hd
  exact ⟨Int.ediv_nonneg (by omega) (by omega), Int.ediv_lt_of_lt_mul hd (by omega)⟩
theorem sec_red {r d g : Int} (hg : 0 < g) (h1 : g ∣ r) (h2 : g ∣ d) : r / g * 60 / (d / g) = r * 60 / d := by
  obtain ⟨x, rfl⟩ := h1
  obtain ⟨y, rfl⟩ := h2
  rw [Int.mul_ediv_cancel_left _ (by omega), Int.mul_ediv_cancel_left _ (by omega), Int.mul_assoc, Int.mul_ediv_mul_of_pos _ _ hg]
theorem sec_qA (h n d : Int) (hd : 0 < d) : tn (qA h n d) * 60 / td (qA h n d) = (n * h * 60 % d) * 60 / d := by
  have e : qA h n d = ((n * h * 60 : Int) : Rat) / (d : Rat) := by
    unfold qA
    rw [show n * h * 60 = n * (60 * h) by rw [Int.mul_assoc, Int.mul_comm h], q_mul (k := 60 * h) hd]
  rw [e, tn_div _ d hd, td_div _ d hd]
  exact sec_red (gcd_pos' _ hd) (Int.gcd_dvd_left ..) (Int.gcd_dvd_right ..)
theorem fr_qAB (h n d : Int) : fr (((60 : Int) : Rat) * fr (qA h n d)) = fr (qB h n d) := by
  rw [fr_mul_fr]
  congr 1
  unfold qA qB
  rw [Rat.intCast_mul, Rat.intCast_mul]
  have e : ((3600 : Int) : Rat) = ((60 : Int) : Rat) * ((60 : Int) : Rat) := by rw [← Rat.intCast_mul]; rfl
  rw [e]
  grind

/-! impl_twoDigits -/
theorem strconv_Itoa_eq (a : Int) (h0 : 0 ≤ a) (h1 : a ≤ 1000000000000) : strconv_Itoa_41.f a = some (dg a) := by
  unfold strconv_Itoa_41.f dg
  rw [if_pos ⟨by omega, by omega⟩]
  unfold Lib.itoa
  rw [if_neg (by omega)]
theorem impl_twoDigits_eq (a : Int) (h0 : 0 ≤ a) (h1 : a ≤ 1000000000000) : impl_twoDigits.f a = some (two a) := by
  unfold impl_twoDigits.f two
  have z := dg_size a h1
  rw [strconv_Itoa_eq a h0 h1]
  simp only [Option.bind_some]
  by_cases h : a < 10
  · rw [if_pos h, if_pos h, if_pos (by omega)]
  · rw [if_neg h, if_neg h]

/-! impl_TimeText -/
theorem impl_TimeText_ev (h n d : Int) : Ev (fun k => impl_TimeText.f k h n d) (vTimeText h n d) := by
  unfold impl_TimeText.f vTimeText
  refine Ev.bind (impl_isTime_ev h n d) ?_
  cases e : isD h && isT n d
  · exact Ev.neg (by decide) (Ev.now _)
  refine Ev.pos rfl ?_
  rw [Bool.and_eq_true] at e
  obtain ⟨p1, p2, p3, p4, _⟩ := isT_iff.1 e.2
  obtain ⟨q1, q2⟩ := isD_iff.1 e.1
  have m1 := mul_bound (a := n) (b := h) (A := 1000000) (B := 24) (by omega) (by omega) (by omega) (by omega)
  have n1 := Int.mul_nonneg p3 (show 0 ≤ h by omega)
  have b0 := ediv_le' (show 0 ≤ n * h * 60 by omega) (show 0 < d by omega)
  have k2 := sec_range (A := n * h * 60) (show 0 < d by omega)
  have k3 := sec_qA h n d (by omega)
  refine Ev.bind (impl_split_ev h n d e.1 e.2) ?_
  have s0 := tn_nonneg (qA h n d)
  have s1 := tn_lt (qA h n d)
  have s2 : td (qA h n d) ≤ d := td_mul_le (show 0 < d by omega)
  have s3 : Ev (fun k => impl_part.f k (tn (qA h n d) * 60) (td (qA h n d))) (tn (qB h n d), td (qB h n d)) := by
    refine Ev.val (impl_part_ev (tn (qA h n d) * 60) (td (qA h n d)) (by omega) (by omega) (by omega) (by omega)) ?_
    apply tt_of_fr
    rw [q_mul (k := 60) (show 0 < td (qA h n d) by omega), tn_td]
    exact fr_qAB h n d
  have t0 := tn_nonneg (qB h n d)
  have t1 := tn_lt (qB h n d)
  have t2 : td (qB h n d) ≤ d := td_mul_le (show 0 < d by omega)
  have y1 := dg_size (tn (qB h n d)) (by omega)
  have y2 := dg_size (td (qB h n d)) (by omega)
  have z1 := two_size (n * h * 60 / d / 60) (by omega)
  have z2 := two_size (n * h * 60 / d % 60) (by omega)
  have z3 := two_size (tn (qA h n d) * 60 / td (qA h n d)) (by omega)
  have w1 := impl_twoDigits_eq (n * h * 60 / d / 60) (by omega) (by omega)
  have w2 := impl_twoDigits_eq (n * h * 60 / d % 60) (by omega) (by omega)
  have w3 := impl_twoDigits_eq (tn (qA h n d) * 60 / td (qA h n d)) (by omega) (by omega)
  have i1 := strconv_Itoa_eq (tn (qB h n d)) (by omega) (by omega)
  have i2 := strconv_Itoa_eq (td (qB h n d)) (by omega) (by omega)
  have f1 := Int.tdiv_eq_ediv_of_nonneg (b := td (qA h n d)) (show 0 ≤ tn (qA h n d) * 60 by omega)
  dsimp only
  rw [w1]
  simp only [Option.bind_some]
  refine Ev.pos (by omega) ?_
  rw [w2]
  simp only [Option.bind_some]
  refine Ev.pos (by simp only [ByteArray.size_append, sz1]; omega) ?_
  refine Ev.pos (by simp only [ByteArray.size_append, sz1]; omega) ?_
  refine Ev.neg (show ¬ td (qA h n d) = 0 by omega) ?_
  change Ev (fun k => (impl_twoDigits.f (wrap64 (Int.tdiv (wrap64 (tn (qA h n d) * 60)) (td (qA h n d))))).bind _) _
  rw [wrap_id (x := tn (qA h n d) * 60) (by omega) (by omega), f1, wrap_id (by omega) (by omega), w3]
  simp only [Option.bind_some]
  refine Ev.pos (by simp only [ByteArray.size_append, sz1]; omega) ?_
  change Ev (fun k => (impl_part.f k (wrap64 (tn (qA h n d) * 60)) (td (qA h n d))).bind _) _
  rw [wrap_id (x := tn (qA h n d) * 60) (by omega) (by omega)]
  refine Ev.bind s3 ?_
  dsimp only
  unfold vText tText
  by_cases c : tn (qB h n d) > 0
  · rw [if_pos (c := True) trivial]
    simp only [if_pos c]
    rw [i1, i2]
    simp only [Option.bind_some]
    refine Ev.pos (by omega) ?_
    refine Ev.pos (by simp only [ByteArray.size_append, sz1]; omega) ?_
    refine Ev.pos (by simp only [ByteArray.size_append, sz1]; omega) ?_
    refine Ev.pos (by simp only [ByteArray.size_append, sz1]; omega) ?_
    exact Ev.now _
  · rw [if_pos (c := True) trivial]
    simp only [if_neg c]
    exact Ev.now _

/-! spec_l1Num -/
theorem spec_l1Num_n : ∀ (n : Nat) (a : Int), 0 ≤ a → a < n → a ≤ 1000000000000 → Ev (fun k => spec_l1Num.f k a) (dg a) := by
  intro n
  induction n with
  | zero => intro a h0 h1; omega
  | succ n ih =>
    intro a h0 h1 h2
    by_cases h : a < 10
    · refine Ev.step (f := fun _ => some (dg a)) (fun k => ?_) (Ev.now _)
      show spec_l1Num.f (k + 1) a = _
      rw [spec_l1Num.f, if_pos h, dg_one h0 h]
    · refine Ev.step (f := fun k => (spec_l1Num.f k (a / 10)).bind fun t => if t.size + (strOfNums [(wrap64 (48 + a % 10)) % 256]).size ≤ 9223372036854775807 then some (t ++ strOfNums [(wrap64 (48 + a % 10)) % 256]) else none) (fun k => ?_) ?_
      · show spec_l1Num.f (k + 1) a = _
        rw [spec_l1Num.f, if_neg h, Int.tdiv_eq_ediv_of_nonneg h0, Int.tmod_eq_emod_of_nonneg h0, wrap_id (x := a / 10) (by omega) (by omega)]
        rfl
      · refine Ev.bind (ih (a / 10) (by omega) (by omega) (by omega)) ?_
        have z := dg_size (a / 10) (by omega)
        refine Ev.pos ?_ ?_
        · show (dg (a / 10)).size + 1 ≤ _
          omega
        · rw [dg_more (by omega)]; exact Ev.now _
theorem spec_l1Num_ev (a : Int) (h0 : 0 ≤ a) (h1 : a ≤ 1000000000000) : Ev (fun k => spec_l1Num.f k a) (dg a) := spec_l1Num_n (a.toNat + 1) a h0 (by omega) h1

/-! spec_diTwo -/
theorem spec_diTwo_ev (a : Int) (h0 : 0 ≤ a) (h1 : a ≤ 1000000000000) : Ev (fun k => spec_diTwo.f k a) (two a) := by
  unfold spec_diTwo.f two
  have z := dg_size a h1
  have v := spec_l1Num_ev a h0 h1
  by_cases h : a < 10
  · rw [if_pos h]; exact Ev.pos h (Ev.bind v (Ev.pos (by omega) (Ev.now _)))
  · rw [if_neg h]; exact Ev.neg h (Ev.bind v (Ev.now _))

/-! spec_diText -/
theorem spec_diText_ev (h n d : Int) (hh : isD h = true) (ht : isT n d = true) : Ev (fun k => spec_diText.f k h n d) (vText h n d) := by
  obtain ⟨p1, p2, p3, p4, _⟩ := isT_iff.1 ht
  obtain ⟨q1, q2⟩ := isD_iff.1 hh
  have m1 := mul_bound (a := n) (b := h) (A := 1000000) (B := 24) (by omega) (by omega) (by omega) (by omega)
  have n1 := Int.mul_nonneg p3 (show 0 ≤ h by omega)
  have k1 := sec_key (A := n * h * 60) (show 0 < d by omega)
  have k2 := sec_range (A := n * h * 60) (show 0 < d by omega)
  have k3 := sec_qA h n d (by omega)
  have b0 := ediv_le' (show 0 ≤ n * h * 60 by omega) (show 0 < d by omega)
  rw [show n * h * 60 * 60 = n * h * 3600 by omega] at k1
  have e1 := Int.tdiv_eq_ediv_of_nonneg (b := d) (show 0 ≤ n * h * 3600 by omega)
  have b1 := ediv_le' (show 0 ≤ n * h * 3600 by omega) (show 0 < d by omega)
  have e2 := Int.tdiv_eq_ediv_of_nonneg (b := 3600) b1.1
  have e3 := Int.tdiv_eq_ediv_of_nonneg (b := 60) b1.1
  have e4 := Int.tmod_eq_emod_of_nonneg (b := 60) b1.1
  have e5 := Int.tmod_eq_emod_of_nonneg (b := 60) (show 0 ≤ n * h * 3600 / d / 60 by omega)
  unfold spec_diText.f vText
  refine Ev.neg (by omega) ?_
  rw [wrap_id (x := n * h) (by omega) (by omega), wrap_id (x := n * h * 3600) (by omega) (by omega), e1, wrap_id (x := n * h * 3600 / d) (by omega) (by omega), e2, e3, e4, wrap_id (x := n * h * 3600 / d / 3600) (by omega) (by omega), wrap_id (x := n * h * 3600 / d / 60) (by omega) (by omega), e5, wrap_id (x := h * 3600) (by omega) (by omega)]
  rw [k3, show n * h * 3600 / d / 3600 = n * h * 60 / d / 60 by omega, show n * h * 3600 / d / 60 = n * h * 60 / d by omega, show n * h * 3600 / d % 60 = (n * h * 60 % d) * 60 / d by omega]
  have z1 := two_size (n * h * 60 / d / 60) (by omega)
  have z2 := two_size (n * h * 60 / d % 60) (by omega)
  have z3 := two_size ((n * h * 60 % d) * 60 / d) (by omega)
  refine Ev.bind (spec_diTwo_ev _ (by omega) (by omega)) ?_
  refine Ev.pos (by omega) ?_
  refine Ev.bind (spec_diTwo_ev _ (by omega) (by omega)) ?_
  refine Ev.pos (by simp only [ByteArray.size_append, sz1]; omega) ?_
  refine Ev.pos (by simp only [ByteArray.size_append, sz1]; omega) ?_
  refine Ev.bind (spec_diTwo_ev _ (by omega) (by omega)) ?_
  refine Ev.pos (by simp only [ByteArray.size_append, sz1]; omega) ?_
  have s3 : Ev (fun k => spec_diTimes.f k n d (h * 3600)) (tn (qB h n d), td (qB h n d)) := spec_diTimes_ev n d (h * 3600) ht (by omega) (by omega)
  refine Ev.bind s3 ?_
  dsimp only
  have t0 := tn_nonneg (qB h n d)
  have t1 := tn_lt (qB h n d)
  have t2 : td (qB h n d) ≤ d := td_mul_le (show 0 < d by omega)
  have y1 := dg_size (tn (qB h n d)) (by omega)
  have y2 := dg_size (td (qB h n d)) (by omega)
  unfold tText
  by_cases c : tn (qB h n d) > 0
  · rw [if_pos c]
    refine Ev.pos c ?_
    refine Ev.bind (spec_l1Num_ev _ (by omega) (by omega)) ?_
    refine Ev.pos (by omega) ?_
    refine Ev.pos (by simp only [ByteArray.size_append, sz1]; omega) ?_
    refine Ev.bind (spec_l1Num_ev _ (by omega) (by omega)) ?_
    refine Ev.pos (by simp only [ByteArray.size_append, sz1]; omega) ?_
    refine Ev.pos (by simp only [ByteArray.size_append, sz1]; omega) ?_
    exact Ev.now _
  · rw [if_neg c]
    exact Ev.neg c (Ev.now _)

/-! spec_TimeText -/
theorem spec_TimeText_ev (h n d : Int) : Ev (fun k => spec_TimeText.f k h n d) (vTimeText h n d) := by
  unfold spec_TimeText.f vTimeText
  refine Ev.bind (spec_diAsked_ev h n d) ?_
  cases e : isD h && isT n d
  · exact Ev.neg (by decide) (Ev.now _)
  refine Ev.pos rfl ?_
  rw [Bool.and_eq_true] at e
  exact Ev.bind (spec_diText_ev h n d e.1 e.2) (Ev.now _)

/-! laws_wTurns -/
theorem laws_wTurns_l0 (l : List S23) (hl : l.length ≤ 100000) : ∀ (n i : Nat), l.length - i = n → i ≤ l.length → Ev (fun k => laws_wTurns.l0 k l l (l.length : Int) i) true := by
  intro n
  induction n with
  | zero =>
    intro i h0 h1
    refine Ev.step (f := fun k => some true) (fun k => ?_) (Ev.now _)
    simp only [laws_wTurns.l0]; rw [if_neg (by omega)]
  | succ n ih =>
    intro i h0 h1
    refine Ev.step (f := fun k => laws_wTurns.l0 k l l (l.length : Int) ((i + 1 : Nat) : Int)) (fun k => ?_) (ih (i + 1) (by omega) (by omega))
    simp only [laws_wTurns.l0]
    rw [if_pos (by omega), if_pos (by omega), if_pos (by omega), if_pos (by omega), if_neg (by simp), wrap_id (by omega) (by omega)]
    rfl
theorem laws_wTurns_self (l : List S23) (hl : l.length ≤ 100000) : Ev (fun k => laws_wTurns.f k l l) true := by
  unfold laws_wTurns.f
  exact Ev.pos rfl (laws_wTurns_l0 l hl l.length 0 (by omega) (by omega))

/-! impl_ifTurn -/
theorem impl_ifTurn_ev (n d : Int) : Ev (fun k => impl_ifTurn.f k n d) (if isT n d = true then (n, d, true) else (0, 0, false)) := by
  unfold impl_ifTurn.f
  refine Ev.bind (impl_IsTurn_ev n d) ?_
  split <;> exact Ev.now _
theorem impl_ifTurn_mk (q : Rat) : Ev (fun k => impl_ifTurn.f k (tn q) (td q)) (mk q) := by
  refine Ev.val (impl_ifTurn_ev _ _) ?_
  unfold mk
  rw [isT_tn]
  simp

/-! impl_Turn_plus -/
theorem impl_Turn_plus_ev (a b c d : Int) (hb : 0 < b) (hd : 0 < d) (hm : b * d ≤ 1000000000000000000) (ha : -b ≤ a) (ha' : a ≤ b) (hc : -d ≤ c) (hc' : c ≤ d) : Ev (fun k => impl_Turn_plus.f k a b c d) (tn ((a : Rat) / b + (c : Rat) / d), td ((a : Rat) / b + (c : Rat) / d)) := by
  have m1 := mul_bound (a := a) (b := d) (A := b) (B := d) (by omega) (by omega) (by omega) (by omega)
  have m2 := mul_bound (a := c) (b := b) (A := d) (B := b) (by omega) (by omega) (by omega) (by omega)
  have m3 := Int.mul_pos hb hd
  rw [Int.mul_comm d b] at m2
  unfold impl_Turn_plus.f
  rw [wrap_id (x := a * d) (by omega) (by omega), wrap_id (x := c * b) (by omega) (by omega), wrap_id (x := b * d) (by omega) (by omega), wrap_id (by omega) (by omega)]
  rw [← q_add hb hd]
  exact Ev.bind (impl_part_ev _ _ (by omega) (by omega) (by omega) (by omega)) (Ev.now _)
theorem impl_Turn_plus_fr (p q : Rat) (hm : td p * td q ≤ 1000000000000000000) : Ev (fun k => impl_Turn_plus.f k (tn p) (td p) (tn q) (td q)) (tn (p + q), td (p + q)) := by
  have h1 := tn_nonneg p
  have h2 := tn_lt p
  have h3 := tn_nonneg q
  have h4 := tn_lt q
  refine Ev.val (impl_Turn_plus_ev _ _ _ _ (td_pos p) (td_pos q) hm (by omega) (by omega) (by omega) (by omega)) ?_
  rw [tn_td, tn_td]
  exact tt_of_fr (fr_plus p q)

/-! impl_AddTurns -/
theorem impl_AddTurns_ev (a b c d : Int) : Ev (fun k => impl_AddTurns.f k a b c d) (vAdd a b c d) := by
  unfold impl_AddTurns.f vAdd
  refine Ev.bind (impl_areTurns_two a b c d) ?_
  cases h : isT a b && isT c d
  · exact Ev.neg (by decide) (Ev.now _)
  refine Ev.pos rfl ?_
  rw [Bool.and_eq_true] at h
  obtain ⟨p1, p2, p3, p4, _⟩ := isT_iff.1 h.1
  obtain ⟨r1, r2, r3, r4, _⟩ := isT_iff.1 h.2
  have m3 := mul_bound (a := b) (b := d) (A := 1000000) (B := 1000000) (by omega) (by omega) (by omega) (by omega)
  refine Ev.bind (impl_Turn_plus_ev a b c d (by omega) (by omega) (by omega) (by omega) (by omega) (by omega) (by omega)) ?_
  exact Ev.bind (impl_ifTurn_mk _) (Ev.now _)

/-! h_ahead -/
/-- The times at which one hand is ahead of another by m / n. -/
def vAheadT (a b s c d t m n : Int) : List S23 × Bool := if vAsked a b s c d t = true then vTimesAt ((m : Rat) / n - fr ((a : Rat) / b - (c : Rat) / d)) (s - t) else ([], false)
theorem vAheadT_len (a b s c d t m n : Int) : (vAheadT a b s c d t m n).1.length ≤ 1000 := by
  unfold vAheadT
  split
  · rename_i h
    unfold vAsked at h
    simp only [Bool.and_eq_true] at h
    obtain ⟨u1, u2⟩ := isH_speed h.1.1
    obtain ⟨u3, u4⟩ := isH_speed h.1.2
    exact vTimesAt_len (by omega) (by omega)
  · simp

/-! h_first -/
def vFirst (a b s c d t : Int) : Int × Int × Bool := if (vAheadT a b s c d t 0 1).2 = true then ((rd_T23 (vAheadT a b s c d t 0 1).1 0).f0, (rd_T23 (vAheadT a b s c d t 0 1).1 0).f1, true) else (0, 0, false)
theorem vRoots_ok {w : Rat} {s : Int} (h : (vRoots w s).2 = true) : okR w s s.toNat = true ∧ (vRoots w s).1 = rl w s s.toNat := by
  unfold vRoots at h ⊢
  split at h
  · rename_i e; rw [if_pos e]; exact ⟨e, rfl⟩
  · cases h
theorem vAheadT_pos {a b s c d t m n : Int} (h : (vAheadT a b s c d t m n).2 = true) : 0 < ((vAheadT a b s c d t m n).1.length : Int) := by
  unfold vAheadT at h ⊢
  split at h
  · rename_i e
    rw [if_pos e]
    unfold vAsked at e
    simp only [Bool.and_eq_true, bne_iff_ne, ne_eq] at e
    unfold vTimesAt at h ⊢
    split at h
    · rename_i hs
      rw [if_pos hs, (vRoots_ok h).2, rl_length]; omega
    · rename_i hs
      rw [if_neg hs, (vRoots_ok h).2, rl_length]; omega
  · cases h

/-! h_place -/
def vPlaceT (a b s c d : Int) : List S23 × Bool := if isH a b s = true then if isC c d = true then if s = 0 then ([], false) else vTimesAt ((c : Rat) / d - (a : Rat) / b) s else ([], false) else ([], false)
theorem vPlaceT_len (a b s c d : Int) : (vPlaceT a b s c d).1.length ≤ 1000 := by
  unfold vPlaceT
  split
  · rename_i h
    obtain ⟨u1, u2⟩ := isH_speed h
    split
    · split
      · simp
      · exact vTimesAt_len (by omega) (by omega)
    · simp
  · simp

/-! h_three -/
/-- whether the third hand stands where the first one stands -/
def thP (a b s m n u : Int) (x : S23) : Bool := decide (fr (((a : Rat) / b - (m : Rat) / n) + ((s - u : Int) : Rat) * ((x.f0 : Rat) / x.f1)) = 0)
theorem fr_zero_iff (p q : Rat) : fr p = fr q ↔ fr (p - q) = 0 := by
  constructor
  · intro h
    obtain ⟨z1, e1⟩ := fr_exists p
    obtain ⟨z2, e2⟩ := fr_exists q
    have e : p - q = 0 + ((z1 - z2 : Int) : Rat) := by rw [e1, e2, h, Rat.intCast_sub]; grind
    rw [e, fr_add_int]
    unfold fr; rw [show (0 : Rat).floor = 0 by decide]; grind
  · intro h
    obtain ⟨z, e⟩ := fr_exists (p - q)
    rw [h] at e
    have e2 : p = q + (z : Rat) := by grind
    rw [e2, fr_add_int]
theorem tn_zero_iff (q : Rat) : tn q = 0 ↔ fr q = 0 := by unfold tn; exact Rat.num_eq_zero
theorem th_same (a b s m n u : Int) (x : S23) : (tn ((a : Rat) / b + s * ((x.f0 : Rat) / x.f1)) = tn ((m : Rat) / n + u * ((x.f0 : Rat) / x.f1)) ∧ td ((a : Rat) / b + s * ((x.f0 : Rat) / x.f1)) = td ((m : Rat) / n + u * ((x.f0 : Rat) / x.f1))) ↔ thP a b s m n u x = true := by
  unfold thP
  rw [decide_eq_true_iff]
  have e : ((a : Rat) / b - (m : Rat) / n) + ((s - u : Int) : Rat) * ((x.f0 : Rat) / x.f1) = ((a : Rat) / b + s * ((x.f0 : Rat) / x.f1)) - ((m : Rat) / n + u * ((x.f0 : Rat) / x.f1)) := by rw [Rat.intCast_sub]; grind
  rw [e, ← fr_zero_iff]
  constructor
  · rintro ⟨h1, h2⟩; exact fr_of_eq h1 h2
  · intro h; have := tt_of_fr h; exact ⟨congrArg Prod.fst this, congrArg Prod.snd this⟩
def vThree (a b s c d t m n u : Int) : List S23 × Bool := if (vAheadT a b s c d t 0 1).2 = true then if isH m n u = true then ((vAheadT a b s c d t 0 1).1.filter (thP a b s m n u), true) else ([], false) else ([], false)
theorem vThree_len (a b s c d t m n u : Int) : (vThree a b s c d t m n u).1.length ≤ 1000 := by
  have h := vAheadT_len a b s c d t 0 1
  unfold vThree
  split
  · split
    · exact Nat.le_trans (List.length_filter_le _ _) h
    · simp
  · simp
theorem vAheadT_hands {a b s c d t m n : Int} (h : (vAheadT a b s c d t m n).2 = true) : isH a b s = true ∧ isH c d t = true := by
  unfold vAheadT vAsked at h
  split at h
  · rename_i e; simp at e; exact ⟨by simp [e.1], by simp [e.1]⟩
  · cases h

/-! h_rise -/
/-! ### times that rise -/
def ltT (x y : S23) : Prop := x.f0 * y.f1 < y.f0 * x.f1
theorem lt_of_rat {p q : Rat} (h0 : 0 ≤ p) (h : p < q) (h1 : q < 1) : tn p * td q < tn q * td p := by
  have hp : fr p = p := fr_of_range h0 (by grind)
  have hq : fr q = q := fr_of_range (by grind) h1
  have e1 := tn_td p
  have e2 := tn_td q
  rw [hp] at e1
  rw [hq] at e2
  have k1 : (0 : Rat) < (td p : Rat) := cast_pos (td_pos p)
  have k2 : (0 : Rat) < (td q : Rat) := cast_pos (td_pos q)
  have h2 : (tn p : Rat) / (td p : Rat) < (tn q : Rat) / (td q : Rat) := by rw [e1, e2]; exact h
  rw [Rat.div_lt_iff k1] at h2
  have h3 := Rat.mul_lt_mul_of_pos_right h2 k2
  have nz2 : (td q : Rat) ≠ 0 := cast_ne (td_pos q)
  have h4 : (tn q : Rat) / (td q : Rat) * (td p : Rat) * (td q : Rat) = ((tn q * td p : Int) : Rat) := by
    rw [Rat.intCast_mul, Rat.div_def]
    have := Rat.inv_mul_cancel _ nz2
    grind
  rw [h4, ← Rat.intCast_mul] at h3
  exact Rat.intCast_lt_intCast.1 h3
theorem rd_el (l : List S23) (i : Nat) (h : i < l.length) : rd_T23 l (i : Int) = l[i] := by
  unfold rd_T23
  rw [Int.toNat_natCast, List.getD_eq_getElem?_getD, List.getElem?_eq_getElem h]; rfl
theorem rd_mem (l : List S23) (i : Nat) (h : i < l.length) : rd_T23 l (i : Int) ∈ l := by
  rw [rd_el l i h]; exact List.getElem_mem h
theorem rl_pair {w : Rat} {s : Int} (h0 : 0 ≤ w) (h1 : w < 1) (hs : 0 < s) (n : Nat) (hn : (n : Int) ≤ s) : (rl w s n).Pairwise ltT := by
  unfold rl
  rw [List.pairwise_map]
  refine List.Pairwise.imp_of_mem (fun {i j} hi hj hij => ?_) (List.pairwise_lt_range (n := n))
  unfold ltT pk
  have hj' := List.mem_range.1 hj
  have k := cast_pos hs
  have c1 : ((i : Int) : Rat) + 1 ≤ ((j : Int) : Rat) := by
    have := Rat.intCast_le_intCast.2 (show ((i : Int) + 1) ≤ (j : Int) by omega)
    rw [Rat.intCast_add] at this; exact this
  have c2 : ((j : Int) : Rat) + 1 ≤ (s : Rat) := by
    have := Rat.intCast_le_intCast.2 (show ((j : Int) + 1) ≤ s by omega)
    rw [Rat.intCast_add] at this; exact this
  have c3 : (0 : Rat) ≤ ((i : Int) : Rat) := by
    have := Rat.intCast_le_intCast.2 (show (0 : Int) ≤ (i : Int) by omega)
    simpa using this
  refine lt_of_rat ?_ ?_ ?_
  · rw [Rat.div_def]; exact Rat.mul_nonneg (by grind) (Rat.le_of_lt (Rat.inv_pos.2 k))
  · rw [Rat.div_def, Rat.div_def]; exact Rat.mul_lt_mul_of_pos_right (by grind) (Rat.inv_pos.2 k)
  · rw [Rat.div_lt_iff k]; grind
theorem roots_facts {w : Rat} {s : Int} (hs : 0 < s) (h0 : 0 ≤ w) (h1 : w < 1) (h : (vRoots w s).2 = true) : (vRoots w s).1.Pairwise ltT ∧ ((vRoots w s).1.length : Int) = s ∧ ∀ x ∈ (vRoots w s).1, isT x.f0 x.f1 = true ∧ fr (s * ((x.f0 : Rat) / x.f1)) = w := by
  obtain ⟨ho, he⟩ := vRoots_ok h
  rw [he]
  refine ⟨rl_pair h0 h1 hs _ (by omega), by rw [rl_length]; omega, fun x hx => ⟨?_, ?_⟩⟩
  · exact (List.all_eq_true.1 ho) x hx
  · unfold rl at hx
    obtain ⟨i, _, rfl⟩ := List.mem_map.1 hx
    unfold pk
    simp only
    rw [tn_td, fr_mul_fr]
    have nz2 := cast_ne hs
    have e : (s : Rat) * ((w + (((i : Nat) : Int) : Rat)) / (s : Rat)) = w + (((i : Nat) : Int) : Rat) := by
      rw [Rat.mul_comm]; exact Rat.div_mul_cancel nz2
    rw [e, fr_add_int]
    exact fr_of_range h0 h1
theorem times_facts {q : Rat} {s : Int} (hs : s ≠ 0) (h : (vTimesAt q s).2 = true) : (vTimesAt q s).1.Pairwise ltT ∧ ((vTimesAt q s).1.length : Int) = ab s ∧ ∀ x ∈ (vTimesAt q s).1, isT x.f0 x.f1 = true ∧ fr (s * ((x.f0 : Rat) / x.f1)) = fr q := by
  unfold vTimesAt at h ⊢
  unfold ab
  split at h
  · rename_i hn
    rw [if_pos hn, if_pos hn]
    obtain ⟨h1, h2, h3⟩ := roots_facts (show 0 < -s by omega) (fr_nonneg _) (fr_lt _) h
    refine ⟨h1, h2, fun x hx => ⟨(h3 x hx).1, ?_⟩⟩
    have e := (h3 x hx).2
    have e2 : fr (-(fr (((-s : Int) : Rat) * ((x.f0 : Rat) / x.f1)))) = fr (-(fr (-q))) := by rw [e]
    rw [fr_neg_fr, fr_neg_fr, Rat.intCast_neg] at e2
    rw [show -(-q) = q by grind, show -(-(s : Rat) * ((x.f0 : Rat) / x.f1)) = (s : Rat) * ((x.f0 : Rat) / x.f1) by grind] at e2
    exact e2
  · rename_i hn
    rw [if_neg hn, if_neg hn]
    exact roots_facts (show 0 < s by omega) (fr_nonneg _) (fr_lt _) h
theorem ahT_facts {a b s c d t m n : Int} (h : (vAheadT a b s c d t m n).2 = true) : (isH a b s = true ∧ isH c d t = true) ∧ (vAheadT a b s c d t m n).1.Pairwise ltT ∧ ((vAheadT a b s c d t m n).1.length : Int) = ab (s - t) ∧ ∀ x ∈ (vAheadT a b s c d t m n).1, isT x.f0 x.f1 = true ∧ fr (((s - t : Int) : Rat) * ((x.f0 : Rat) / x.f1)) = fr ((m : Rat) / n - fr ((a : Rat) / b - (c : Rat) / d)) := by
  refine ⟨vAheadT_hands h, ?_⟩
  unfold vAheadT at h ⊢
  split at h
  · rename_i e
    rw [if_pos e]
    unfold vAsked at e
    simp only [Bool.and_eq_true, bne_iff_ne, ne_eq] at e
    exact times_facts (by omega) h
  · cases h
theorem place_facts {a b s c d : Int} (h : (vPlaceT a b s c d).2 = true) : (isH a b s = true ∧ isC c d = true) ∧ (vPlaceT a b s c d).1.Pairwise ltT ∧ ((vPlaceT a b s c d).1.length : Int) = ab s ∧ ∀ x ∈ (vPlaceT a b s c d).1, isT x.f0 x.f1 = true ∧ fr (s * ((x.f0 : Rat) / x.f1)) = fr ((c : Rat) / d - (a : Rat) / b) := by
  unfold vPlaceT at h ⊢
  split at h
  · rename_i e1
    split at h
    · rename_i e2
      split at h
      · cases h
      · rename_i e3
        rw [if_pos e1, if_pos e2, if_neg e3]
        exact ⟨⟨e1, e2⟩, times_facts e3 h⟩
    · cases h
  · cases h
theorem mk_turn {m n : Int} (h : isT m n = true) : mk ((m : Rat) / n) = (m, n, true) := by
  obtain ⟨e1, e2⟩ := isT_canon h
  have := isT_iff.1 h
  unfold mk
  rw [e1, e2, if_pos (by omega)]
/-- what is ahead then -/
theorem fr_back (D S M : Rat) (h : fr S = fr (M - fr D)) : fr (D + S) = fr M := by
  rw [← fr_add_fr, h, fr_add_fr]
  obtain ⟨z, hz⟩ := fr_exists D
  exact fr_eq_of _ _ z (by rw (occs := .pos [1]) [hz]; grind)
theorem ahead_back {a b s c d t m n u v : Int} (h1 : isH a b s = true) (h2 : isH c d t = true) (hx : isT u v = true) (hm : isT m n = true) (e : fr (((s - t : Int) : Rat) * ((u : Rat) / v)) = fr ((m : Rat) / n - fr ((a : Rat) / b - (c : Rat) / d))) : vAheadAt a b s c d t u v = (m, n, true) := by
  unfold vAheadAt
  rw [h1, h2, if_pos (by decide), if_pos hx, mk_of_fr (fr_back _ _ _ e), mk_turn hm]
theorem ahead_half {a b s c d t u v : Int} (h1 : isH a b s = true) (h2 : isH c d t = true) (hx : isT u v = true) (e : fr (((s - t : Int) : Rat) * ((u : Rat) / v)) = fr (((1 : Int) : Rat) / ((2 : Int) : Rat) - fr ((a : Rat) / b - (c : Rat) / d))) : vAheadAt c d t a b s u v = (1, 2, true) := by
  unfold vAheadAt
  rw [h1, h2, if_pos (by decide), if_pos hx, ← mk_turn (show isT 1 2 = true by decide)]
  refine mk_of_fr ?_
  have k := fr_back _ _ _ e
  have k2 : fr (-(fr ((a : Rat) / b - (c : Rat) / d + ((s - t : Int) : Rat) * ((u : Rat) / v)))) = fr (-(fr (((1 : Int) : Rat) / ((2 : Int) : Rat)))) := by rw [k]
  rw [fr_neg_fr, fr_neg_fr] at k2
  have k3 : (c : Rat) / d - (a : Rat) / b + ((t - s : Int) : Rat) * ((u : Rat) / v) = -((a : Rat) / b - (c : Rat) / d + ((s - t : Int) : Rat) * ((u : Rat) / v)) := by
    rw [Rat.intCast_sub, Rat.intCast_sub]; grind
  rw [k3, k2]
  exact fr_eq_of _ _ (-1) (by
    have e1 : ((1 : Int) : Rat) = 1 := rfl
    have e2 : ((2 : Int) : Rat) = 2 := rfl
    have e3 : ((-1 : Int) : Rat) = -1 := rfl
    rw [e1, e2, e3]; grind)
theorem hand_back {a b s c d u v : Int} (h1 : isH a b s = true) (h2 : isT c d = true) (hx : isT u v = true) (e : fr (s * ((u : Rat) / v)) = fr ((c : Rat) / d - (a : Rat) / b)) : vHandAt a b s u v = (c, d, true) := by
  unfold vHandAt
  rw [if_pos h1, if_pos hx, ← mk_turn h2]
  refine mk_of_fr ?_
  rw [← fr_add_fr, e, fr_add_fr]
  congr 1; grind

/-! laws_wRises -/
theorem laws_wRises_l0 (l : List S23) (hl : l.length ≤ 100000) (hp : l.Pairwise ltT) (hT : ∀ x ∈ l, isT x.f0 x.f1 = true) : ∀ (n i : Nat), l.length - i = n → 1 ≤ i → Ev (fun k => laws_wRises.l0 k l i) true := by
  intro n
  induction n with
  | zero =>
    intro i h0 h1
    refine Ev.step (f := fun k => some true) (fun k => ?_) (Ev.now _)
    simp only [laws_wRises.l0]; rw [if_neg (by omega)]
  | succ n ih =>
    intro i h0 h1
    refine Ev.step (f := fun k => laws_wRises.l0 k l ((i + 1 : Nat) : Int)) (fun k => ?_) (ih (i + 1) (by omega) (by omega))
    simp only [laws_wRises.l0]
    have e1 : wrap64 ((i : Int) - 1) = ((i - 1 : Nat) : Int) := by rw [wrap_id (by omega) (by omega)]; omega
    have e2 := (List.pairwise_iff_getElem.1 hp) (i - 1) i (by omega) (by omega) (by omega)
    have t1 := isT_iff.1 (hT _ (rd_mem l (i - 1) (by omega)))
    have t2 := isT_iff.1 (hT _ (rd_mem l i (by omega)))
    rw [← rd_el l (i - 1) (by omega), ← rd_el l i (by omega)] at e2
    unfold ltT at e2
    have b1 := mul_bound (a := (rd_T23 l ((i - 1 : Nat) : Int)).f0) (b := (rd_T23 l (i : Int)).f1) (A := 1000000) (B := 1000000) (by omega) (by omega) (by omega) (by omega)
    have b2 := mul_bound (a := (rd_T23 l (i : Int)).f0) (b := (rd_T23 l ((i - 1 : Nat) : Int)).f1) (A := 1000000) (B := 1000000) (by omega) (by omega) (by omega) (by omega)
    rw [e1, if_pos (by omega), if_pos (by omega), if_pos (by omega), if_pos (by omega), wrap_id (by omega) (by omega), wrap_id (by omega) (by omega), if_neg (by omega), wrap_id (by omega) (by omega)]
    rfl
theorem laws_wRises_ev (l : List S23) (hl : l.length ≤ 100000) (hp : l.Pairwise ltT) (hT : ∀ x ∈ l, isT x.f0 x.f1 = true) : Ev (fun k => laws_wRises.f k l) true := by
  unfold laws_wRises.f
  exact laws_wRises_l0 l hl hp hT _ 1 rfl (by omega)

/-! impl_TimeOf -/
theorem impl_TimeOf_ev (h a b c : Int) : Ev (fun k => impl_TimeOf.f k h a b c) (vTimeOf h a b c) := by
  unfold impl_TimeOf.f vTimeOf
  simp only [impl_isDial_eq, impl_within_eq, Option.bind_some]
  cases hd : isD h
  · exact Ev.neg (by decide) (Ev.val (Ev.now _) (by simp))
  refine Ev.pos rfl ?_
  obtain ⟨q1, q2⟩ := isD_iff.1 hd
  rw [wrap_id (x := h - 1) (by omega) (by omega)]
  by_cases h1 : 0 ≤ a ∧ a ≤ h - 1
  · refine Ev.pos (by simpa using h1) ?_
    by_cases h2 : 0 ≤ b ∧ b ≤ 59
    · refine Ev.pos (by simpa using h2) ?_
      by_cases h3 : 0 ≤ c ∧ c ≤ 59
      · refine Ev.pos (by simpa using h3) ?_
        rw [wrap_id (x := a * 3600) (by omega) (by omega), wrap_id (x := b * 60) (by omega) (by omega), wrap_id (x := a * 3600 + b * 60) (by omega) (by omega), wrap_id (x := a * 3600 + b * 60 + c) (by omega) (by omega), wrap_id (x := h * 3600) (by omega) (by omega)]
        refine Ev.bind (impl_part_ev _ _ (by omega) (by omega) (by omega) (by omega)) ?_
        rw [if_pos ⟨rfl, h1, h2, h3⟩]
        exact Ev.now _
      · refine Ev.neg (by simpa using h3) ?_
        rw [if_neg (fun h => h3 h.2.2.2)]
        exact Ev.now _
    · refine Ev.neg (by simpa using h2) ?_
      rw [if_neg (fun h => h2 h.2.2.1)]
      exact Ev.now _
  · refine Ev.neg (by simpa using h1) ?_
    rw [if_neg (fun h => h1 h.2.1)]
    exact Ev.now _

/-! spec_diTime -/
theorem spec_diTime_ev (h a b c : Int) (hh : isD h = true) (ha : 0 ≤ a) (ha' : a ≤ 23) (hb : 0 ≤ b) (hb' : b ≤ 59) (hc : 0 ≤ c) (hc' : c ≤ 59) : Ev (fun k => spec_diTime.f k h a b c) (tn (qTime h a b c), td (qTime h a b c)) := by
  obtain ⟨q1, q2⟩ := isD_iff.1 hh
  unfold spec_diTime.f
  rw [wrap_id (x := a * 60) (by omega) (by omega), wrap_id (x := a * 60 + b) (by omega) (by omega), wrap_id (x := (a * 60 + b) * 60) (by omega) (by omega), wrap_id (x := (a * 60 + b) * 60 + c) (by omega) (by omega), wrap_id (x := h * 3600) (by omega) (by omega)]
  refine Ev.bind (spec_diMake_ev _ _ (by omega) (by omega) (by omega) (by omega)) ?_
  have := td_div_le ((a * 60 + b) * 60 + c) (h * 3600) (by omega)
  unfold qTime
  rw [mk_of (by omega), show a * 3600 + b * 60 + c = (a * 60 + b) * 60 + c by omega]
  exact Ev.now _

/-! spec_TimeOf -/
theorem spec_TimeOf_ev (h a b c : Int) : Ev (fun k => spec_TimeOf.f k h a b c) (vTimeOf h a b c) := by
  unfold spec_TimeOf.f vTimeOf
  simp only [spec_diHours_eq, spec_l1In_eq, Option.bind_some]
  cases hd : isD h
  · exact Ev.neg (by decide) (Ev.val (Ev.now _) (by simp))
  refine Ev.pos rfl ?_
  obtain ⟨q1, q2⟩ := isD_iff.1 hd
  rw [wrap_id (x := h - 1) (by omega) (by omega)]
  by_cases h1 : 0 ≤ a ∧ a ≤ h - 1
  · refine Ev.pos (by simpa using h1) ?_
    by_cases h2 : 0 ≤ b ∧ b ≤ 59
    · refine Ev.pos (by simpa using h2) ?_
      by_cases h3 : 0 ≤ c ∧ c ≤ 59
      · refine Ev.pos (by simpa using h3) ?_
        refine Ev.bind (spec_diTime_ev h a b c hd (by omega) (by omega) (by omega) (by omega) (by omega) (by omega)) ?_
        rw [if_pos ⟨rfl, h1, h2, h3⟩]
        exact Ev.now _
      · refine Ev.neg (by simpa using h3) ?_
        rw [if_neg (fun h => h3 h.2.2.2)]
        exact Ev.now _
    · refine Ev.neg (by simpa using h2) ?_
      rw [if_neg (fun h => h2 h.2.2.1)]
      exact Ev.now _
  · refine Ev.neg (by simpa using h1) ?_
    rw [if_neg (fun h => h1 h.2.1)]
    exact Ev.now _

/-! h_read -/
/-- The bytes of a string. -/
abbrev LB (s : ByteArray) : List UInt8 := s.data.toList
theorem LB_size (s : ByteArray) : s.size = (LB s).length := (data_length s).symm
theorem LB_inj {a b : ByteArray} (h : LB a = LB b) : a = b := by
  cases a with | mk x => cases b with | mk y =>
  have : x = y := by rw [← Array.toList_inj]; exact h
  rw [this]
theorem LB_extract (s : ByteArray) (a b : Nat) : LB (s.extract a b) = ((LB s).drop a).take (b - a) := by
  show (s.extract a b).data.toList = _
  rw [ByteArray.data_extract, Array.toList_extract]
  first | done | rfl | simp [List.extract_eq_take_drop] | skip
theorem LB_end (s : ByteArray) (a : Nat) : LB (s.extract a s.size) = (LB s).drop a := by
  rw [LB_extract]
  apply List.take_of_length_le
  rw [List.length_drop, LB_size]
  omega
theorem at_of_drop {l r : List UInt8} {i : Nat} {c : UInt8} (h : l.drop i = c :: r) : l[i]? = some c := by
  have := congrArg List.head? h
  simpa [List.head?_drop] using this
theorem drop_next {l r : List UInt8} {i : Nat} {c : UInt8} (h : l.drop i = c :: r) : l.drop (i + 1) = r := by
  rw [← List.drop_drop, h]; rfl
theorem bt_of {s : ByteArray} {i : Nat} {c : UInt8} (h : (LB s)[i]? = some c) : bt s (i : Int) = (c.toNat : Int) := by
  have hlt : i < s.size := by
    rcases Nat.lt_or_ge i (LB s).length with h1 | h1
    · rw [LB_size]; exact h1
    · rw [List.getElem?_eq_none h1] at h; cases h
  have h2 := Lib.data_getElem? s i hlt
  rw [show s.data.toList[i]? = some c from h] at h2
  have e : c = s[i] := Option.some.inj h2
  unfold bt
  rw [dif_pos (by simpa using hlt), e]
  rfl
def isDig (c : UInt8) : Bool := decide (48 ≤ c.toNat ∧ c.toNat ≤ 57)
theorem isDig_iff {c : UInt8} : isDig c = true ↔ 48 ≤ c.toNat ∧ c.toNat ≤ 57 := by unfold isDig; simp
def dv (c : UInt8) : Nat := c.toNat - 48
def vals (a : Nat) (l : List UInt8) : Nat := l.foldl (fun a c => 10 * a + dv c) a
theorem vals_nil (a : Nat) : vals a [] = a := rfl
theorem vals_cons (a : Nat) (c : UInt8) (r : List UInt8) : vals a (c :: r) = vals (10 * a + dv c) r := by simp only [vals, List.foldl_cons]
theorem vals_snoc (a : Nat) (l : List UInt8) (c : UInt8) : vals a (l ++ [c]) = 10 * vals a l + dv c := by simp only [vals, List.foldl_append, List.foldl_cons, List.foldl_nil]
theorem vals_ge (l : List UInt8) : ∀ a, a ≤ vals a l := by
  induction l with
  | nil => intro a; exact Nat.le_refl _
  | cons c r ih => intro a; rw [vals_cons]; have := ih (10 * a + dv c); omega
theorem vals_lt (l : List UInt8) : (∀ c ∈ l, isDig c = true) → ∀ a n, a < 10 ^ n → vals a l < 10 ^ (n + l.length) := by
  induction l with
  | nil => intro _ a n h; simpa [vals_nil] using h
  | cons c r ih =>
    intro hd a n h
    rw [vals_cons, List.length_cons, show n + (r.length + 1) = (n + 1) + r.length by omega]
    apply ih (fun x hx => hd x (List.mem_cons_of_mem _ hx))
    have hc := isDig_iff.1 (hd c (List.mem_cons_self ..))
    unfold dv
    rw [Nat.pow_succ]
    omega
theorem of_dig {x : Nat} (h : x < 10) : (UInt8.ofNat (48 + x)).toNat = 48 + x := by
  rw [UInt8.toNat_ofNat']
  omega
theorem dig_of {x : Nat} (h : x < 10) : isDig (UInt8.ofNat (48 + x)) = true := by rw [isDig_iff, of_dig h]; omega
theorem dv_of {x : Nat} (h : x < 10) : dv (UInt8.ofNat (48 + x)) = x := by unfold dv; rw [of_dig h]; omega
theorem of_dv {c : UInt8} (h : isDig c = true) : UInt8.ofNat (48 + dv c) = c := by
  have hc := isDig_iff.1 h
  apply UInt8.toNat_inj.1
  unfold dv
  rw [UInt8.toNat_ofNat']
  omega
theorem dv_lt {c : UInt8} (h : isDig c = true) : dv c < 10 := by have hc := isDig_iff.1 h; unfold dv; omega
theorem head_app {l r : List UInt8} (h : l ≠ []) : (l ++ r).head? = l.head? := by
  cases l with
  | nil => exact absurd rfl h
  | cons a b => rfl
theorem dd_big {u : Nat} (h : ¬ u < 10) : Lib.decDigits u = Lib.decDigits (u / 10) ++ [UInt8.ofNat (48 + u % 10)] := by rw [Lib.decDigits, dif_neg h]
theorem dd_all (u : Nat) : (∀ c ∈ Lib.decDigits u, isDig c = true) ∧ vals 0 (Lib.decDigits u) = u ∧ Lib.decDigits u ≠ [] ∧ ((Lib.decDigits u).head? = some 48 → u = 0) := by
  induction u using Nat.strongRecOn with
  | _ u ih =>
    by_cases h : u < 10
    · rw [Lib.decDigits_one h]
      refine ⟨fun c hc => ?_, ?_, by simp, fun hh => ?_⟩
      · rw [List.mem_singleton] at hc; subst hc; exact dig_of h
      · rw [vals_cons, vals_nil, dv_of h]; omega
      · have e : UInt8.ofNat (48 + u) = 48 := by simpa using hh
        have e2 := congrArg UInt8.toNat e
        rw [of_dig h] at e2
        have : (48 : UInt8).toNat = 48 := rfl
        omega
    · obtain ⟨h1, h2, h3, h4⟩ := ih (u / 10) (by omega)
      rw [dd_big h]
      refine ⟨fun c hc => ?_, ?_, by simp, fun hh => ?_⟩
      · rcases List.mem_append.1 hc with hc | hc
        · exact h1 c hc
        · rw [List.mem_singleton] at hc; subst hc; exact dig_of (by omega)
      · rw [vals_snoc, h2, dv_of (by omega)]; omega
      · rw [head_app h3] at hh
        have := h4 hh
        omega
theorem dd_vals : ∀ (n : Nat) (l : List UInt8), l.length = n → l ≠ [] → (∀ c ∈ l, isDig c = true) → (l.head? = some 48 → l.length = 1) → Lib.decDigits (vals 0 l) = l := by
  intro n
  induction n using Nat.strongRecOn with
  | _ n ih =>
    intro l hl hne hd hh
    rcases List.eq_nil_or_concat l with e | ⟨l', c, e⟩
    · exact absurd e hne
    · rw [List.concat_eq_append] at e
      subst e
      have hc := hd c (by simp)
      have hc2 := dv_lt hc
      rw [vals_snoc]
      by_cases h' : l' = []
      · subst h'
        rw [vals_nil, show 10 * 0 + dv c = dv c by omega, Lib.decDigits_one hc2, of_dv hc]
        rfl
      · rw [head_app h'] at hh
        have hlen : 1 ≤ l'.length := List.length_pos_iff.2 h'
        have hhead : l'.head? ≠ some 48 := fun e => by have := hh e; rw [List.length_append, List.length_singleton] at this; omega
        have e := ih l'.length (by simp at hl; omega) l' rfl h' (fun x hx => hd x (by simp [hx])) (fun e => absurd e hhead)
        have hp : 1 ≤ vals 0 l' := by
          cases l' with
          | nil => exact absurd rfl h'
          | cons x r =>
            have hx := isDig_iff.1 (hd x (by simp))
            have hx2 : x ≠ 48 := fun e => hhead (by rw [e]; rfl)
            have hx3 : x.toNat ≠ 48 := fun e => hx2 (UInt8.toNat_inj.1 e)
            rw [vals_cons]
            have := vals_ge r (10 * 0 + dv x)
            unfold dv at this ⊢
            omega
        rw [dd_big (by omega), show (10 * vals 0 l' + dv c) / 10 = vals 0 l' by omega, show (10 * vals 0 l' + dv c) % 10 = dv c by omega, e, of_dv hc]
/-- A number that is written as it is told. -/
def canon6 (l : List UInt8) : Prop := (1 ≤ l.length ∧ l.length ≤ 6) ∧ (l.head? = some 48 → l.length = 1) ∧ ∀ c ∈ l, isDig c = true
instance (l : List UInt8) : Decidable (canon6 l) := by unfold canon6; exact inferInstance
def rdN (l : List UInt8) : Int := if canon6 l then ((vals 0 l : Nat) : Int) else -1

/-! spec_l1Split -/
def mkB (l : List UInt8) : ByteArray := ⟨l.toArray⟩
theorem LB_mk (l : List UInt8) : LB (mkB l) = l := by simp [LB, mkB]
theorem mk_LB (s : ByteArray) : mkB (LB s) = s := LB_inj (LB_mk _)
/-- A text in pieces between its slashes. -/
def spl : List UInt8 → List UInt8 → List (List UInt8)
  | cur, [] => [cur]
  | cur, c :: r => if c = 47 then cur :: spl [] r else spl (cur ++ [c]) r
theorem spec_l1Split_l0 (s : ByteArray) (hs : (LB s).length ≤ 1048576) : ∀ (rest : List UInt8) (out : List ByteArray) (from_ i : Nat), (LB s).drop i = rest → from_ ≤ i → i ≤ (LB s).length → out.length ≤ i →
    Ev (fun k => spec_l1Split.l0 k s 47 out (from_ : Int) (i : Int)) (out ++ (spl (((LB s).drop from_).take (i - from_)) rest).map mkB) := by
  intro rest
  induction rest with
  | nil =>
    intro out f i hd hf hi ho
    have hle : (LB s).length ≤ i := by simpa using hd
    refine Ev.step (f := fun _ => some (out ++ [s.extract f s.size])) (fun k => ?_) (Ev.val (Ev.now _) ?_)
    · rw [spec_l1Split.l0, if_neg (by rw [LB_size]; omega), if_pos (by omega), if_pos (by rw [LB_size]; omega), if_pos (by omega)]
      rfl
    · simp only [spl, List.map_cons, List.map_nil]
      congr 2
      apply LB_inj
      rw [LB_mk, LB_end]
      exact (List.take_of_length_le (by rw [List.length_drop]; omega)).symm
  | cons c r ih =>
    intro out f i hd hf hi ho
    have hat := at_of_drop hd
    have hb := bt_of hat
    have hlt : i < (LB s).length := by
      rcases Nat.lt_or_ge i (LB s).length with h | h
      · exact h
      · rw [List.getElem?_eq_none h] at hat; cases hat
    by_cases h : c = 47
    · refine Ev.step (f := fun k => spec_l1Split.l0 k s 47 (out ++ [s.extract f i]) ((i + 1 : Nat) : Int) ((i + 1 : Nat) : Int)) (fun k => ?_) (Ev.val (ih (out ++ [s.extract f i]) (i + 1) (i + 1) (drop_next hd) (by omega) (by omega) (by simp; omega)) ?_)
      · rw [spec_l1Split.l0, if_pos (by rw [LB_size]; omega), if_pos (by omega), hb, if_pos (by rw [h]; rfl), if_pos (by omega), if_pos (by omega), if_pos (by rw [LB_size]; omega), if_pos (by omega), wrap_id (by omega) (by omega)]
        rfl
      · rw [spl, if_pos h, List.map_cons, List.append_assoc]
        congr 1
        rw [List.singleton_append]
        congr 1
        · apply LB_inj
          rw [LB_mk, LB_extract]
        · simp
    · refine Ev.step (f := fun k => spec_l1Split.l0 k s 47 out (f : Int) ((i + 1 : Nat) : Int)) (fun k => ?_) (Ev.val (ih out f (i + 1) (drop_next hd) (by omega) (by omega) (by omega)) ?_)
      · have hne : ¬ (c.toNat : Int) = 47 := fun e => h (UInt8.toNat_inj.1 (show c.toNat = (47 : UInt8).toNat from by have : (47 : UInt8).toNat = 47 := rfl; omega))
        rw [spec_l1Split.l0, if_pos (by rw [LB_size]; omega), if_pos (by omega), hb, if_neg hne, wrap_id (by omega) (by omega)]
        rfl
      · rw [spl, if_neg h]
        congr 3
        rw [show i + 1 - f = (i - f) + 1 by omega, List.take_add_one]
        congr 1
        rw [List.getElem?_drop, show f + (i - f) = i by omega, hat]
        rfl
theorem spec_l1Split_ev (s : ByteArray) (hs : (LB s).length ≤ 1048576) : Ev (fun k => spec_l1Split.f k s 47) ((spl [] (LB s)).map mkB) := by
  unfold spec_l1Split.f
  have h := spec_l1Split_l0 s hs (LB s) [] 0 0 rfl (by omega) (by omega) (by simp)
  exact Ev.val h (by simp)

/-! spec_l1Read -/
theorem spec_l1Read_l0 (s : ByteArray) : ∀ (rest : List UInt8) (i acc : Nat), (LB s).drop i = rest → i + rest.length ≤ 6 → acc < 10 ^ i → i ≤ (LB s).length →
    Ev (fun k => spec_l1Read.l0 k s (acc : Int) (i : Int)) (if (∀ c ∈ rest, isDig c = true) then ((vals acc rest : Nat) : Int) else -1) := by
  intro rest
  induction rest with
  | nil =>
    intro i acc hd hl ha hi
    have hle : (LB s).length ≤ i := by simpa using hd
    refine Ev.val (Ev.step (f := fun _ => some (acc : Int)) (fun k => ?_) (Ev.now _)) (by simp [vals_nil])
    rw [spec_l1Read.l0, if_neg (by rw [LB_size]; omega)]
  | cons c r ih =>
    intro i acc hd hl ha hi
    have hat := at_of_drop hd
    have hb := bt_of hat
    have hlt : i < (LB s).length := by
      rcases Nat.lt_or_ge i (LB s).length with h | h
      · exact h
      · rw [List.getElem?_eq_none h] at hat; cases hat
    have hp : 10 ^ i ≤ 1000000 := Nat.le_trans (Nat.pow_le_pow_right (by decide) (show i ≤ 6 by simp at hl; omega)) (by decide)
    by_cases h : isDig c = true
    · have hc := isDig_iff.1 h
      refine Ev.val (Ev.step (f := fun k => spec_l1Read.l0 k s ((10 * acc + dv c : Nat) : Int) ((i + 1 : Nat) : Int)) (fun k => ?_) (ih (i + 1) (10 * acc + dv c) (drop_next hd) (by simp at hl; omega) (by unfold dv; rw [Nat.pow_succ]; omega) (by omega))) ?_
      · rw [spec_l1Read.l0, if_pos (by rw [LB_size]; omega), if_pos (by omega), hb, if_neg (by omega), if_neg (by omega), wrap_id (x := 10 * (acc : Int)) (by omega) (by omega), wrap_id (x := (i : Int) + 1) (by omega) (by omega)]
        rw [show ((c.toNat : Int) - 48) % 256 = ((dv c : Nat) : Int) by unfold dv; omega, wrap_id (by unfold dv; omega) (by unfold dv; omega)]
        rfl
      · simp [h, vals_cons]
    · refine Ev.val (Ev.step (f := fun _ => some (-1)) (fun k => ?_) (Ev.now _)) (by simp [h])
      rw [spec_l1Read.l0, if_pos (by rw [LB_size]; omega), if_pos (by omega), hb]
      by_cases h1 : (c.toNat : Int) < 48
      · rw [if_pos h1]
      · have h2 : (c.toNat : Int) > 57 := by
          have := mt isDig_iff.2 h
          omega
        rw [if_neg h1, if_pos h2]
theorem spec_l1Read_ev (s : ByteArray) : Ev (fun k => spec_l1Read.f k s) (rdN (LB s)) := by
  unfold spec_l1Read.f rdN
  have hz := LB_size s
  have hin : spec_l1In.f (s.size : Int) 1 6 = some (decide (1 ≤ (s.size : Int) ∧ (s.size : Int) ≤ 6)) := by rw [spec_l1In_eq]
  rw [hin]
  simp only [Option.bind_some]
  have go : ∀ b : Bool, ((1 ≤ (LB s).length ∧ (LB s).length ≤ 6) ∨ b = true) → Ev (fun k => spec_l1Read.j0 k s b) (if b = true then -1 else if (∀ c ∈ LB s, isDig c = true) then ((vals 0 (LB s) : Nat) : Int) else -1) := by
    intro b hbs
    cases b
    · refine Ev.step (f := fun k => spec_l1Read.l0 k s ((0 : Nat) : Int) ((0 : Nat) : Int)) (fun k => ?_) ?_
      · rw [spec_l1Read.j0, if_neg (by decide)]; rfl
      · refine Ev.val (spec_l1Read_l0 s (LB s) 0 0 rfl (by simp at hbs; omega) (by decide) (by omega)) ?_
        simp
    · refine Ev.step (f := fun _ => some (-1)) (fun k => ?_) (Ev.val (Ev.now _) (by simp))
      rw [spec_l1Read.j0, if_pos rfl]
  by_cases hlen : 1 ≤ (LB s).length ∧ (LB s).length ≤ 6
  · refine Ev.pos (by simp; omega) ?_
    refine Ev.pos (by omega) ?_
    obtain ⟨c, r, hcr⟩ : ∃ c r, LB s = c :: r := by
      cases e : LB s with
      | nil => rw [e] at hlen; simp at hlen
      | cons c r => exact ⟨c, r, rfl⟩
    have hb : bt s ((0 : Nat) : Int) = (c.toNat : Int) := bt_of (by rw [hcr]; rfl)
    have hb0 : bt s 0 = (c.toNat : Int) := hb
    have yes : ((LB s).head? = some 48 → (LB s).length = 1) → (if false = true then (-1 : Int) else if (∀ c ∈ LB s, isDig c = true) then ((vals 0 (LB s) : Nat) : Int) else -1) = if canon6 (LB s) then ((vals 0 (LB s) : Nat) : Int) else -1 := by
      intro hh
      rw [if_neg (by decide)]
      by_cases hd : ∀ c ∈ LB s, isDig c = true
      · rw [if_pos hd, if_pos (show canon6 (LB s) from ⟨hlen, hh, hd⟩)]
      · rw [if_neg hd, if_neg (fun hc : canon6 (LB s) => hd hc.2.2)]
    by_cases h0 : c = 48
    · refine Ev.pos (by rw [hb0, h0]; rfl) ?_
      by_cases h1 : (LB s).length = 1
      · rw [show decide ((s.size : Int) > 1) = false by simp; omega]
        exact Ev.val (go false (Or.inl hlen)) (yes (fun _ => h1))
      · rw [show decide ((s.size : Int) > 1) = true by simp; omega]
        refine Ev.val (go true (Or.inr rfl)) ?_
        rw [if_pos rfl, if_neg (fun hh : canon6 (LB s) => h1 (hh.2.1 (by rw [hcr, h0]; rfl)))]
    · refine Ev.neg (by rw [hb0]; intro e; exact h0 (UInt8.toNat_inj.1 (show c.toNat = (48 : UInt8).toNat from by have : (48 : UInt8).toNat = 48 := rfl; omega))) ?_
      have hx : (LB s).head? ≠ some 48 := by rw [hcr]; simpa using h0
      exact Ev.val (go false (Or.inl hlen)) (yes (fun e => absurd e hx))
  · refine Ev.neg (by simp; omega) ?_
    refine Ev.val (go true (Or.inr rfl)) ?_
    rw [if_pos rfl, if_neg (fun hh : canon6 (LB s) => hlen hh.1)]

/-! h_sv -/
def n2 (a b : UInt8) : Nat := 10 * dv a + dv b
def rej : Int × Int × Bool := (0, 0, false)
def q0 (h : Int) (hms : Nat) (num den : Int) : Rat := (((hms : Int) * den + num : Int) : Rat) / ((h * 3600 * den : Int) : Rat)
def okTail (c : UInt8) (x y : List UInt8) : Prop := c = 43 ∧ 2 ≤ rdN y ∧ (1 ≤ rdN x ∧ rdN x ≤ rdN y - 1) ∧ Int.gcd (rdN x) (rdN y) = 1
instance (c : UInt8) (x y : List UInt8) : Decidable (okTail c x y) := by unfold okTail; exact inferInstance
def tailP (h : Int) (hms : Nat) (c : UInt8) : List (List UInt8) → Int × Int × Bool
  | [x, y] => if okTail c x y then mk (q0 h hms (rdN x) (rdN y)) else rej
  | _ => rej
def tailV (h : Int) (hms : Nat) : List UInt8 → Int × Int × Bool
  | [] => mk (q0 h hms 0 1)
  | c :: r => tailP h hms c (spl [] r)
def ok8 (h : Int) (c0 c1 c2 c3 c4 c5 c6 c7 : UInt8) (n : Nat) : Prop :=
  (isDig c0 = true ∧ isDig c1 = true ∧ c2 = 58 ∧ isDig c3 = true ∧ isDig c4 = true ∧ c5 = 58 ∧ isDig c6 = true ∧ isDig c7 = true) ∧ n ≤ 14 ∧ (n2 c0 c1 : Int) < h ∧ n2 c3 c4 ≤ 59 ∧ n2 c6 c7 ≤ 59
instance (h : Int) (c0 c1 c2 c3 c4 c5 c6 c7 : UInt8) (n : Nat) : Decidable (ok8 h c0 c1 c2 c3 c4 c5 c6 c7 n) := by unfold ok8; exact inferInstance
/-- What the reference reads. -/
def sv (h : Int) : List UInt8 → Int × Int × Bool
  | c0 :: c1 :: c2 :: c3 :: c4 :: c5 :: c6 :: c7 :: r => if ok8 h c0 c1 c2 c3 c4 c5 c6 c7 r.length then tailV h ((n2 c0 c1 * 60 + n2 c3 c4) * 60 + n2 c6 c7) r else rej
  | _ => rej
theorem rdN_le (l : List UInt8) : rdN l ≤ 999999 ∧ -1 ≤ rdN l := by
  unfold rdN
  by_cases h : canon6 l
  · rw [if_pos h]
    have := vals_lt l h.2.2 0 0 (by decide)
    have h2 : 10 ^ (0 + l.length) ≤ 1000000 := Nat.le_trans (Nat.pow_le_pow_right (by decide) (show 0 + l.length ≤ 6 by have := h.1.2; omega)) (by decide)
    omega
  · rw [if_neg h]; omega
theorem n2_le {a b : UInt8} (h1 : isDig a = true) (h2 : isDig b = true) : n2 a b ≤ 99 := by
  have := dv_lt h1; have := dv_lt h2; unfold n2; omega

/-! spec_diParse -/
theorem dp_rej2 (h : Int) (s : ByteArray) (xs : List Int) (i : Int) : Ev (fun k => spec_diParse.j2 k h s xs i true) rej := by
  refine Ev.step (f := fun _ => some rej) (fun k => ?_) (Ev.now _)
  rw [spec_diParse.j2, if_pos rfl]; rfl
theorem dp_rej3 (h : Int) (s : ByteArray) (xs : List Int) : Ev (fun k => spec_diParse.j3 k h s xs true) rej := by
  refine Ev.step (f := fun _ => some rej) (fun k => ?_) (Ev.now _)
  rw [spec_diParse.j3, if_pos rfl]; rfl
theorem dp_rej4 (h : Int) (xs : List Int) (ys : List ByteArray) : Ev (fun k => spec_diParse.j4 k h xs ys true) rej := by
  refine Ev.step (f := fun _ => some rej) (fun k => ?_) (Ev.now _)
  rw [spec_diParse.j4, if_pos rfl]; rfl
/-- A place for a digit. -/
theorem dp_dig (h : Int) (s : ByteArray) (xs : List Int) (i : Nat) (c : UInt8) (hi : i < 8) (hat : (LB s)[i]? = some c) (h3 : ¬ Int.tmod (i : Int) 3 = 2) (v : Int × Int × Bool)
    (hv : isDig c = true → Ev (fun k => spec_diParse.j2 k h s xs (i : Int) false) v) : Ev (fun k => spec_diParse.l0 k h s xs (i : Int)) (if isDig c = true then v else rej) := by
  have hb := bt_of hat
  have hlt : i < (LB s).length := by
    rcases Nat.lt_or_ge i (LB s).length with h | h
    · exact h
    · rw [List.getElem?_eq_none h] at hat; cases hat
  refine Ev.step (f := fun k => spec_diParse.j2 k h s xs (i : Int) (!(isDig c))) (fun k => ?_) ?_
  · rw [spec_diParse.l0, if_pos (by omega), if_neg h3, if_pos (by omega), if_pos (by rw [LB_size]; omega), hb]
    by_cases hd : isDig c = true
    · have := isDig_iff.1 hd
      rw [if_neg (by omega), hd, show decide ((c.toNat : Int) > 57) = false by simp; omega]; rfl
    · have hn := mt isDig_iff.2 hd
      rw [show isDig c = false by simpa using hd]
      by_cases h1 : (c.toNat : Int) < 48
      · rw [if_pos h1]; rfl
      · rw [if_neg h1, show decide ((c.toNat : Int) > 57) = true by simp; omega]; rfl
  · by_cases hd : isDig c = true
    · rw [if_pos hd, hd]; exact hv hd
    · rw [if_neg hd, show isDig c = false by simpa using hd]; exact dp_rej2 ..
theorem dp_first (h : Int) (s : ByteArray) (xs : List Int) (i : Nat) (c : UInt8) (hi : i < 8) (hx : xs.length < 100) (hat : (LB s)[i]? = some c) (h3 : Int.tmod (i : Int) 3 = 0) (v : Int × Int × Bool)
    (hv : Ev (fun k => spec_diParse.l0 k h s (xs ++ [((10 * dv c : Nat) : Int)]) ((i + 1 : Nat) : Int)) v) : Ev (fun k => spec_diParse.l0 k h s xs (i : Int)) (if isDig c = true then v else rej) := by
  refine dp_dig h s xs i c hi hat (by omega) v (fun hd => ?_)
  have hb := bt_of hat
  have hlt : i < (LB s).length := by
    rcases Nat.lt_or_ge i (LB s).length with h | h
    · exact h
    · rw [List.getElem?_eq_none h] at hat; cases hat
  have hc := isDig_iff.1 hd
  refine Ev.step (fun k => ?_) hv
  rw [spec_diParse.j2, if_neg (by decide), if_pos h3, if_pos (by omega), if_pos (by rw [LB_size]; omega), if_pos (by omega), hb, wrap_id (x := (i : Int) + 1) (by omega) (by omega)]
  rw [show 10 * (((c.toNat : Int) - 48) % 256) = ((10 * dv c : Nat) : Int) by unfold dv; omega]
  rfl
theorem rd_last (xs : List Int) (a : Int) : rd (xs ++ [a]) (xs.length : Int) = a := by unfold rd; simp
theorem set_last (xs : List Int) (a b : Int) : (xs ++ [a]).set xs.length b = xs ++ [b] := by simp
theorem dp_second (h : Int) (s : ByteArray) (xs : List Int) (a : Nat) (i : Nat) (c : UInt8) (hi : i < 8) (hx : xs.length < 100) (ha : a ≤ 90) (hat : (LB s)[i]? = some c) (h3 : Int.tmod (i : Int) 3 = 1) (v : Int × Int × Bool)
    (hv : Ev (fun k => spec_diParse.l0 k h s (xs ++ [((a + dv c : Nat) : Int)]) ((i + 1 : Nat) : Int)) v) : Ev (fun k => spec_diParse.l0 k h s (xs ++ [(a : Int)]) (i : Int)) (if isDig c = true then v else rej) := by
  refine dp_dig h s (xs ++ [(a : Int)]) i c hi hat (by omega) v (fun hd => ?_)
  have hb := bt_of hat
  have hlt : i < (LB s).length := by
    rcases Nat.lt_or_ge i (LB s).length with h | h
    · exact h
    · rw [List.getElem?_eq_none h] at hat; cases hat
  have hc := isDig_iff.1 hd
  have hl : ((xs ++ [(a : Int)]).length : Int) = (xs.length : Int) + 1 := by simp
  refine Ev.step (fun k => ?_) hv
  rw [spec_diParse.j2, if_neg (by decide), if_neg (by omega), hl, show (xs.length : Int) + 1 - 1 = xs.length by omega, wrap_id (x := (xs.length : Int)) (by omega) (by omega), if_pos (by omega), if_pos (by omega), if_pos (by omega), if_pos (by rw [LB_size]; omega), hb, rd_last, wrap_id (x := (i : Int) + 1) (by omega) (by omega), Int.toNat_natCast, set_last]
  rw [show ((c.toNat : Int) - 48) % 256 = ((dv c : Nat) : Int) by unfold dv; omega, wrap_id (by unfold dv; omega) (by unfold dv; omega)]
  rfl
theorem dp_colon (h : Int) (s : ByteArray) (xs : List Int) (i : Nat) (c : UInt8) (hi : i < 8) (hat : (LB s)[i]? = some c) (h3 : Int.tmod (i : Int) 3 = 2) (v : Int × Int × Bool)
    (hv : Ev (fun k => spec_diParse.l0 k h s xs ((i + 1 : Nat) : Int)) v) : Ev (fun k => spec_diParse.l0 k h s xs (i : Int)) (if c = 58 then v else rej) := by
  have hb := bt_of hat
  have hlt : i < (LB s).length := by
    rcases Nat.lt_or_ge i (LB s).length with h | h
    · exact h
    · rw [List.getElem?_eq_none h] at hat; cases hat
  by_cases hc : c = 58
  · rw [if_pos hc]
    refine Ev.step (fun k => ?_) hv
    rw [spec_diParse.l0, if_pos (by omega), if_pos h3, if_pos (by omega), if_pos (by rw [LB_size]; omega), hb, if_pos (by rw [hc]; rfl), wrap_id (by omega) (by omega)]
    rfl
  · rw [if_neg hc]
    refine Ev.step (f := fun _ => some rej) (fun k => ?_) (Ev.now _)
    have hne : ¬ (c.toNat : Int) = 58 := fun e => hc (UInt8.toNat_inj.1 (show c.toNat = (58 : UInt8).toNat from by have : (58 : UInt8).toNat = 58 := rfl; omega))
    rw [spec_diParse.l0, if_pos (by omega), if_pos h3, if_pos (by omega), if_pos (by rw [LB_size]; omega), hb, if_neg hne]
    rfl
theorem dp_make (h : Int) (A B C : Nat) (num den : Int) (h0 : 2 ≤ h) (h1 : h ≤ 24) (hA : A ≤ 99) (hB : B ≤ 99) (hC : C ≤ 99) (d0 : 1 ≤ den) (d1 : den ≤ 1000000) (n0 : 0 ≤ num) (n1 : num ≤ 1000000) :
    Ev (fun k => (spec_diMake.f k (wrap64 ((wrap64 ((wrap64 ((wrap64 ((wrap64 ((wrap64 ((rd [(A : Int), (B : Int), (C : Int)] 0) * 60)) + (rd [(A : Int), (B : Int), (C : Int)] 1))) * 60)) + (rd [(A : Int), (B : Int), (C : Int)] 2))) * den)) + num)) (wrap64 ((wrap64 (h * 3600)) * den))).bind fun bt => (some (bt.1, bt.2.1, bt.2.2)))
      (mk (q0 h ((A * 60 + B) * 60 + C) num den)) := by
  have r0 : rd [(A : Int), (B : Int), (C : Int)] 0 = (A : Int) := rfl
  have r1 : rd [(A : Int), (B : Int), (C : Int)] 1 = (B : Int) := rfl
  have r2 : rd [(A : Int), (B : Int), (C : Int)] 2 = (C : Int) := rfl
  rw [r0, r1, r2, wrap_id (x := (A : Int) * 60) (by omega) (by omega), wrap_id (x := (A : Int) * 60 + B) (by omega) (by omega), wrap_id (x := ((A : Int) * 60 + B) * 60) (by omega) (by omega), wrap_id (x := ((A : Int) * 60 + B) * 60 + C) (by omega) (by omega), wrap_id (x := h * 3600) (by omega) (by omega)]
  have e : (((A : Int) * 60 + B) * 60 + C) = (((A * 60 + B) * 60 + C : Nat) : Int) := by omega
  rw [e]
  have m1 := mul_bound (a := (((A * 60 + B) * 60 + C : Nat) : Int)) (b := den) (A := 400000) (B := 1000000) (by omega) (by omega) (by omega) (by omega)
  have m2 := mul_bound (a := h * 3600) (b := den) (A := 100000) (B := 1000000) (by omega) (by omega) (by omega) (by omega)
  have m3 := Int.mul_pos (show 0 < h * 3600 by omega) (show 0 < den by omega)
  rw [wrap_id (x := (((A * 60 + B) * 60 + C : Nat) : Int) * den) (by omega) (by omega), wrap_id (x := (((A * 60 + B) * 60 + C : Nat) : Int) * den + num) (by omega) (by omega), wrap_id (x := h * 3600 * den) (by omega) (by omega)]
  exact Ev.bind (spec_diMake_ev _ _ m3 (by omega) (by omega) (by omega)) (Ev.now _)
theorem dp_tail (h : Int) (s : ByteArray) (A B C : Nat) (h0 : 2 ≤ h) (h1 : h ≤ 24) (hA : A ≤ 99) (hB : B ≤ 99) (hC : C ≤ 99) (hs : 8 ≤ (LB s).length) (hs2 : (LB s).length ≤ 22) :
    Ev (fun k => spec_diParse.j3 k h s [(A : Int), (B : Int), (C : Int)] false) (tailV h ((A * 60 + B) * 60 + C) ((LB s).drop 8)) := by
  cases hr : (LB s).drop 8 with
  | nil =>
    have hl : (LB s).length ≤ 8 := by simpa using hr
    refine Ev.step (fun k => ?_) (dp_make h A B C 0 1 h0 h1 hA hB hC (by omega) (by omega) (by omega) (by omega))
    rw [spec_diParse.j3, if_neg (by decide), if_neg (by rw [LB_size]; omega), if_pos (by simp), if_pos (by simp), if_pos (by simp)]
  | cons c r =>
    have hat := at_of_drop hr
    have hb : bt s 8 = (c.toNat : Int) := bt_of hat
    have hlt : 8 < (LB s).length := by
      rcases Nat.lt_or_ge 8 (LB s).length with h | h
      · exact h
      · rw [List.getElem?_eq_none h] at hat; cases hat
    have hx : LB (s.extract 9 s.size) = r := by rw [LB_end]; exact drop_next hr
    have hz := LB_size s
    have hsp := spec_l1Split_ev (s.extract 9 s.size) (by rw [hx]; have := congrArg List.length hr; simp at this; omega)
    rw [hx] at hsp
    refine Ev.step (f := fun k => (spec_l1Split.f k (s.extract 9 s.size) 47).bind fun t => spec_diParse.j4 k h [(A : Int), (B : Int), (C : Int)] t (if c = 43 then ((t.length : Int) != 2) else true)) (fun k => ?_) (Ev.bind hsp ?_)
    · rw [spec_diParse.j3, if_neg (by decide), if_pos (by rw [LB_size]; omega), if_pos (by rw [LB_size]; omega)]
      congr 1
      funext t
      rw [if_pos (by rw [LB_size]; omega), hb]
      by_cases hc : c = 43
      · rw [if_pos (by rw [hc]; rfl), if_pos hc]
      · have hne : ¬ (c.toNat : Int) = 43 := fun e => hc (UInt8.toNat_inj.1 (show c.toNat = (43 : UInt8).toNat from by have : (43 : UInt8).toNat = 43 := rfl; omega))
        rw [if_neg hne, if_neg hc]
    · show Ev _ (tailP h _ c (spl [] r))
      by_cases hc : c = 43
      rotate_left
      · simp only [if_neg hc]
        refine Ev.val (dp_rej4 ..) ?_
        unfold tailP
        split
        · rw [if_neg (fun hh : okTail c _ _ => hc hh.1)]
        · rfl
      simp only [if_pos hc]
      rcases hp : spl [] r with _ | ⟨x, _ | ⟨y, _ | ⟨z, rest⟩⟩⟩
      · exact Ev.cong (dp_rej4 h [(A : Int), (B : Int), (C : Int)] []) (by simp)
      · exact Ev.cong (dp_rej4 h [(A : Int), (B : Int), (C : Int)] ([x].map mkB)) (by simp)
      · simp only [List.map_cons, List.map_nil, List.length_cons, List.length_nil]
        have hx2 := spec_l1Read_ev (mkB x)
        have hy2 := spec_l1Read_ev (mkB y)
        rw [LB_mk] at hx2 hy2
        obtain ⟨bx, bx'⟩ := rdN_le x
        obtain ⟨by1, by2⟩ := rdN_le y
        refine Ev.step (f := fun k => (spec_l1Read.f k (mkB x)).bind fun t125 => ((spec_l1Read.f k (mkB y)).bind fun t127 => (if t127 < 2 then (some (0, 0, false)) else ((spec_l1In.f t125 1 (wrap64 (t127 - 1))).bind fun t128 => (if t128 = true then ((spec_diCommon.f k t125 t127).bind fun t129 => (if t129 = 1 then ((spec_diMake.f k (wrap64 ((wrap64 ((wrap64 ((wrap64 ((wrap64 ((wrap64 ((rd [(A : Int), (B : Int), (C : Int)] 0) * 60)) + (rd [(A : Int), (B : Int), (C : Int)] 1))) * 60)) + (rd [(A : Int), (B : Int), (C : Int)] 2))) * t127)) + t125)) (wrap64 ((wrap64 (h * 3600)) * t127))).bind fun bt133 => (some (bt133.1, bt133.2.1, bt133.2.2))) else (some (0, 0, false)))) else (some (0, 0, false))))))) (fun k => ?_) ?_
        · have e : (((((0 + 1 + 1 : Nat) : Int)) != 2) : Bool) = false := rfl
          rw [e, spec_diParse.j4, if_neg (by decide), if_pos (by simp)]
          have w0 : rdOf ByteArray.empty [mkB x, mkB y] 0 = mkB x := rfl
          have w1 : rdOf ByteArray.empty [mkB x, mkB y] 1 = mkB y := rfl
          rw [w0, w1]
          simp
        · refine Ev.bind hx2 (Ev.bind hy2 ?_)
          show Ev _ (if okTail c x y then mk (q0 h ((A * 60 + B) * 60 + C) (rdN x) (rdN y)) else rej)
          by_cases h2 : rdN y < 2
          · rw [if_neg (fun hh : okTail c x y => by have := hh.2.1; omega)]
            exact Ev.pos h2 (Ev.now _)
          refine Ev.neg h2 ?_
          rw [spec_l1In_eq, wrap_id (by omega) (by omega)]
          simp only [Option.bind_some]
          by_cases h3 : 1 ≤ rdN x ∧ rdN x ≤ rdN y - 1
          · refine Ev.pos (by simpa using h3) ?_
            refine Ev.bind (spec_diCommon_ev (rdN x) (rdN y) (by omega) (by omega)) ?_
            by_cases h4 : Int.gcd (rdN x) (rdN y) = 1
            · rw [if_pos (show okTail c x y from ⟨hc, by omega, h3, h4⟩)]
              refine Ev.pos (by rw [h4]; rfl) ?_
              exact dp_make h A B C (rdN x) (rdN y) h0 h1 hA hB hC (by omega) (by omega) (by omega) (by omega)
            · rw [if_neg (fun hh : okTail c x y => h4 hh.2.2.2)]
              exact Ev.neg (fun e => h4 (by exact_mod_cast e)) (Ev.now _)
          · rw [if_neg (fun hh : okTail c x y => h3 hh.2.2.1)]
            exact Ev.neg (by simpa using h3) (Ev.now _)
      · refine Ev.cong (dp_rej4 h [(A : Int), (B : Int), (C : Int)] ((x :: y :: z :: rest).map mkB)) ?_
        funext k
        congr 1
theorem dp_end (h : Int) (s : ByteArray) (A B C : Nat) (h0 : 2 ≤ h) (h1 : h ≤ 24) (hA : A ≤ 99) (hB : B ≤ 99) (hC : C ≤ 99) (hs : 8 ≤ (LB s).length) (hs2 : (LB s).length ≤ 22) :
    Ev (fun k => spec_diParse.l0 k h s [(A : Int), (B : Int), (C : Int)] ((8 : Nat) : Int)) (if (A : Int) < h ∧ B ≤ 59 ∧ C ≤ 59 then tailV h ((A * 60 + B) * 60 + C) ((LB s).drop 8) else rej) := by
  have r0 : rd [(A : Int), (B : Int), (C : Int)] 0 = (A : Int) := rfl
  have r1 : rd [(A : Int), (B : Int), (C : Int)] 1 = (B : Int) := rfl
  have r2 : rd [(A : Int), (B : Int), (C : Int)] 2 = (C : Int) := rfl
  refine Ev.step (f := fun k => spec_diParse.j3 k h s [(A : Int), (B : Int), (C : Int)] (!(decide ((A : Int) < h ∧ B ≤ 59 ∧ C ≤ 59)))) (fun k => ?_) ?_
  · rw [spec_diParse.l0, if_neg (by omega), if_pos (by simp), r0, r1, r2]
    by_cases hA2 : (A : Int) ≥ h
    · rw [if_pos hA2, show decide ((A : Int) < h ∧ B ≤ 59 ∧ C ≤ 59) = false by simp; omega]; rfl
    · rw [if_neg hA2, if_pos (by simp)]
      by_cases hB2 : (B : Int) > 59
      · rw [if_pos hB2, show decide ((A : Int) < h ∧ B ≤ 59 ∧ C ≤ 59) = false by simp; omega]; rfl
      · rw [if_neg hB2, if_pos (by simp)]
        congr 1
        by_cases hC2 : (C : Int) > 59
        · rw [show decide ((C : Int) > 59) = true by simp; omega, show decide ((A : Int) < h ∧ B ≤ 59 ∧ C ≤ 59) = false by simp; omega]; rfl
        · rw [show decide ((C : Int) > 59) = false by simp; omega, show decide ((A : Int) < h ∧ B ≤ 59 ∧ C ≤ 59) = true by simp; omega]; rfl
  · by_cases hg : (A : Int) < h ∧ B ≤ 59 ∧ C ≤ 59
    · rw [if_pos hg, decide_eq_true hg]; exact dp_tail h s A B C h0 h1 hA hB hC hs hs2
    · rw [if_neg hg, decide_eq_false hg]; exact dp_rej3 ..
theorem spec_diParse_ev (h : Int) (s : ByteArray) (h0 : 2 ≤ h) (h1 : h ≤ 24) : Ev (fun k => spec_diParse.f k h s) (sv h (LB s)) := by
  unfold spec_diParse.f
  have hz := LB_size s
  have rej0 : Ev (fun k => spec_diParse.j0 k h s true) rej := by
    refine Ev.step (f := fun _ => some rej) (fun k => ?_) (Ev.now _)
    rw [spec_diParse.j0, if_pos rfl]; rfl
  rcases e : LB s with _ | ⟨c0, _ | ⟨c1, _ | ⟨c2, _ | ⟨c3, _ | ⟨c4, _ | ⟨c5, _ | ⟨c6, _ | ⟨c7, r⟩⟩⟩⟩⟩⟩⟩⟩
  all_goals (try (have hz2 := hz; rw [e] at hz2; simp only [List.length_cons, List.length_nil] at hz2; exact Ev.pos (by omega) rej0))
  have hl : (LB s).length = r.length + 8 := by rw [e]; simp
  refine Ev.neg (by omega) ?_
  show Ev _ (if ok8 h c0 c1 c2 c3 c4 c5 c6 c7 r.length then tailV h ((n2 c0 c1 * 60 + n2 c3 c4) * 60 + n2 c6 c7) r else rej)
  by_cases hlen : r.length ≤ 14
  rotate_left
  · rw [if_neg (fun hh : ok8 h c0 c1 c2 c3 c4 c5 c6 c7 r.length => hlen hh.2.1), show decide ((s.size : Int) > 22) = true by simp; omega]
    exact rej0
  rw [show decide ((s.size : Int) > 22) = false by simp; omega]
  have hdrop : (LB s).drop 8 = r := by rw [e]; rfl
  refine Ev.step (f := fun k => spec_diParse.l0 k h s ([] : List Int) ((0 : Nat) : Int)) (fun k => by rw [spec_diParse.j0, if_neg (by decide)]; rfl) ?_
  by_cases hd : isDig c0 = true ∧ isDig c1 = true ∧ c2 = 58 ∧ isDig c3 = true ∧ isDig c4 = true ∧ c5 = 58 ∧ isDig c6 = true ∧ isDig c7 = true
  · obtain ⟨d0, d1, d2, d3, d4, d5, d6, d7⟩ := hd
    have y0 := dv_lt d0; have y1 := dv_lt d1; have y3 := dv_lt d3; have y4 := dv_lt d4; have y6 := dv_lt d6; have y7 := dv_lt d7
    have t8 := dp_end h s (n2 c0 c1) (n2 c3 c4) (n2 c6 c7) h0 h1 (n2_le d0 d1) (n2_le d3 d4) (n2_le d6 d7) (by omega) (by omega)
    have t7 := dp_second h s [((n2 c0 c1 : Nat) : Int), ((n2 c3 c4 : Nat) : Int)] (10 * dv c6) 7 c7 (by omega) (by simp) (by omega) (by rw [e]; rfl) (by decide) _ t8
    have t6 := dp_first h s [((n2 c0 c1 : Nat) : Int), ((n2 c3 c4 : Nat) : Int)] 6 c6 (by omega) (by simp) (by rw [e]; rfl) (by decide) _ t7
    have t5 := dp_colon h s [((n2 c0 c1 : Nat) : Int), ((n2 c3 c4 : Nat) : Int)] 5 c5 (by omega) (by rw [e]; rfl) (by decide) _ t6
    have t4 := dp_second h s [((n2 c0 c1 : Nat) : Int)] (10 * dv c3) 4 c4 (by omega) (by simp) (by omega) (by rw [e]; rfl) (by decide) _ t5
    have t3 := dp_first h s [((n2 c0 c1 : Nat) : Int)] 3 c3 (by omega) (by simp) (by rw [e]; rfl) (by decide) _ t4
    have t2 := dp_colon h s [((n2 c0 c1 : Nat) : Int)] 2 c2 (by omega) (by rw [e]; rfl) (by decide) _ t3
    have t1 := dp_second h s [] (10 * dv c0) 1 c1 (by omega) (by simp) (by omega) (by rw [e]; rfl) (by decide) _ t2
    have t0 := dp_first h s [] 0 c0 (by omega) (by simp) (by rw [e]; rfl) (by decide) _ t1
    refine Ev.val t0 ?_
    rw [if_pos d0, if_pos d1, if_pos d2, if_pos d3, if_pos d4, if_pos d5, if_pos d6, if_pos d7, hdrop]
    by_cases hg : (n2 c0 c1 : Int) < h ∧ n2 c3 c4 ≤ 59 ∧ n2 c6 c7 ≤ 59
    · rw [if_pos hg, if_pos (show ok8 h c0 c1 c2 c3 c4 c5 c6 c7 r.length from ⟨⟨d0, d1, d2, d3, d4, d5, d6, d7⟩, hlen, hg⟩)]
    · rw [if_neg hg, if_neg (fun hh : ok8 h c0 c1 c2 c3 c4 c5 c6 c7 r.length => hg hh.2.2)]
  · rw [if_neg (fun hh : ok8 h c0 c1 c2 c3 c4 c5 c6 c7 r.length => hd hh.1)]
    by_cases d0 : isDig c0 = true
    rotate_left
    · exact Ev.val (dp_dig h s [] 0 c0 (by omega) (by rw [e]; rfl) (by decide) rej (fun hh => absurd hh d0)) (by rw [if_neg d0])
    have y0 := dv_lt d0
    refine Ev.val (dp_first h s [] 0 c0 (by omega) (by simp) (by rw [e]; rfl) (by decide) rej ?_) (by rw [if_pos d0])
    by_cases d1 : isDig c1 = true
    rotate_left
    · exact Ev.val (dp_dig h s _ 1 c1 (by omega) (by rw [e]; rfl) (by decide) rej (fun hh => absurd hh d1)) (by rw [if_neg d1])
    refine Ev.val (dp_second h s [] (10 * dv c0) 1 c1 (by omega) (by simp) (by omega) (by rw [e]; rfl) (by decide) rej ?_) (by rw [if_pos d1])
    by_cases d2 : c2 = 58
    rotate_left
    · have y1 := dv_lt d1
      have hne : ¬ (c2.toNat : Int) = 58 := fun e => d2 (UInt8.toNat_inj.1 (show c2.toNat = (58 : UInt8).toNat from by have : (58 : UInt8).toNat = 58 := rfl; omega))
      refine Ev.step (f := fun _ => some rej) (fun k => ?_) (Ev.now _)
      have hb : bt s ((2 : Nat) : Int) = (c2.toNat : Int) := bt_of (by rw [e]; rfl)
      rw [spec_diParse.l0, if_pos (by omega), if_pos (by decide), if_pos (by omega), if_pos (by omega), show ((1 + 1 : Nat) : Int) = ((2 : Nat) : Int) by rfl, hb, if_neg hne]
      rfl
    refine Ev.val (dp_colon h s _ 2 c2 (by omega) (by rw [e]; rfl) (by decide) rej ?_) (by rw [if_pos d2])
    by_cases d3 : isDig c3 = true
    rotate_left
    · exact Ev.val (dp_dig h s _ 3 c3 (by omega) (by rw [e]; rfl) (by decide) rej (fun hh => absurd hh d3)) (by rw [if_neg d3])
    have y3 := dv_lt d3
    refine Ev.val (dp_first h s _ 3 c3 (by omega) (by simp) (by rw [e]; rfl) (by decide) rej ?_) (by rw [if_pos d3])
    by_cases d4 : isDig c4 = true
    rotate_left
    · exact Ev.val (dp_dig h s _ 4 c4 (by omega) (by rw [e]; rfl) (by decide) rej (fun hh => absurd hh d4)) (by rw [if_neg d4])
    refine Ev.val (dp_second h s _ (10 * dv c3) 4 c4 (by omega) (by simp) (by omega) (by rw [e]; rfl) (by decide) rej ?_) (by rw [if_pos d4])
    by_cases d5 : c5 = 58
    rotate_left
    · have hne : ¬ (c5.toNat : Int) = 58 := fun e => d5 (UInt8.toNat_inj.1 (show c5.toNat = (58 : UInt8).toNat from by have : (58 : UInt8).toNat = 58 := rfl; omega))
      refine Ev.step (f := fun _ => some rej) (fun k => ?_) (Ev.now _)
      have hb : bt s ((5 : Nat) : Int) = (c5.toNat : Int) := bt_of (by rw [e]; rfl)
      rw [spec_diParse.l0, if_pos (by omega), if_pos (by decide), if_pos (by omega), if_pos (by omega), show ((4 + 1 : Nat) : Int) = ((5 : Nat) : Int) by rfl, hb, if_neg hne]
      rfl
    refine Ev.val (dp_colon h s _ 5 c5 (by omega) (by rw [e]; rfl) (by decide) rej ?_) (by rw [if_pos d5])
    by_cases d6 : isDig c6 = true
    rotate_left
    · exact Ev.val (dp_dig h s _ 6 c6 (by omega) (by rw [e]; rfl) (by decide) rej (fun hh => absurd hh d6)) (by rw [if_neg d6])
    refine Ev.val (dp_first h s _ 6 c6 (by omega) (by simp) (by rw [e]; rfl) (by decide) rej ?_) (by rw [if_pos d6])
    have d7 : ¬ isDig c7 = true := fun d7 => hd ⟨d0, d1, d2, d3, d4, d5, d6, d7⟩
    exact Ev.val (dp_dig h s _ 7 c7 (by omega) (by rw [e]; rfl) (by decide) rej (fun hh => absurd hh d7)) (by rw [if_neg d7])

/-! spec_ParseTime -/
def vSpecParse (h : Int) (l : List UInt8) : Int × Int × Bool := if isD h = true then sv h l else rej
theorem spec_ParseTime_ev (h : Int) (s : ByteArray) : Ev (fun k => spec_ParseTime.f k h s) (vSpecParse h (LB s)) := by
  unfold spec_ParseTime.f vSpecParse
  rw [spec_diHours_eq]
  simp only [Option.bind_some]
  by_cases e : isD h = true
  · rw [if_pos e]
    obtain ⟨q1, q2⟩ := isD_iff.1 e
    exact Ev.pos e (Ev.bind (spec_diParse_ev h s q1 q2) (Ev.now _))
  · rw [if_neg e]
    exact Ev.neg e (Ev.now _)

/-! h_tt -/
theorem head_ne {u : Nat} (h : (Lib.decDigits u).head? = some 48) : (Lib.decDigits u).length = 1 := by
  obtain rfl := (dd_all u).2.2.2 h
  rw [Lib.decDigits_one (by decide)]; rfl
theorem dd_len : ∀ (k u : Nat), u < 10 ^ (k + 1) → (Lib.decDigits u).length ≤ k + 1 := by
  intro k
  induction k with
  | zero => intro u h; rw [Lib.decDigits_one (by simpa using h)]; simp
  | succ k ih =>
    intro u h
    by_cases h1 : u < 10
    · rw [Lib.decDigits_one h1]; simp
    · rw [dd_big h1, List.length_append, List.length_singleton]
      have := ih (u / 10) (by rw [Nat.div_lt_iff_lt_mul (by decide), ← Nat.pow_succ]; exact h)
      omega
theorem dd_canon {u : Nat} (h : u ≤ 999999) : canon6 (Lib.decDigits u) := by
  obtain ⟨h1, h2, h3, h4⟩ := dd_all u
  refine ⟨⟨List.length_pos_iff.2 h3, dd_len 5 u (by omega)⟩, head_ne, h1⟩
theorem rdN_dd {u : Nat} (h : u ≤ 999999) : rdN (Lib.decDigits u) = (u : Int) := by
  unfold rdN
  rw [if_pos (dd_canon h), (dd_all u).2.1]
theorem dig_ne {c : UInt8} (h : isDig c = true) : c ≠ 47 := by
  rintro rfl
  exact absurd h (by decide)
theorem spl_none : ∀ (y cur : List UInt8), (∀ c ∈ y, c ≠ 47) → spl cur y = [cur ++ y] := by
  intro y
  induction y with
  | nil => intro cur _; simp [spl]
  | cons c r ih =>
    intro cur h
    rw [spl, if_neg (h c (List.mem_cons_self ..)), ih _ (fun x hx => h x (List.mem_cons_of_mem _ hx))]
    simp
theorem spl_one : ∀ (x cur y : List UInt8), (∀ c ∈ x, c ≠ 47) → spl cur (x ++ 47 :: y) = (cur ++ x) :: spl [] y := by
  intro x
  induction x with
  | nil => intro cur y _; simp [spl]
  | cons c r ih =>
    intro cur y h
    rw [List.cons_append, spl, if_neg (h c (List.mem_cons_self ..)), ih _ _ (fun z hz => h z (List.mem_cons_of_mem _ hz))]
    simp
theorem spl_pos : ∀ (r cur : List UInt8), spl cur r ≠ [] := by
  intro r
  induction r with
  | nil => intro cur; simp [spl]
  | cons c r ih =>
    intro cur
    rw [spl]
    split
    · simp
    · exact ih _
theorem spl_back1 : ∀ (r cur y : List UInt8), spl cur r = [y] → cur ++ r = y := by
  intro r
  induction r with
  | nil => intro cur y h; simp [spl] at h; simpa using h
  | cons c r ih =>
    intro cur y h
    by_cases hc : c = 47
    · rw [spl, if_pos hc] at h
      injection h with h1 h3
      exact absurd h3 (spl_pos r [])
    · rw [spl, if_neg hc] at h
      simpa using ih _ _ h
theorem spl_back2 : ∀ (r cur x y : List UInt8), spl cur r = [x, y] → cur ++ r = x ++ 47 :: y := by
  intro r
  induction r with
  | nil => intro cur x y h; simp [spl] at h
  | cons c r ih =>
    intro cur x y h
    by_cases hc : c = 47
    · rw [spl, if_pos hc] at h
      injection h with h1 h2
      have := spl_back1 r [] y h2
      subst h1
      subst hc
      rw [← this]
      rfl
    · rw [spl, if_neg hc] at h
      simpa using ih _ _ _ h
def tl (num den : Nat) : List UInt8 := if num = 0 then [] else 43 :: (Lib.decDigits num ++ 47 :: Lib.decDigits den)
/-- The text of a time. -/
def TT (H M S num den : Nat) : List UInt8 :=
  UInt8.ofNat (48 + H / 10) :: UInt8.ofNat (48 + H % 10) :: 58 :: UInt8.ofNat (48 + M / 10) :: UInt8.ofNat (48 + M % 10) :: 58 :: UInt8.ofNat (48 + S / 10) :: UInt8.ofNat (48 + S % 10) :: tl num den
def VT (h : Int) (H M S num den : Nat) : Prop :=
  (H : Int) < h ∧ M ≤ 59 ∧ S ≤ 59 ∧ num < den ∧ den ≤ 999999 ∧ Nat.gcd num den = 1 ∧ (num = 0 → den = 1)
def QT (h : Int) (H M S num den : Nat) : Rat := q0 h ((H * 60 + M) * 60 + S) num den
theorem n2_of {a : Nat} (h : a < 100) : n2 (UInt8.ofNat (48 + a / 10)) (UInt8.ofNat (48 + a % 10)) = a := by
  unfold n2
  rw [dv_of (by omega), dv_of (by omega)]
  omega
theorem sv_TT {h : Int} {H M S num den : Nat} (h1 : h ≤ 24) (v : VT h H M S num den) : sv h (TT H M S num den) = mk (QT h H M S num den) := by
  obtain ⟨v1, v2, v3, v4, v5, v6, v7⟩ := v
  have hlen : (tl num den).length ≤ 14 := by
    unfold tl
    split
    · simp
    · have := dd_len 5 num (by omega)
      have := dd_len 5 den (by omega)
      simp
      omega
  show (if ok8 h _ _ _ _ _ _ _ _ (tl num den).length then tailV h _ (tl num den) else rej) = _
  rw [n2_of (show H < 100 by omega), n2_of (show M < 100 by omega), n2_of (show S < 100 by omega)]
  rw [if_pos]
  · unfold QT
    by_cases hn : num = 0
    · have hd := v7 hn
      subst hn; subst hd
      rfl
    · have hd : 2 ≤ den := by omega
      have e : tl num den = 43 :: (Lib.decDigits num ++ 47 :: Lib.decDigits den) := if_neg hn
      rw [e]
      show tailP h _ 43 (spl [] (Lib.decDigits num ++ 47 :: Lib.decDigits den)) = _
      rw [spl_one _ _ _ (fun c hc => dig_ne ((dd_all num).1 c hc)), spl_none _ _ (fun c hc => dig_ne ((dd_all den).1 c hc))]
      show (if okTail 43 (Lib.decDigits num) (Lib.decDigits den) then _ else rej) = _
      rw [if_pos]
      · simp only [List.nil_append]
        rw [rdN_dd (by omega), rdN_dd (by omega)]
      · refine ⟨rfl, ?_⟩
        rw [rdN_dd (by omega), rdN_dd (by omega), Int.gcd_natCast_natCast]
        exact ⟨by omega, by omega, v6⟩
  · refine ⟨⟨dig_of (by omega), dig_of (by omega), rfl, dig_of (by omega), dig_of (by omega), rfl, dig_of (by omega), dig_of (by omega)⟩, hlen, ?_⟩
    rw [n2_of (show H < 100 by omega), n2_of (show M < 100 by omega), n2_of (show S < 100 by omega)]
    exact ⟨v1, v2, v3⟩
theorem n2_back {a b : UInt8} (h1 : isDig a = true) (h2 : isDig b = true) : a = UInt8.ofNat (48 + n2 a b / 10) ∧ b = UInt8.ofNat (48 + n2 a b % 10) := by
  have y1 := dv_lt h1
  have y2 := dv_lt h2
  have e1 : n2 a b / 10 = dv a := by unfold n2; omega
  have e2 : n2 a b % 10 = dv b := by unfold n2; omega
  rw [e1, e2, of_dv h1, of_dv h2]
  exact ⟨rfl, rfl⟩
theorem rdN_back {l : List UInt8} (h : 1 ≤ rdN l) : ∃ u : Nat, rdN l = (u : Int) ∧ u ≤ 999999 ∧ Lib.decDigits u = l := by
  have hle := (rdN_le l).1
  by_cases hc : canon6 l
  · have e : rdN l = ((vals 0 l : Nat) : Int) := if_pos hc
    refine ⟨vals 0 l, e, by omega, ?_⟩
    exact dd_vals _ l rfl (List.length_pos_iff.1 hc.1.1) hc.2.2 hc.2.1
  · have e : rdN l = -1 := if_neg hc
    omega
theorem sv_cases {h : Int} (h1 : h ≤ 24) (l : List UInt8) : sv h l = rej ∨ ∃ H M S num den, VT h H M S num den ∧ l = TT H M S num den := by
  rcases l with _ | ⟨c0, _ | ⟨c1, _ | ⟨c2, _ | ⟨c3, _ | ⟨c4, _ | ⟨c5, _ | ⟨c6, _ | ⟨c7, r⟩⟩⟩⟩⟩⟩⟩⟩
  all_goals (try (exact Or.inl rfl))
  by_cases ho : ok8 h c0 c1 c2 c3 c4 c5 c6 c7 r.length
  · obtain ⟨⟨d0, d1, rfl, d3, d4, rfl, d6, d7⟩, hlen, hH, hM, hS⟩ := ho
    obtain ⟨e0, e1⟩ := n2_back d0 d1
    obtain ⟨e3, e4⟩ := n2_back d3 d4
    obtain ⟨e6, e7⟩ := n2_back d6 d7
    have esv : sv h (c0 :: c1 :: 58 :: c3 :: c4 :: 58 :: c6 :: c7 :: r) = tailV h ((n2 c0 c1 * 60 + n2 c3 c4) * 60 + n2 c6 c7) r := if_pos ⟨⟨d0, d1, rfl, d3, d4, rfl, d6, d7⟩, hlen, hH, hM, hS⟩
    rw [esv]
    cases r with
    | nil =>
      refine Or.inr ⟨n2 c0 c1, n2 c3 c4, n2 c6 c7, 0, 1, ⟨hH, hM, hS, by omega, by omega, rfl, fun _ => rfl⟩, ?_⟩
      unfold TT
      rw [← e0, ← e1, ← e3, ← e4, ← e6, ← e7]
      rfl
    | cons c r =>
      show tailP h _ c (spl [] r) = rej ∨ _
      rcases hp : spl [] r with _ | ⟨x, _ | ⟨y, _ | ⟨z, rest⟩⟩⟩
      · exact Or.inl rfl
      · exact Or.inl rfl
      · by_cases hk : okTail c x y
        · right
          obtain ⟨rfl, k2, ⟨k3, k4⟩, k5⟩ := hk
          obtain ⟨nu, en, ln, xn⟩ := rdN_back k3
          obtain ⟨de, ed, ld, xd⟩ := rdN_back (show 1 ≤ rdN y by omega)
          refine ⟨n2 c0 c1, n2 c3 c4, n2 c6 c7, nu, de, ⟨hH, hM, hS, by omega, ld, ?_, fun e => by omega⟩, ?_⟩
          · rw [en, ed, Int.gcd_natCast_natCast] at k5; exact k5
          · unfold TT
            rw [← e0, ← e1, ← e3, ← e4, ← e6, ← e7]
            have ht : tl nu de = 43 :: (Lib.decDigits nu ++ 47 :: Lib.decDigits de) := if_neg (by omega)
            rw [ht, xn, xd]
            have := spl_back2 r [] x y hp
            rw [← this]
            rfl
        · exact Or.inl (if_neg hk)
      · exact Or.inl rfl
  · exact Or.inl (if_neg ho)
theorem QT_times {h : Int} {H M S num den : Nat} (h0 : 2 ≤ h) (hd : 0 < den) : ((h * 3600 : Int) : Rat) * QT h H M S num den = (((((H * 60 + M) * 60 + S : Nat) : Int)) : Rat) + ((num : Int) : Rat) / ((den : Int) : Rat) := by
  unfold QT q0
  have a1 : ((den : Int) : Rat) ≠ 0 := cast_ne (by omega)
  have a2 : ((h * 3600 : Int) : Rat) ≠ 0 := cast_ne (by omega)
  rw [Rat.intCast_mul (h * 3600) (den : Int), Rat.intCast_add, Rat.intCast_mul _ (den : Int)]
  grind
theorem gcd_cast {num den : Nat} (h : Nat.gcd num den = 1) : Int.gcd (num : Int) (den : Int) = 1 := by rw [Int.gcd_natCast_natCast]; exact h
theorem QT_frac {h : Int} {H M S num den : Nat} (h0 : 2 ≤ h) (v : VT h H M S num den) : tn (((h * 3600 : Int) : Rat) * QT h H M S num den) = num ∧ td (((h * 3600 : Int) : Rat) * QT h H M S num den) = den := by
  obtain ⟨v1, v2, v3, v4, v5, v6, v7⟩ := v
  rw [QT_times h0 (by omega)]
  have c := canon (n := (num : Int)) (d := (den : Int)) (by omega) (by omega) (gcd_cast v6)
  have e : fr ((((((H * 60 + M) * 60 + S : Nat) : Int)) : Rat) + ((num : Int) : Rat) / ((den : Int) : Rat)) = fr (((num : Int) : Rat) / ((den : Int) : Rat)) := fr_eq_of _ _ (((H * 60 + M) * 60 + S : Nat) : Int) (by grind)
  unfold tn td at c ⊢
  rw [e]
  exact c
theorem QT_inj {h : Int} {H M S num den H' M' S' num' den' : Nat} (h0 : 2 ≤ h) (v : VT h H M S num den) (v' : VT h H' M' S' num' den') (e : QT h H M S num den = QT h H' M' S' num' den') : TT H M S num den = TT H' M' S' num' den' := by
  have f := QT_frac h0 v
  have f' := QT_frac h0 v'
  rw [e] at f
  have en : num = num' := by have := f.1.symm.trans f'.1; omega
  have ed : den = den' := by have := f.2.symm.trans f'.2; omega
  subst en; subst ed
  have g := QT_times (H := H) (M := M) (S := S) (num := num) (den := den) h0 (by have := v.2.2.2.1; omega)
  have g' := QT_times (H := H') (M := M') (S := S') (num := num) (den := den) h0 (by have := v.2.2.2.1; omega)
  rw [e] at g
  have g2 := g.symm.trans g'
  have g3 : (((((H * 60 + M) * 60 + S : Nat) : Int)) : Rat) = (((((H' * 60 + M') * 60 + S' : Nat) : Int)) : Rat) := by grind
  have g4 := Rat.intCast_inj.1 g3
  have := v.2.1; have := v.2.2.1; have := v'.2.1; have := v'.2.2.1
  obtain rfl : H = H' := by omega
  obtain rfl : M = M' := by omega
  obtain rfl : S = S' := by omega
  rfl
theorem QT_range {h : Int} {H M S num den : Nat} (h0 : 2 ≤ h) (v : VT h H M S num den) : 0 ≤ QT h H M S num den ∧ QT h H M S num den < 1 := by
  obtain ⟨v1, v2, v3, v4, v5, v6, v7⟩ := v
  have m3 := Int.mul_pos (show 0 < h * 3600 by omega) (show 0 < (den : Int) by omega)
  have hp : (0 : Rat) < ((h * 3600 * den : Int) : Rat) := cast_pos m3
  have n0 : 0 ≤ ((((H * 60 + M) * 60 + S : Nat) : Int)) * (den : Int) + (num : Int) := by
    have := Int.mul_nonneg (show 0 ≤ ((((H * 60 + M) * 60 + S : Nat) : Int)) by omega) (show 0 ≤ (den : Int) by omega)
    omega
  have n1 : ((((H * 60 + M) * 60 + S : Nat) : Int)) * (den : Int) + (num : Int) < h * 3600 * den := by
    have a : ((((H * 60 + M) * 60 + S : Nat) : Int)) + 1 ≤ h * 3600 := by omega
    have b := Int.mul_le_mul_of_nonneg_right a (show 0 ≤ (den : Int) by omega)
    rw [Int.add_mul, Int.one_mul] at b
    omega
  unfold QT q0
  constructor
  · rw [Rat.div_def]
    exact Rat.mul_nonneg (by simpa using Rat.intCast_le_intCast.2 n0) (Rat.le_of_lt (Rat.inv_pos.2 hp))
  · rw [Rat.div_lt_iff hp, Rat.one_mul]
    exact Rat.intCast_lt_intCast.2 n1
theorem LB_app (a b : ByteArray) : LB (a ++ b) = LB a ++ LB b := by
  show (a ++ b).data.toList = _
  rw [ByteArray.data_append, Array.toList_append]
theorem LB_two {a : Int} (h0 : 0 ≤ a) (h : a < 100) : LB (two a) = [UInt8.ofNat (48 + a.toNat / 10), UInt8.ofNat (48 + a.toNat % 10)] := by
  unfold two
  by_cases h1 : a < 10
  · rw [if_pos h1, LB_app]
    have e : LB (dg a) = Lib.decDigits a.toNat := by simp [LB, dg]
    rw [e, Lib.decDigits_one (by omega), show a.toNat / 10 = 0 by omega, show a.toNat % 10 = a.toNat by omega]
    rfl
  · rw [if_neg h1]
    have e : LB (dg a) = Lib.decDigits a.toNat := by simp [LB, dg]
    rw [e, Lib.decDigits_two (by omega) (by omega)]
theorem td_ne_million {h n d : Int} (hd : 0 < d) (hd2 : d ≤ 1000000) : td (qB h n d) ≤ 999999 := by
  have e : qB h n d = ((n * (h * 3600) : Int) : Rat) / (d : Rat) := by unfold qB; rw [q_mul (k := h * 3600) hd]
  have le : td (qB h n d) ≤ d := td_mul_le hd
  by_cases h1 : td (qB h n d) ≤ 999999
  · exact h1
  · exfalso
    have hd3 : d = 1000000 := by omega
    subst hd3
    rw [e, td_div _ _ (by decide)] at h1
    have hg := gcd_pos' (n * (h * 3600) % 1000000) (show (0 : Int) < 1000000 by decide)
    have h2 : (2 : Int) ∣ (Int.gcd (n * (h * 3600) % 1000000) 1000000 : Int) := by
      apply Int.dvd_coe_gcd
      · have : n * (h * 3600) = 2 * (n * (h * 1800)) := by
          rw [show h * 3600 = 2 * (h * 1800) by omega, Int.mul_left_comm]
        rw [this]
        omega
      · decide
    have h3 : 2 ≤ (Int.gcd (n * (h * 3600) % 1000000) 1000000 : Int) := Int.le_of_dvd hg h2
    have h4 : (1000000 : Int) / (Int.gcd (n * (h * 3600) % 1000000) 1000000 : Int) ≤ 500000 := by
      apply Int.ediv_le_of_le_mul hg
      omega
    omega
theorem text_TT {h n d : Int} (hh : isD h = true) (ht : isT n d = true) : ∃ H M S num den, VT h H M S num den ∧ LB (vText h n d) = TT H M S num den ∧ QT h H M S num den = (n : Rat) / d := by
  obtain ⟨p1, p2, p3, p4, _⟩ := isT_iff.1 ht
  obtain ⟨q1, q2⟩ := isD_iff.1 hh
  have hd : 0 < d := by omega
  have m1 := mul_bound (a := n) (b := h) (A := 1000000) (B := 24) (by omega) (by omega) (by omega) (by omega)
  have n1 := Int.mul_nonneg p3 (show 0 ≤ h by omega)
  have b0 := ediv_le' (show 0 ≤ n * h * 60 by omega) hd
  have b1 : n * h * 60 / d < h * 60 := by
    apply Int.ediv_lt_of_lt_mul hd
    have : n * (h * 60) < d * (h * 60) := Int.mul_lt_mul_of_pos_right (by omega) (by omega)
    rw [Int.mul_assoc, Int.mul_comm (h * 60)]
    exact this
  have k1 := sec_key (A := n * h * 60) hd
  have k2 := sec_range (A := n * h * 60) hd
  have k3 := sec_qA h n d hd
  rw [show n * h * 60 * 60 = n * (h * 3600) by rw [Int.mul_assoc, Int.mul_assoc]; rfl] at k1
  have t0 := tn_nonneg (qB h n d)
  have t1 := tn_lt (qB h n d)
  have t2 := td_ne_million (h := h) (n := n) hd p2
  have t3 := co (qB h n d)
  have eB : qB h n d = ((n * (h * 3600) : Int) : Rat) / (d : Rat) := by unfold qB; rw [q_mul (k := h * 3600) hd]
  have hz : tn (qB h n d) = 0 → td (qB h n d) = 1 := by
    intro e
    rw [e] at t3
    simp [Int.gcd] at t3
    omega
  have v : VT h (n * h * 60 / d / 60).toNat (n * h * 60 / d % 60).toNat ((n * h * 60 % d) * 60 / d).toNat (tn (qB h n d)).toNat (td (qB h n d)).toNat := by
    refine ⟨by omega, by omega, by omega, by omega, by omega, ?_, by omega⟩
    have : Int.gcd (((tn (qB h n d)).toNat : Nat) : Int) (((td (qB h n d)).toNat : Nat) : Int) = 1 := by
      rw [Int.toNat_of_nonneg t0, Int.toNat_of_nonneg (by omega)]; exact t3
    rwa [Int.gcd_natCast_natCast] at this
  refine ⟨_, _, _, _, _, v, ?_, ?_⟩
  · unfold vText tText
    rw [k3]
    have base : LB (tBase (n * h * 60 / d / 60) (n * h * 60 / d % 60) ((n * h * 60 % d) * 60 / d)) = [UInt8.ofNat (48 + (n * h * 60 / d / 60).toNat / 10), UInt8.ofNat (48 + (n * h * 60 / d / 60).toNat % 10), 58, UInt8.ofNat (48 + (n * h * 60 / d % 60).toNat / 10), UInt8.ofNat (48 + (n * h * 60 / d % 60).toNat % 10), 58, UInt8.ofNat (48 + ((n * h * 60 % d) * 60 / d).toNat / 10), UInt8.ofNat (48 + ((n * h * 60 % d) * 60 / d).toNat % 10)] := by
      unfold tBase
      rw [LB_app, LB_app, LB_app, LB_app, LB_two (by omega) (by omega), LB_two (by omega) (by omega), LB_two (by omega) (by omega)]
      rfl
    unfold TT tl
    by_cases hc : tn (qB h n d) > 0
    · rw [if_pos hc, LB_app, base, if_neg (by omega)]
      have e1 : LB (dg (tn (qB h n d))) = Lib.decDigits (tn (qB h n d)).toNat := by simp [LB, dg]
      have e2 : LB (dg (td (qB h n d))) = Lib.decDigits (td (qB h n d)).toNat := by simp [LB, dg]
      unfold tMore
      rw [LB_app, LB_app, LB_app, e1, e2]
      simp [LB]
    · rw [if_neg hc, base, if_pos (by omega)]
  · have g := QT_times (H := (n * h * 60 / d / 60).toNat) (M := (n * h * 60 / d % 60).toNat) (S := ((n * h * 60 % d) * 60 / d).toNat) (num := (tn (qB h n d)).toNat) (den := (td (qB h n d)).toNat) q1 (by omega)
    rw [Int.toNat_of_nonneg t0, Int.toNat_of_nonneg (show 0 ≤ td (qB h n d) by omega), tn_td] at g
    have e5 : ((((((n * h * 60 / d / 60).toNat * 60 + (n * h * 60 / d % 60).toNat) * 60 + ((n * h * 60 % d) * 60 / d).toNat : Nat) : Int))) = n * (h * 3600) / d := by omega
    rw [e5] at g
    have e6 : fr (qB h n d) = ((n * (h * 3600) % d : Int) : Rat) / (d : Rat) := by rw [eB, fr_div _ _ hd]
    rw [e6] at g
    have hd' : (d : Rat) ≠ 0 := cast_ne hd
    have e7 : ((n * (h * 3600) : Int) : Rat) = ((n * (h * 3600) % d : Int) : Rat) + (d : Rat) * ((n * (h * 3600) / d : Int) : Rat) := by
      rw [← Rat.intCast_mul, ← Rat.intCast_add, Int.emod_add_mul_ediv]
    have e8 : ((n * (h * 3600) : Int) : Rat) = (n : Rat) * ((h * 3600 : Int) : Rat) := Rat.intCast_mul _ _
    have a2 : ((h * 3600 : Int) : Rat) ≠ 0 := cast_ne (by omega)
    have e9 : ((h * 3600 : Int) : Rat) * QT h (n * h * 60 / d / 60).toNat (n * h * 60 / d % 60).toNat ((n * h * 60 % d) * 60 / d).toNat (tn (qB h n d)).toNat (td (qB h n d)).toNat = ((h * 3600 : Int) : Rat) * ((n : Rat) / d) := by
      rw [g]
      grind
    grind
theorem mk_text {n d : Int} (ht : isT n d = true) {q : Rat} (e : q = (n : Rat) / d) : mk q = (n, d, true) := by
  obtain ⟨c1, c2⟩ := isT_canon ht
  obtain ⟨p1, p2, _⟩ := isT_iff.1 ht
  rw [e, mk_of (by rw [c2]; exact p2), c1, c2]

/-! impl_readNumber -/
theorem pu_digs : ∀ (l : List UInt8) (acc n : Nat), (∀ c ∈ l, isDig c = true) → acc < 10 ^ n → n + l.length ≤ 18 → Lib.parseUint10 acc l = .ok (vals acc l) := by
  intro l
  induction l with
  | nil => intro acc n _ _ _; simp [Lib.parseUint10, vals_nil]
  | cons c r ih =>
    intro acc n hd ha hn
    have hc := isDig_iff.1 (hd c (List.mem_cons_self ..))
    simp only [List.length_cons] at hn
    have hp : 10 ^ n ≤ 100000000000000000 := Nat.le_trans (Nat.pow_le_pow_right (by decide) (show n ≤ 17 by omega)) (by decide)
    rw [Lib.parseUint10, if_pos hc, if_neg (by omega), if_neg (by omega), vals_cons, show acc * 10 + (c.toNat - 48) = 10 * acc + dv c by unfold dv; omega]
    exact ih _ (n + 1) (fun x hx => hd x (List.mem_cons_of_mem _ hx)) (by unfold dv; rw [Nat.pow_succ]; omega) (by omega)
theorem atoi_digs {l : List UInt8} (hne : l ≠ []) (hd : ∀ c ∈ l, isDig c = true) (hl : l.length ≤ 18) : Lib.atoiAll l = .ok ((vals 0 l : Nat) : Int) := by
  have hlt := vals_lt l hd 0 0 (by decide)
  have hp : 10 ^ (0 + l.length) ≤ 1000000000000000000 := Nat.le_trans (Nat.pow_le_pow_right (by decide) (show 0 + l.length ≤ 18 by omega)) (by decide)
  cases l with
  | nil => exact absurd rfl hne
  | cons c r =>
    have hc := isDig_iff.1 (hd c (List.mem_cons_self ..))
    rw [Lib.atoiAll_plain c r (by omega) (by omega)]
    unfold Lib.parseMag
    rw [if_neg (by simp), pu_digs (c :: r) 0 0 hd (by decide) (by omega)]
    simp only [Lib.signless]
    rw [if_neg (by omega)]
theorem atoi_some (s : ByteArray) (hs : s.size ≤ 1048576) : ∃ n b, strconv_Atoi_49.f s = some (n, b) ∧ -9223372036854775808 ≤ n ∧ n ≤ 9223372036854775807 := by
  unfold strconv_Atoi_49.f
  rw [if_pos (by omega)]
  rcases h : Lib.atoiAll s.data.toList with v | _ | _
  · exact ⟨v, false, rfl, Lib.atoiAll_bounds h⟩
  · exact ⟨0, true, rfl, by omega⟩
  · exact ⟨_, true, rfl, Lib.atoiSat_bounds _⟩
theorem atoi_digs_f {s : ByteArray} (hne : LB s ≠ []) (hd : ∀ c ∈ LB s, isDig c = true) (hl : (LB s).length ≤ 18) : strconv_Atoi_49.f s = some (((vals 0 (LB s) : Nat) : Int), false) := by
  unfold strconv_Atoi_49.f
  have := LB_size s
  rw [if_pos (by omega), atoi_digs hne hd hl]
theorem readNumber_some (s : ByteArray) (hs : s.size ≤ 1048576) : ∃ n b, impl_readNumber.f s 1000000 = some (n, b) ∧ (b = true → 0 ≤ n ∧ n ≤ 1000000) := by
  obtain ⟨n, b, e, h0, h1⟩ := atoi_some s hs
  unfold impl_readNumber.f
  rw [e]
  simp only [Option.bind_some]
  cases b
  · rw [if_neg (by decide), impl_within_eq]
    simp only [Option.bind_some]
    by_cases hr : 0 ≤ n ∧ n ≤ 1000000
    · rw [if_pos (by simpa using hr), strconv_Itoa_eq n hr.1 (by omega)]
      simp only [Option.bind_some]
      by_cases hq : (dg n).toList = s.toList
      · exact ⟨n, true, if_pos hq, fun _ => hr⟩
      · exact ⟨0, false, if_neg hq, fun h => by cases h⟩
    · exact ⟨0, false, if_neg (by simpa using hr), fun h => by cases h⟩
  · exact ⟨0, false, if_pos rfl, fun h => by cases h⟩
theorem readNumber_dd {u : Nat} (hu : u ≤ 999999) : impl_readNumber.f (mkB (Lib.decDigits u)) 1000000 = some ((u : Int), true) := by
  obtain ⟨h1, h2, h3, h4⟩ := dd_all u
  have hl := dd_len 5 u (by omega)
  have e := atoi_digs_f (s := mkB (Lib.decDigits u)) (by rw [LB_mk]; exact h3) (by rw [LB_mk]; exact h1) (by rw [LB_mk]; omega)
  rw [LB_mk, h2] at e
  unfold impl_readNumber.f
  rw [e]
  simp only [Option.bind_some]
  rw [if_neg (by decide), impl_within_eq]
  simp only [Option.bind_some]
  rw [if_pos (by simp; omega), strconv_Itoa_eq _ (by omega) (by omega)]
  simp only [Option.bind_some]
  rw [if_pos]
  have : dg (u : Int) = mkB (Lib.decDigits u) := by unfold dg mkB; rw [Int.toNat_natCast]
  rw [this]

/-! impl_ParseTime -/
/-- What the program reads, its parts read. -/
def finV (h : Int) (s : ByteArray) (num den a0 a1 a2 : Int) : Int × Int × Bool :=
  if (0 ≤ a0 ∧ a0 ≤ h - 1) ∧ (0 ≤ a1 ∧ a1 ≤ 59) ∧ (0 ≤ a2 ∧ a2 ≤ 59) then
    if isT (tn (q0 h ((a0.toNat * 60 + a1.toNat) * 60 + a2.toNat) num den)) (td (q0 h ((a0.toNat * 60 + a1.toNat) * 60 + a2.toNat) num den)) = true ∧ LB (vText h (tn (q0 h ((a0.toNat * 60 + a1.toNat) * 60 + a2.toNat) num den)) (td (q0 h ((a0.toNat * 60 + a1.toNat) * 60 + a2.toNat) num den))) = LB s then
      (tn (q0 h ((a0.toNat * 60 + a1.toNat) * 60 + a2.toNat) num den), td (q0 h ((a0.toNat * 60 + a1.toNat) * 60 + a2.toNat) num den), true)
    else rej
  else rej
theorem pt_rej3 (h : Int) (s : ByteArray) (num den : Int) (xs : List Int) : Ev (fun k => impl_ParseTime.j3 k h s num den xs true) rej := by
  refine Ev.step (f := fun _ => some rej) (fun k => ?_) (Ev.now _)
  rw [impl_ParseTime.j3, if_pos rfl]; rfl
theorem toList_iff {a b : ByteArray} : a.toList = b.toList ↔ LB a = LB b := by rw [ByteArray.toList_eq, ByteArray.toList_eq]
theorem pt_fin (h : Int) (s : ByteArray) (num den a0 a1 a2 : Int) (ps : List ByteArray) (hh : isD h = true) (n0 : 0 ≤ num) (n1 : num ≤ 1000000) (d0 : 1 ≤ den) (d1 : den ≤ 1000000) :
    Ev (fun k => impl_ParseTime.l0 k h s num den [a0, a1, a2] ps 3 3) (finV h s num den a0 a1 a2) := by
  obtain ⟨q1, q2⟩ := isD_iff.1 hh
  have r0 : rd [a0, a1, a2] 0 = a0 := rfl
  have r1 : rd [a0, a1, a2] 1 = a1 := rfl
  have r2 : rd [a0, a1, a2] 2 = a2 := rfl
  refine Ev.step (f := fun k => impl_ParseTime.j3 k h s num den [a0, a1, a2] (!(decide ((0 ≤ a0 ∧ a0 ≤ h - 1) ∧ (0 ≤ a1 ∧ a1 ≤ 59) ∧ (0 ≤ a2 ∧ a2 ≤ 59))))) (fun k => ?_) ?_
  · rw [impl_ParseTime.l0, if_neg (by decide), if_pos (by simp), r0, r1, r2, impl_within_eq, wrap_id (by omega) (by omega)]
    simp only [Option.bind_some]
    by_cases g0 : 0 ≤ a0 ∧ a0 ≤ h - 1
    · rw [if_pos (by simpa using g0), if_pos (by simp), impl_within_eq]
      simp only [Option.bind_some]
      by_cases g1 : 0 ≤ a1 ∧ a1 ≤ 59
      · rw [if_pos (by simpa using g1), if_pos (by simp), impl_within_eq]
        simp only [Option.bind_some]
        congr 2
        by_cases g2 : 0 ≤ a2 ∧ a2 ≤ 59
        · rw [decide_eq_true g2, decide_eq_true ⟨g0, g1, g2⟩]
        · rw [decide_eq_false g2, decide_eq_false (fun hh => g2 hh.2.2)]
      · rw [if_neg (by simpa using g1), decide_eq_false (fun hh => g1 hh.2.1)]; rfl
    · rw [if_neg (by simpa using g0), decide_eq_false (fun hh => g0 hh.1)]; rfl
  · unfold finV
    by_cases g : (0 ≤ a0 ∧ a0 ≤ h - 1) ∧ (0 ≤ a1 ∧ a1 ≤ 59) ∧ (0 ≤ a2 ∧ a2 ≤ 59)
    rotate_left
    · rw [if_neg g, decide_eq_false g]; exact pt_rej3 ..
    rw [if_pos g, decide_eq_true g]
    obtain ⟨A, rfl⟩ := Int.eq_ofNat_of_zero_le g.1.1
    obtain ⟨B, rfl⟩ := Int.eq_ofNat_of_zero_le g.2.1.1
    obtain ⟨C, rfl⟩ := Int.eq_ofNat_of_zero_le g.2.2.1
    have gA := g.1.2; have gB := g.2.1.2; have gC := g.2.2.2
    simp only [Int.toNat_natCast]
    have m1 := mul_bound (a := (((A * 60 + B) * 60 + C : Nat) : Int)) (b := den) (A := 400000) (B := 1000000) (by omega) (by omega) (by omega) (by omega)
    have m2 := mul_bound (a := h * 3600) (b := den) (A := 100000) (B := 1000000) (by omega) (by omega) (by omega) (by omega)
    have m3 := Int.mul_pos (show 0 < h * 3600 by omega) (show 0 < den by omega)
    refine Ev.step (f := fun k => (impl_part.f k ((((A * 60 + B) * 60 + C : Nat) : Int) * den + num) (h * 3600 * den)).bind fun bt214 => ((impl_TimeText.f k h bt214.1 bt214.2).bind fun bt217 => (if bt217.2 = true then (if bt217.1.toList = s.toList then (some (bt214.1, bt214.2, true)) else (some (0, 0, false))) else (some (0, 0, false))))) (fun k => ?_) ?_
    · have r0 : rd [(A : Int), (B : Int), (C : Int)] 0 = (A : Int) := rfl
      have r1 : rd [(A : Int), (B : Int), (C : Int)] 1 = (B : Int) := rfl
      have r2 : rd [(A : Int), (B : Int), (C : Int)] 2 = (C : Int) := rfl
      rw [impl_ParseTime.j3, if_neg (by decide), if_pos (by simp), if_pos (by simp), if_pos (by simp), r0, r1, r2, wrap_id (x := (A : Int) * 3600) (by omega) (by omega), wrap_id (x := (B : Int) * 60) (by omega) (by omega), wrap_id (x := (A : Int) * 3600 + (B : Int) * 60) (by omega) (by omega), wrap_id (x := (A : Int) * 3600 + (B : Int) * 60 + (C : Int)) (by omega) (by omega), wrap_id (x := h * 3600) (by omega) (by omega)]
      rw [show (A : Int) * 3600 + (B : Int) * 60 + (C : Int) = (((A * 60 + B) * 60 + C : Nat) : Int) by omega]
      rw [wrap_id (x := (((A * 60 + B) * 60 + C : Nat) : Int) * den) (by omega) (by omega), wrap_id (x := (((A * 60 + B) * 60 + C : Nat) : Int) * den + num) (by omega) (by omega), wrap_id (x := h * 3600 * den) (by omega) (by omega)]
    · have hp : Ev (fun k => impl_part.f k ((((A * 60 + B) * 60 + C : Nat) : Int) * den + num) (h * 3600 * den)) (tn (q0 h ((A * 60 + B) * 60 + C) num den), td (q0 h ((A * 60 + B) * 60 + C) num den)) := impl_part_ev _ _ m3 (by omega) (by omega) (by omega)
      generalize q0 h ((A * 60 + B) * 60 + C) num den = q at hp ⊢
      refine Ev.bind hp ?_
      dsimp only
      by_cases t : isT (tn q) (td q) = true
      · have tt : vTimeText h (tn q) (td q) = (vText h (tn q) (td q), true) := by unfold vTimeText; rw [hh, Bool.true_and, if_pos t]
        refine Ev.bind (Ev.val (impl_TimeText_ev h (tn q) (td q)) tt) ?_
        refine Ev.pos rfl ?_
        by_cases e : LB (vText h (tn q) (td q)) = LB s
        · have hx : isT (tn q) (td q) = true ∧ LB (vText h (tn q) (td q)) = LB s := ⟨t, e⟩
          rw [if_pos hx]
          exact Ev.pos (toList_iff.2 e) (Ev.now _)
        · have hx : ¬ (isT (tn q) (td q) = true ∧ LB (vText h (tn q) (td q)) = LB s) := fun hh => e hh.2
          rw [if_neg hx]
          exact Ev.neg (fun hh => e (toList_iff.1 hh)) (Ev.now _)
      · have tt : vTimeText h (tn q) (td q) = ((⟨#[]⟩ : ByteArray), false) := by unfold vTimeText; rw [hh, Bool.true_and, if_neg t]
        refine Ev.bind (Ev.val (impl_TimeText_ev h (tn q) (td q)) tt) ?_
        have hx : ¬ (isT (tn q) (td q) = true ∧ LB (vText h (tn q) (td q)) = LB s) := fun hh => t hh.1
        rw [if_neg hx]
        exact Ev.neg (by decide) (Ev.now _)
theorem w01 : wrap64 (0 + 1) = 1 := by unfold wrap64; decide
theorem w12 : wrap64 (1 + 1) = 2 := by unfold wrap64; decide
theorem w23 : wrap64 (2 + 1) = 3 := by unfold wrap64; decide
theorem pt_j1 (h : Int) (s : ByteArray) (num den : Int) (hh : isD h = true) (n0 : 0 ≤ num) (n1 : num ≤ 1000000) (d0 : 1 ≤ den) (d1 : den ≤ 1000000) (hs : 8 ≤ s.size) (a0 a1 a2 : Int) (b0 b1 b2 : Bool)
    (e0 : strconv_Atoi_49.f (s.extract 0 2) = some (a0, b0)) (e1 : strconv_Atoi_49.f (s.extract 3 5) = some (a1, b1)) (e2 : strconv_Atoi_49.f (s.extract 6 8) = some (a2, b2)) :
    Ev (fun k => impl_ParseTime.j1 k h s num den) (if b0 = true then rej else if b1 = true then rej else if b2 = true then rej else finV h s num den a0 a1 a2) := by
  refine Ev.step (f := fun k => impl_ParseTime.l0 k h s num den [] [s.extract 0 2, s.extract 3 5, s.extract 6 8] 3 0) (fun k => ?_) ?_
  · rw [impl_ParseTime.j1, if_pos (by decide), if_pos (by omega), if_pos (by decide), if_pos (by omega), if_pos (by decide), if_pos (by omega)]
    rfl
  have w0 : rdOf ByteArray.empty [s.extract 0 2, s.extract 3 5, s.extract 6 8] 0 = s.extract 0 2 := rfl
  have w1 : rdOf ByteArray.empty [s.extract 0 2, s.extract 3 5, s.extract 6 8] 1 = s.extract 3 5 := rfl
  have w2 : rdOf ByteArray.empty [s.extract 0 2, s.extract 3 5, s.extract 6 8] 2 = s.extract 6 8 := rfl
  refine Ev.step (f := fun k => if b0 = true then some rej else impl_ParseTime.l0 k h s num den [a0] [s.extract 0 2, s.extract 3 5, s.extract 6 8] 3 1) (fun k => ?_) ?_
  · rw [impl_ParseTime.l0, if_pos (by decide), if_pos (by decide), if_pos (by simp), w0, e0]
    simp only [Option.bind_some]
    by_cases hb : b0 = true
    · rw [if_pos hb, if_pos hb]; rfl
    · rw [if_neg hb, if_neg hb, if_pos (by simp), w01]; rfl
  by_cases h0 : b0 = true
  · rw [if_pos h0]; exact Ev.pos h0 (Ev.now _)
  rw [if_neg h0]
  refine Ev.neg h0 ?_
  refine Ev.step (f := fun k => if b1 = true then some rej else impl_ParseTime.l0 k h s num den [a0, a1] [s.extract 0 2, s.extract 3 5, s.extract 6 8] 3 2) (fun k => ?_) ?_
  · rw [impl_ParseTime.l0, if_pos (by decide), if_pos (by decide), if_pos (by simp), w1, e1]
    simp only [Option.bind_some]
    by_cases hb : b1 = true
    · rw [if_pos hb, if_pos hb]; rfl
    · rw [if_neg hb, if_neg hb, if_pos (by simp), w12]; rfl
  by_cases h1 : b1 = true
  · rw [if_pos h1]; exact Ev.pos h1 (Ev.now _)
  rw [if_neg h1]
  refine Ev.neg h1 ?_
  refine Ev.step (f := fun k => if b2 = true then some rej else impl_ParseTime.l0 k h s num den [a0, a1, a2] [s.extract 0 2, s.extract 3 5, s.extract 6 8] 3 3) (fun k => ?_) ?_
  · rw [impl_ParseTime.l0, if_pos (by decide), if_pos (by decide), if_pos (by simp), w2, e2]
    simp only [Option.bind_some]
    by_cases hb : b2 = true
    · rw [if_pos hb, if_pos hb]; rfl
    · rw [if_neg hb, if_neg hb, if_pos (by simp), w23]; rfl
  by_cases h2 : b2 = true
  · rw [if_pos h2]; exact Ev.pos h2 (Ev.now _)
  rw [if_neg h2]
  exact Ev.neg h2 (pt_fin h s num den a0 a1 a2 _ hh n0 n1 d0 d1)
/-- The value is nothing, or the time whose text was given. -/
def Told (h : Int) (s : ByteArray) (v : Int × Int × Bool) : Prop := v = rej ∨ ∃ n d, isT n d = true ∧ LB (vText h n d) = LB s ∧ v = (n, d, true)
theorem fin_told (h : Int) (s : ByteArray) (num den a0 a1 a2 : Int) : Told h s (finV h s num den a0 a1 a2) := by
  unfold finV
  split
  · split
    · rename_i hx
      exact Or.inr ⟨_, _, hx.1, hx.2, rfl⟩
    · exact Or.inl rfl
  · exact Or.inl rfl
theorem size_extract_le (s : ByteArray) (a b : Nat) : (s.extract a b).size ≤ s.size := by
  rw [LB_size, LB_size, LB_extract, List.length_take, List.length_drop]
  omega
theorem j1_told (h : Int) (s : ByteArray) (num den : Int) (hh : isD h = true) (n0 : 0 ≤ num) (n1 : num ≤ 1000000) (d0 : 1 ≤ den) (d1 : den ≤ 1000000) (hs : 8 ≤ s.size) (hs2 : s.size ≤ 1048576) :
    ∃ v, Ev (fun k => impl_ParseTime.j1 k h s num den) v ∧ Told h s v := by
  obtain ⟨a0, b0, e0, _⟩ := atoi_some (s.extract 0 2) (Nat.le_trans (size_extract_le ..) hs2)
  obtain ⟨a1, b1, e1, _⟩ := atoi_some (s.extract 3 5) (Nat.le_trans (size_extract_le ..) hs2)
  obtain ⟨a2, b2, e2, _⟩ := atoi_some (s.extract 6 8) (Nat.le_trans (size_extract_le ..) hs2)
  refine ⟨_, pt_j1 h s num den hh n0 n1 d0 d1 hs a0 a1 a2 b0 b1 b2 e0 e1 e2, ?_⟩
  cases b0
  · cases b1
    · cases b2
      · exact fin_told ..
      · exact Or.inl rfl
    · exact Or.inl rfl
  · exact Or.inl rfl
theorem pt_rej0 (h : Int) (s : ByteArray) : Ev (fun k => impl_ParseTime.j0 k h s true) rej := by
  refine Ev.step (f := fun _ => some rej) (fun k => ?_) (Ev.now _)
  rw [impl_ParseTime.j0, if_pos rfl]; rfl
theorem cut_some (s : ByteArray) (hs : s.size ≤ 1048576) : ∃ x y b, strings_Cut.f s (⟨#[47]⟩ : ByteArray) = some (x, y, b) ∧ x.size ≤ 1048576 ∧ y.size ≤ 1048576 := by
  unfold strings_Cut.f
  rw [if_pos ⟨rfl, by omega⟩]
  by_cases h : Lib.indexByte s.data.toList 47 < 0
  · rw [if_pos h]
    exact ⟨_, _, _, rfl, hs, by show 0 ≤ _; omega⟩
  · rw [if_neg h]
    exact ⟨_, _, _, rfl, Nat.le_trans (size_extract_le ..) hs, Nat.le_trans (size_extract_le ..) hs⟩
theorem impl_ParseTime_told (h : Int) (s : ByteArray) (hs2 : s.size ≤ 1048576) : ∃ v, Ev (fun k => impl_ParseTime.f k h s) v ∧ (v = rej ∨ isD h = true ∧ Told h s v) := by
  unfold impl_ParseTime.f
  rw [impl_isDial_eq]
  simp only [Option.bind_some]
  by_cases hh : isD h = true
  rotate_left
  · exact ⟨rej, Ev.neg hh (pt_rej0 ..), Or.inl rfl⟩
  by_cases hs : 8 ≤ s.size
  rotate_left
  · refine ⟨rej, Ev.pos hh ?_, Or.inl rfl⟩
    rw [show decide ((s.size : Int) < 8) = true by simp; omega]
    exact pt_rej0 ..
  have wrapUp : ∀ v, Ev (fun k => impl_ParseTime.j0 k h s false) v → Told h s v → ∃ v, Ev (fun k => if isD h = true then impl_ParseTime.j0 k h s (decide ((s.size : Int) < 8)) else impl_ParseTime.j0 k h s true) v ∧ (v = rej ∨ isD h = true ∧ Told h s v) := by
    intro v e t
    refine ⟨v, Ev.pos hh ?_, Or.inr ⟨hh, t⟩⟩
    rw [show decide ((s.size : Int) < 8) = false by simp; omega]
    exact e
  by_cases ht : (s.extract 8 s.size).toList = ([] : List UInt8)
  · obtain ⟨v, e, t⟩ := j1_told h s 0 1 hh (by omega) (by omega) (by omega) (by omega) hs hs2
    refine wrapUp v (Ev.step (fun k => ?_) e) t
    rw [impl_ParseTime.j0, if_neg (by decide), if_pos (by omega), if_pos ht]
  · obtain ⟨x, y, b, ec, lx, ly⟩ := cut_some ((s.extract 8 s.size).extract 1 (s.extract 8 s.size).size) (Nat.le_trans (size_extract_le ..) (Nat.le_trans (size_extract_le ..) hs2))
    obtain ⟨n, bn, en, gn⟩ := readNumber_some x lx
    obtain ⟨d, bd, ed, gd⟩ := readNumber_some y ly
    have hsz : 1 ≤ (s.extract 8 s.size).size := by
      rcases Nat.eq_zero_or_pos (s.extract 8 s.size).size with h0 | h0
      · exfalso
        apply ht
        rw [ByteArray.toList_eq]
        rw [LB_size] at h0
        exact List.eq_nil_of_length_eq_zero h0
      · exact h0
    have hstep : ∀ k, impl_ParseTime.j0 (k + 1) h s false = if bn = true then (if bd = true then (if d = 0 then some rej else impl_ParseTime.j1 k h s n d) else some rej) else some rej := by
      intro k
      rw [impl_ParseTime.j0, if_neg (by decide), if_pos (by omega), if_neg ht, if_pos (by omega), ec]
      simp only [Option.bind_some]
      rw [en, ed]
      rfl
    by_cases c1 : bn = true
    rotate_left
    · exact wrapUp rej (Ev.step (f := fun _ => some rej) (fun k => by rw [hstep, if_neg c1]) (Ev.now _)) (Or.inl rfl)
    by_cases c2 : bd = true
    rotate_left
    · exact wrapUp rej (Ev.step (f := fun _ => some rej) (fun k => by rw [hstep, if_pos c1, if_neg c2]) (Ev.now _)) (Or.inl rfl)
    by_cases c3 : d = 0
    · exact wrapUp rej (Ev.step (f := fun _ => some rej) (fun k => by rw [hstep, if_pos c1, if_pos c2, if_pos c3]) (Ev.now _)) (Or.inl rfl)
    have g1 := gn c1
    have g2 := gd c2
    obtain ⟨v, e, t⟩ := j1_told h s n d hh g1.1 g1.2 (by omega) g2.2 hs hs2
    exact wrapUp v (Ev.step (fun k => by rw [hstep, if_pos c1, if_pos c2, if_neg c3]) e) t
theorem indexByte_app : ∀ (x y : List UInt8), (∀ c ∈ x, c ≠ 47) → Lib.indexByte (x ++ 47 :: y) 47 = (x.length : Int) := by
  intro x
  induction x with
  | nil => intro y _; simp [Lib.indexByte]
  | cons c r ih =>
    intro y h
    have hc : (c == 47) = false := by simpa using h c (List.mem_cons_self ..)
    have := ih y (fun z hz => h z (List.mem_cons_of_mem _ hz))
    rw [List.cons_append, Lib.indexByte, hc, this]
    rw [if_neg (by decide), if_neg (by first | (simp; done) | (simp; omega)), List.length_cons]
    omega
theorem atoi_two {s : ByteArray} {a : Nat} (ha : a < 100) (h : LB s = [UInt8.ofNat (48 + a / 10), UInt8.ofNat (48 + a % 10)]) : strconv_Atoi_49.f s = some ((a : Int), false) := by
  have e := atoi_digs_f (s := s) (by rw [h]; simp) (by rw [h]; intro c hc; rw [List.mem_cons, List.mem_singleton] at hc; rcases hc with rfl | rfl; exact dig_of (by omega); exact dig_of (by omega)) (by rw [h]; simp)
  rw [e, h, vals_cons, vals_cons, vals_nil, dv_of (by omega), dv_of (by omega)]
  congr 2
  omega
set_option maxHeartbeats 1600000 in
theorem impl_ParseTime_at (h : Int) (s : ByteArray) (H M S num den : Nat) (hh : isD h = true) (v : VT h H M S num den) (e : LB s = TT H M S num den) : Ev (fun k => impl_ParseTime.f k h s) (mk (QT h H M S num den)) := by
  obtain ⟨q1, q2⟩ := isD_iff.1 hh
  have v0 := v
  obtain ⟨v1, v2, v3, v4, v5, v6, v7⟩ := v
  have hz := LB_size s
  have hlen : (LB s).length = (tl num den).length + 8 := by rw [e]; rfl
  have hs : 8 ≤ s.size := by omega
  unfold impl_ParseTime.f
  rw [impl_isDial_eq]
  simp only [Option.bind_some]
  refine Ev.pos hh ?_
  rw [show decide ((s.size : Int) < 8) = false by simp; omega]
  have e0 : strconv_Atoi_49.f (s.extract 0 2) = some ((H : Int), false) := atoi_two (by omega) (by rw [LB_extract, e]; rfl)
  have e1 : strconv_Atoi_49.f (s.extract 3 5) = some ((M : Int), false) := atoi_two (by omega) (by rw [LB_extract, e]; rfl)
  have e2 : strconv_Atoi_49.f (s.extract 6 8) = some ((S : Int), false) := atoi_two (by omega) (by rw [LB_extract, e]; rfl)
  have j1 := pt_j1 h s (num : Int) (den : Int) hh (by omega) (by omega) (by omega) (by omega) hs _ _ _ _ _ _ e0 e1 e2
  have val : (if false = true then rej else if false = true then rej else if false = true then rej else finV h s (num : Int) (den : Int) (H : Int) (M : Int) (S : Int)) = mk (QT h H M S num den) := by
    show finV h s (num : Int) (den : Int) (H : Int) (M : Int) (S : Int) = _
    unfold finV
    rw [if_pos ⟨⟨by omega, by omega⟩, ⟨by omega, by omega⟩, ⟨by omega, by omega⟩⟩]
    simp only [Int.toNat_natCast]
    show (if isT (tn (QT h H M S num den)) (td (QT h H M S num den)) = true ∧ LB (vText h (tn (QT h H M S num den)) (td (QT h H M S num den))) = LB s then (tn (QT h H M S num den), td (QT h H M S num den), true) else rej) = _
    by_cases t : td (QT h H M S num den) ≤ 1000000
    · have ht : isT (tn (QT h H M S num den)) (td (QT h H M S num den)) = true := by rw [isT_tn]; simpa using t
      obtain ⟨H', M', S', num', den', v', e', eq'⟩ := text_TT hh ht
      have r := QT_range q1 v0
      have eq2 : QT h H' M' S' num' den' = QT h H M S num den := by rw [eq', tn_td, fr_of_range r.1 r.2]
      rw [if_pos ⟨ht, by rw [e', e]; exact QT_inj q1 v' v0 eq2⟩, mk_of t]
    · rw [if_neg (fun hx => t (by have := isT_tn (QT h H M S num den); rw [hx.1] at this; simpa using this.symm))]
      unfold mk
      rw [if_neg t]
      rfl
  rw [val] at j1
  have hx8 : LB (s.extract 8 s.size) = tl num den := by rw [LB_end, e]; rfl
  by_cases hn : num = 0
  · have hd := v7 hn
    subst hn; subst hd
    refine Ev.step (fun k => ?_) j1
    rw [impl_ParseTime.j0, if_neg (by decide), if_pos (by omega), if_pos (by rw [ByteArray.toList_eq]; exact hx8)]
    rfl
  · have ht : tl num den = 43 :: (Lib.decDigits num ++ 47 :: Lib.decDigits den) := if_neg hn
    have hx1 : LB ((s.extract 8 s.size).extract 1 (s.extract 8 s.size).size) = Lib.decDigits num ++ 47 :: Lib.decDigits den := by rw [LB_end, hx8, ht]; rfl
    have dn := (dd_all num).1
    have ix := indexByte_app (Lib.decDigits num) (Lib.decDigits den) (fun c hc => dig_ne (dn c hc))
    have l1 := dd_len 5 num (by omega)
    have l2 := dd_len 5 den (by omega)
    have hcut : strings_Cut.f ((s.extract 8 s.size).extract 1 (s.extract 8 s.size).size) (⟨#[47]⟩ : ByteArray) = some (mkB (Lib.decDigits num), mkB (Lib.decDigits den), true) := by
      unfold strings_Cut.f
      have hz2 := LB_size ((s.extract 8 s.size).extract 1 (s.extract 8 s.size).size)
      have hz3 : ((s.extract 8 s.size).extract 1 (s.extract 8 s.size).size).size ≤ 281474976710656 := by rw [hz2, hx1]; simp; omega
      rw [if_pos ⟨rfl, hz3⟩]
      have ix2 : Lib.indexByte ((s.extract 8 s.size).extract 1 (s.extract 8 s.size).size).data.toList 47 = ((Lib.decDigits num).length : Int) := by
        have : ((s.extract 8 s.size).extract 1 (s.extract 8 s.size).size).data.toList = Lib.decDigits num ++ 47 :: Lib.decDigits den := hx1
        rw [this, ix]
      rw [ix2, if_neg (by omega), Int.toNat_natCast]
      have ea : ((s.extract 8 s.size).extract 1 (s.extract 8 s.size).size).extract 0 (Lib.decDigits num).length = mkB (Lib.decDigits num) := by
        apply LB_inj
        rw [LB_extract, hx1, LB_mk]
        simp
      have eb : ((s.extract 8 s.size).extract 1 (s.extract 8 s.size).size).extract ((Lib.decDigits num).length + 1) ((s.extract 8 s.size).extract 1 (s.extract 8 s.size).size).size = mkB (Lib.decDigits den) := by
        apply LB_inj
        rw [LB_end, hx1, LB_mk, ← List.drop_drop, List.drop_left]
        rfl
      rw [ea, eb]
    refine Ev.step (fun k => ?_) j1
    have hne : ¬ (s.extract 8 s.size).toList = ([] : List UInt8) := by
      rw [ByteArray.toList_eq]
      intro hx
      rw [show (s.extract 8 s.size).data.toList = tl num den from hx8, ht] at hx
      cases hx
    have hsz : 1 ≤ (s.extract 8 s.size).size := by rw [LB_size, hx8, ht]; simp
    rw [impl_ParseTime.j0, if_neg (by decide), if_pos (by omega), if_neg hne, if_pos (by omega), hcut]
    simp only [Option.bind_some]
    rw [readNumber_dd (by omega), readNumber_dd (by omega)]
    simp only [Option.bind_some]
    rw [if_pos (by trivial), if_pos (by trivial), if_neg (by omega)]

/-! h_parse -/
theorem Ev.uniq {α : Type} {g : Nat → Option α} {a b : α} (h : Ev g a) (k : Ev g b) : a = b := by
  obtain ⟨K, hK⟩ := h
  obtain ⟨L, hL⟩ := k
  have h1 := hK (K + L) (by omega)
  have h2 := hL (K + L) (by omega)
  exact Option.some.inj (h1.symm.trans h2)
theorem parse_same (h : Int) (s : ByteArray) (hs : s.size ≤ 1048576) : Ev (fun k => impl_ParseTime.f k h s) (vSpecParse h (LB s)) := by
  obtain ⟨v, ev, hv⟩ := impl_ParseTime_told h s hs
  by_cases hh : isD h = true
  rotate_left
  · rcases hv with rfl | ⟨h1, _⟩
    · unfold vSpecParse
      rw [if_neg hh]
      exact ev
    · exact absurd h1 hh
  obtain ⟨q1, q2⟩ := isD_iff.1 hh
  have e0 : vSpecParse h (LB s) = sv h (LB s) := if_pos hh
  rw [e0]
  have told : Told h s v := by
    rcases hv with rfl | ⟨_, t⟩
    · exact Or.inl rfl
    · exact t
  rcases told with rfl | ⟨n, d, ht, et, rfl⟩
  · rcases sv_cases q2 (LB s) with e | ⟨H, M, S, num, den, vv, e⟩
    · rw [e]; exact ev
    · rw [e, sv_TT q2 vv]
      exact impl_ParseTime_at h s H M S num den hh vv e
  · obtain ⟨H, M, S, num, den, vv, e, eq⟩ := text_TT hh ht
    rw [← et, e, sv_TT q2 vv, mk_text ht eq]
    exact ev
theorem parse_told (h : Int) (s : ByteArray) (hs : s.size ≤ 1048576) (ok : (vSpecParse h (LB s)).2.2 = true) : isD h = true ∧ ∃ n d, isT n d = true ∧ vText h n d = s ∧ vSpecParse h (LB s) = (n, d, true) := by
  obtain ⟨v, ev, hv⟩ := impl_ParseTime_told h s hs
  have e := Ev.uniq ev (parse_same h s hs)
  rw [← e] at ok ⊢
  rcases hv with rfl | ⟨h1, h2⟩
  · cases ok
  · refine ⟨h1, ?_⟩
    rcases h2 with rfl | ⟨n, d, ht, et, rfl⟩
    · cases ok
    · exact ⟨n, d, ht, LB_inj et, rfl⟩
theorem text_size {h n d : Int} (hh : isD h = true) (ht : isT n d = true) : (vText h n d).size ≤ 1048576 := by
  obtain ⟨H, M, S, num, den, vv, e, _⟩ := text_TT hh ht
  obtain ⟨v1, v2, v3, v4, v5, v6, v7⟩ := vv
  have hlen : (tl num den).length ≤ 14 := by
    unfold tl
    split
    · simp
    · have h1 := dd_len 5 num (by omega)
      have h2 := dd_len 5 den (by omega)
      simp only [List.length_cons, List.length_append]
      omega
  rw [LB_size, e]
  unfold TT
  simp only [List.length_cons]
  omega
theorem text_back {h n d : Int} (hh : isD h = true) (ht : isT n d = true) : vSpecParse h (LB (vText h n d)) = (n, d, true) := by
  obtain ⟨q1, q2⟩ := isD_iff.1 hh
  obtain ⟨H, M, S, num, den, vv, e, eq⟩ := text_TT hh ht
  unfold vSpecParse
  rw [if_pos hh, e, sv_TT q2 vv, mk_text ht eq]

/-! laws_FnHandsStandOfAll -/
theorem vLong_ok (h n d : Int) : (vLong h n d).2.2 = (isD h && isT n d) := by unfold vLong; cases isD h && isT n d <;> rfl
theorem vAngle_ok (h n d : Int) : (vAngle h n d).2.2 = (isD h && isT n d) := by unfold vAngle; cases isD h && isT n d <;> rfl
theorem vSmall_ok (h n d : Int) : (vSmall h n d).2.2 = (isD h && isT n d) := by unfold vSmall; cases isD h && isT n d <;> simp; split <;> rfl
theorem vHour_ok (h n d : Int) : (vHour h n d).2 = (isD h && isT n d) := by unfold vHour; cases isD h && isT n d <;> rfl
theorem vMinute_ok (h n d : Int) : (vMinute h n d).2 = (isD h && isT n d) := by unfold vMinute; cases isD h && isT n d <;> rfl
theorem vSecond_ok (h n d : Int) : (vSecond h n d).2.2 = (isD h && isT n d) := by unfold vSecond; cases isD h && isT n d <;> rfl
theorem vTimeText_ok (h n d : Int) : (vTimeText h n d).2 = (isD h && isT n d) := by unfold vTimeText; cases isD h && isT n d <;> rfl
theorem vTWL_ok (h n d : Int) (e : (vTWL h n d).2 = true) : (isD h && isT n d) = true := by
  unfold vTWL at e
  split at e
  · assumption
  · cases e
/-! two turns that make a whole one, or none -/
theorem tn_neg_sum (q : Rat) : tn q + tn (-q) ≤ td q := by
  have h1 := fr_lt q
  have h2 := fr_lt (-q)
  have h0 := fr_nonneg q
  have e1 := tn_td q
  have e2 := tn_td (-q)
  rw [td_neg] at e2
  have hd := cast_pos (td_pos q)
  have nz := cast_ne (td_pos q)
  obtain ⟨y, hy⟩ := fr_exists q
  obtain ⟨z, hz⟩ := fr_exists (-q)
  have hs : fr q + fr (-q) = ((-(y + z) : Int) : Rat) := by
    rw [Rat.intCast_neg, Rat.intCast_add]; grind
  have h3 : ((-(y + z) : Int) : Rat) < ((2 : Int) : Rat) := by
    rw [← hs]; have : ((2 : Int) : Rat) = 2 := rfl
    rw [this]; grind
  have h4 : -(y + z) ≤ 1 := by have := Rat.intCast_lt_intCast.1 h3; omega
  have h5 : fr q + fr (-q) ≤ 1 := by
    rw [hs]; have := Rat.intCast_le_intCast.2 h4; simpa using this
  rw [← e1, ← e2] at h5
  have e3 : (tn q : Rat) / (td q : Rat) + (tn (-q) : Rat) / (td q : Rat) = ((tn q + tn (-q) : Int) : Rat) / (td q : Rat) := by
    rw [Rat.intCast_add]; grind
  rw [e3] at h5
  have h6 : ((tn q + tn (-q) : Int) : Rat) ≤ (td q : Rat) := by
    have h7 := Rat.mul_le_mul_of_nonneg_right h5 (Rat.le_of_lt hd)
    rw [Rat.one_mul, Rat.div_mul_cancel nz] at h7
    exact h7
  exact Rat.intCast_le_intCast.1 h6
theorem sg_neg (x : Int) : sg x < 0 ↔ x < 0 := by unfold sg; split <;> (try split) <;> omega
theorem small_half (q : Rat) : 2 * (if sg (tn (-q) * td q - tn q * td (-q)) < 0 then (tn (-q), td (-q), true) else (tn q, td q, true) : Int × Int × Bool).1 ≤ (if sg (tn (-q) * td q - tn q * td (-q)) < 0 then (tn (-q), td (-q), true) else (tn q, td q, true) : Int × Int × Bool).2.1 := by
  have hs := tn_neg_sum q
  have hd := td_pos q
  have e : tn (-q) * td q - tn q * td (-q) = (tn (-q) - tn q) * td q := by rw [td_neg, Int.sub_mul]
  split
  · rename_i c
    rw [sg_neg, e] at c
    have : tn (-q) - tn q < 0 := by
      rcases Int.lt_or_le (tn (-q) - tn q) 0 with c' | c'
      · exact c'
      · have := Int.mul_nonneg c' (show 0 ≤ td q by omega); omega
    show 2 * tn (-q) ≤ td (-q)
    rw [td_neg]; omega
  · rename_i c
    rw [sg_neg, e] at c
    have : 0 ≤ tn (-q) - tn q := by
      rcases Int.lt_or_le (tn (-q) - tn q) 0 with c' | c'
      · have := Int.mul_neg_of_neg_of_pos c' hd; exact absurd this c
      · exact c'
    show 2 * tn q ≤ td q
    omega
theorem vSmall_half (h n d : Int) (e : (isD h && isT n d) = true) : 2 * (vSmall h n d).1 ≤ (vSmall h n d).2.1 ∧ 0 ≤ (vSmall h n d).1 ∧ (vSmall h n d).2.1 ≤ 1000000 ∧ (vSmall h n d).1 ≤ 1000000 := by
  have hh := small_half (((h - 1 : Int) : Rat) * ((n : Rat) / d))
  have e' := e
  rw [Bool.and_eq_true] at e
  obtain ⟨p1, p2, p3, p4, _⟩ := isT_iff.1 e.2
  have hq : td (((h - 1 : Int) : Rat) * ((n : Rat) / d)) ≤ 1000000 := Int.le_trans (td_mul_le (show 0 < d by omega)) p2
  unfold vSmall
  rw [if_pos e']
  generalize ((h - 1 : Int) : Rat) * ((n : Rat) / d) = q at *
  have n1 := td_neg q
  have b1 := tn_nonneg q
  have b2 := tn_nonneg (-q)
  have b3 := tn_lt q
  have b4 := tn_lt (-q)
  refine ⟨hh, ?_⟩
  split
  · exact ⟨b2, by show td (-q) ≤ 1000000; omega, by show tn (-q) ≤ 1000000; omega⟩
  · exact ⟨b1, hq, by show tn q ≤ 1000000; omega⟩
/-! the long hand is the short one and the angle -/
theorem add_angle (h n d : Int) (e : (isD h && isT n d) = true) : vAdd n d (vAngle h n d).1 (vAngle h n d).2.1 = vLong h n d := by
  have e' := e
  rw [Bool.and_eq_true] at e
  obtain ⟨p1, p2, p3, p4, _⟩ := isT_iff.1 e.2
  have hd : 0 < d := by omega
  unfold vAngle vLong
  rw [if_pos e', if_pos e']
  have hq : td (((h - 1 : Int) : Rat) * ((n : Rat) / d)) ≤ 1000000 := Int.le_trans (td_mul_le hd) p2
  have ht : isT (tn (((h - 1 : Int) : Rat) * ((n : Rat) / d))) (td (((h - 1 : Int) : Rat) * ((n : Rat) / d))) = true := by rw [isT_tn]; simpa using hq
  unfold vAdd
  rw [e.2, ht, if_pos (by decide), tn_td]
  have k : fr ((n : Rat) / d + fr (((h - 1 : Int) : Rat) * ((n : Rat) / d))) = fr ((h : Rat) * ((n : Rat) / d)) := by
    rw [fr_add_fr]
    congr 1
    rw [Rat.intCast_sub]
    have : ((1 : Int) : Rat) = 1 := rfl
    rw [this]; grind
  rw [mk_of_fr k, mk_of (Int.le_trans (td_mul_le hd) p2)]
/-! whole minutes, and the part of the one that goes on -/
theorem gone_eq (h n d : Int) (e : (isD h && isT n d) = true) :
    (0 ≤ (vHour h n d).1 ∧ (vHour h n d).1 < h) ∧ (0 ≤ (vMinute h n d).1 ∧ (vMinute h n d).1 ≤ 59) ∧
    wrap64 ((wrap64 ((wrap64 ((wrap64 ((wrap64 ((wrap64 ((vHour h n d).1 * 60)) + (vMinute h n d).1)) * (vSecond h n d).2.1)) * d)) + (wrap64 ((vSecond h n d).1 * d)))) * 1) = wrap64 ((wrap64 ((wrap64 (n * h)) * 60)) * (vSecond h n d).2.1) := by
  have e' := e
  rw [Bool.and_eq_true] at e
  obtain ⟨p1, p2, p3, p4, _⟩ := isT_iff.1 e.2
  obtain ⟨q1, q2⟩ := isD_iff.1 e.1
  have hd : 0 < d := by omega
  unfold vHour vMinute vSecond
  rw [if_pos e', if_pos e', if_pos e']
  dsimp only
  have eq1 : ((60 * h : Int) : Rat) * ((n : Rat) / d) = ((n * h * 60 : Int) : Rat) / (d : Rat) := by
    rw [show n * h * 60 = n * (60 * h) by rw [Int.mul_assoc, Int.mul_comm h], q_mul (k := 60 * h) hd]
  rw [eq1, tn_div _ d hd, td_div _ d hd]
  have n1 := Int.mul_nonneg p3 (show 0 ≤ h by omega)
  have hA : 0 ≤ n * h * 60 := by omega
  have m1 := mul_bound (a := n) (b := h) (A := 1000000) (B := 24) (by omega) (by omega) (by omega) (by omega)
  have hF0 := Int.ediv_nonneg hA (show 0 ≤ d by omega)
  have hnh : n * h ≤ d * h := Int.mul_le_mul_of_nonneg_right (by omega) (by omega)
  have hF1 : n * h * 60 / d < h * 60 := Int.ediv_lt_of_lt_mul hd (by
    have : n * h < d * h := Int.mul_lt_mul_of_pos_right (by omega) (by omega)
    rw [Int.mul_comm d h] at this
    rw [Int.mul_right_comm h 60 d]
    omega)
  have hH : n * h / d = n * h * 60 / d / 60 := by rw [Int.ediv_ediv_of_nonneg (by omega), Int.mul_ediv_mul_of_pos_left _ _ (by omega)]
  rw [hH]
  have hr := Int.emod_add_mul_ediv (n * h * 60) d
  have hr0 := Int.emod_nonneg (n * h * 60) (show d ≠ 0 by omega)
  have hr1 := Int.emod_lt_of_pos (n * h * 60) hd
  have hg := gcd_pos' (n * h * 60 % d) hd
  obtain ⟨x, hx⟩ : (Int.gcd (n * h * 60 % d) d : Int) ∣ n * h * 60 % d := Int.gcd_dvd_left ..
  obtain ⟨y, hy⟩ : (Int.gcd (n * h * 60 % d) d : Int) ∣ d := Int.gcd_dvd_right ..
  refine ⟨by omega, by omega, ?_⟩
  have hx2 : n * h * 60 % d / (Int.gcd (n * h * 60 % d) d : Int) = x := by
    conv => lhs; lhs; rw [hx]
    exact Int.mul_ediv_cancel_left _ (by omega)
  have hy2 : d / (Int.gcd (n * h * 60 % d) d : Int) = y := by
    conv => lhs; lhs; rw [hy]
    exact Int.mul_ediv_cancel_left _ (by omega)
  rw [hx2, hy2]
  generalize hF : n * h * 60 / d = F at *
  generalize hR : n * h * 60 % d = r at *
  generalize hG : (Int.gcd r d : Int) = g at *
  have hy0 : 0 < y := by
    rcases Int.lt_or_le 0 y with c | c
    · exact c
    · have := Int.mul_nonneg (show 0 ≤ g by omega) (show 0 ≤ -y by omega); rw [Int.mul_neg] at this; omega
  have hy1 : y ≤ d := by
    have := Int.mul_le_mul_of_nonneg_right (show (1 : Int) ≤ g by omega) (show 0 ≤ y by omega); omega
  have hx0 : 0 ≤ x := by
    rcases Int.lt_or_le x 0 with c | c
    · have := Int.mul_pos hg (show 0 < -x by omega); rw [Int.mul_neg] at this; omega
    · exact c
  have hx1 : x ≤ r := by
    have := Int.mul_le_mul_of_nonneg_right (show (1 : Int) ≤ g by omega) hx0; omega
  have b1 := mul_bound (a := F) (b := y) (A := 1440) (B := 1000000) (by omega) (by omega) (by omega) (by omega)
  have b2 := mul_bound (a := F * y) (b := d) (A := 1440000000) (B := 1000000) (by omega) (by omega) (by omega) (by omega)
  have b3 := mul_bound (a := x) (b := d) (A := 1000000) (B := 1000000) (by omega) (by omega) (by omega) (by omega)
  have b4 := mul_bound (a := n * h * 60) (b := y) (A := 1440000000) (B := 1000000) (by omega) (by omega) (by omega) (by omega)
  have key : F * y * d + x * d = n * h * 60 * y := by
    have : x * d = r * y := by
      have e1 : x * d = x * (g * y) := by rw [← hy]
      have e2 : r * y = (g * x) * y := by rw [← hx]
      rw [e1, e2, Int.mul_left_comm, Int.mul_assoc]
    rw [this, ← hr, Int.add_mul, Int.mul_right_comm, Int.mul_comm d F]
    omega
  rw [wrap_id (x := F / 60 * 60) (by omega) (by omega), show F / 60 * 60 + F % 60 = F by omega, wrap_id (x := F) (by omega) (by omega), wrap_id (x := F * y) (by omega) (by omega), wrap_id (x := F * y * d) (by omega) (by omega), wrap_id (x := x * d) (by omega) (by omega), key, Int.mul_one, wrap_id (x := n * h) (by omega) (by omega), wrap_id (x := n * h * 60) (by omega) (by omega), wrap_id (x := n * h * 60 * y) (by omega) (by omega), wrap_id (x := n * h * 60 * y) (by omega) (by omega)]
/-! a time of whole seconds -/
theorem cross {a b c d : Int} (hb : 0 < b) (hd : 0 < d) (h : (a : Rat) / b = (c : Rat) / d) : a * d = c * b := by
  have h1 := cast_ne hb
  have h2 := cast_ne hd
  have : ((a * d : Int) : Rat) = ((c * b : Int) : Rat) := by
    rw [Rat.intCast_mul, Rat.intCast_mul]
    have e1 : (a : Rat) = (a : Rat) / b * b := (Rat.div_mul_cancel h1).symm
    rw [e1, h]
    have e2 : (c : Rat) / d * d = c := Rat.div_mul_cancel h2
    grind
  exact Rat.intCast_inj.1 this
theorem timeOf_facts (g a b c : Int) (e : (vTimeOf g a b c).2.2 = true) : ∃ N D, (vTimeOf g a b c) = (N, D, true) ∧ (isD g && isT N D) = true ∧ (0 ≤ a ∧ a < g) ∧ (0 ≤ c ∧ c ≤ 59) ∧ vHour g N D = (a, true) ∧ vMinute g N D = (b, true) ∧ (vSecond g N D).1 * 60 = c * (vSecond g N D).2.1 ∧ (vSecond g N D).2.2 = true ∧ 0 ≤ (vSecond g N D).1 ∧ (vSecond g N D).1 ≤ 1000000 ∧ 0 < (vSecond g N D).2.1 ∧ (vSecond g N D).2.1 ≤ 1000000 := by
  unfold vTimeOf at e ⊢
  split at e
  rotate_left
  · cases e
  rename_i hc
  rw [if_pos hc]
  obtain ⟨c1, c2, c3, c4⟩ := hc
  obtain ⟨q1, q2⟩ := isD_iff.1 c1
  have hgp : 0 < g * 3600 := by omega
  have hq : qTime g a b c = ((a * 3600 + b * 60 + c : Int) : Rat) / ((g * 3600 : Int) : Rat) := rfl
  have hD : td (qTime g a b c) ≤ g * 3600 := by rw [hq]; exact td_div_le _ _ hgp
  have hfr : fr (qTime g a b c) = ((a * 3600 + b * 60 + c : Int) : Rat) / ((g * 3600 : Int) : Rat) := by
    rw [hq]; exact fr_canon (by omega) (by omega)
  have hND := tn_td (qTime g a b c)
  rw [hfr] at hND
  have hT : isT (tn (qTime g a b c)) (td (qTime g a b c)) = true := by rw [isT_tn]; exact decide_eq_true (by omega)
  have hD0 := td_pos (qTime g a b c)
  have hN0 := tn_nonneg (qTime g a b c)
  have hx := cross hD0 hgp hND
  generalize tn (qTime g a b c) = N at *
  generalize td (qTime g a b c) = D at *
  have hb : (isD g && isT N D) = true := by rw [c1, hT]; rfl
  have k1 : N * g * 60 / D = a * 60 + b := by
    have e1 : N * g * 60 * 60 = (a * 3600 + b * 60 + c) * D := by rw [← hx, ← Int.mul_assoc]; omega
    have e2 : N * g * 60 / D = (N * g * 60 * 60) / (D * 60) := (Int.mul_ediv_mul_of_pos_left _ _ (by omega)).symm
    rw [e2, e1, Int.mul_comm D 60, Int.mul_ediv_mul_of_pos_left _ _ hD0]
    omega
  have k0 : N * g / D = a := by
    have n1 := Int.mul_nonneg hN0 (show 0 ≤ g by omega)
    have : N * g / D = N * g * 60 / D / 60 := by rw [Int.ediv_ediv_of_nonneg (by omega), Int.mul_ediv_mul_of_pos_left _ _ (by omega)]
    rw [this, k1]; omega
  have k2 : ((60 * g : Int) : Rat) * ((N : Rat) / D) = ((a * 3600 + b * 60 + c : Int) : Rat) / ((60 : Int) : Rat) := by
    rw [hND]
    have h1 := cast_ne hgp
    have h2 : ((60 : Int) : Rat) ≠ 0 := cast_ne (by omega)
    rw [Rat.intCast_mul g 3600, show ((3600 : Int) : Rat) = ((60 : Int) : Rat) * ((60 : Int) : Rat) by rw [← Rat.intCast_mul]; rfl, Rat.intCast_mul 60 g]
    have h3 : (g : Rat) ≠ 0 := cast_ne (by omega)
    generalize ((60 : Int) : Rat) = z at *
    generalize ((a * 3600 + b * 60 + c : Int) : Rat) = t at *
    generalize (g : Rat) = u at *
    grind
  have k3 : fr (((60 * g : Int) : Rat) * ((N : Rat) / D)) = ((c : Int) : Rat) / ((60 : Int) : Rat) := by
    rw [k2, fr_div _ 60 (by omega), show (a * 3600 + b * 60 + c) % 60 = c by omega]
  have s0 := td_pos (((60 * g : Int) : Rat) * ((N : Rat) / D))
  have s1 := tn_nonneg (((60 * g : Int) : Rat) * ((N : Rat) / D))
  have s2 := tn_lt (((60 * g : Int) : Rat) * ((N : Rat) / D))
  have s3 : td (((60 * g : Int) : Rat) * ((N : Rat) / D)) ≤ D := td_mul_le hD0
  have k4 := tn_td (((60 * g : Int) : Rat) * ((N : Rat) / D))
  rw [k3] at k4
  have k5 := cross s0 (show (0 : Int) < 60 by omega) k4
  refine ⟨N, D, rfl, hb, by omega, by omega, ?_, ?_, ?_⟩
  · unfold vHour; rw [if_pos hb, k0]
  · unfold vMinute; rw [if_pos hb, k1, show (a * 60 + b) % 60 = b by omega]
  · unfold vSecond; rw [if_pos hb]
    exact ⟨k5, rfl, s1, by show tn _ ≤ _; omega, s0, by show td _ ≤ _; omega⟩
/-! the law's parts -/
theorem hs_text (k6 : Int) (s : ByteArray) (hs : s.size ≤ 1048576) : Ev (fun k => if (vSpecParse k6 (LB s)).2.2 = true then ((impl_TimeText.f k k6 (vSpecParse k6 (LB s)).1 (vSpecParse k6 (LB s)).2.1).bind fun bt => (if bt.2 = true then (some (bt.1.toList == s.toList)) else (some false))) else (some true)) true := by
  by_cases h : (vSpecParse k6 (LB s)).2.2 = true
  · refine Ev.pos h ?_
    obtain ⟨hd, n, d, ht, et, e⟩ := parse_told k6 s hs h
    rw [e]
    refine Ev.bind (impl_TimeText_ev k6 n d) ?_
    have e3 : vTimeText k6 n d = (s, true) := by unfold vTimeText; rw [hd, ht, et]; rfl
    rw [e3]
    refine Ev.pos rfl ?_
    exact Ev.val (Ev.now _) (by simp)
  · exact Ev.neg h (Ev.now _)
theorem hs_j7 (k6 : Int) (s : ByteArray) (hs : s.size ≤ 1048576) : Ev (fun k => laws_FnHandsStandOfAll.j7 k k6 s (vSpecParse k6 (LB s)).2.2 false (vSpecParse k6 (LB s)).1 (vSpecParse k6 (LB s)).2.1) true := by
  refine Ev.step (f := fun k => laws_FnHandsStandOfAll.j7 (k + 1) k6 s (vSpecParse k6 (LB s)).2.2 false (vSpecParse k6 (LB s)).1 (vSpecParse k6 (LB s)).2.1) (fun k => rfl) ?_
  simp only [laws_FnHandsStandOfAll.j7, Bool.false_eq_true, if_false]
  exact hs_text k6 s hs
theorem hs_j5 (g a b c k6 : Int) (s : ByteArray) (hs : s.size ≤ 1048576) : Ev (fun k => laws_FnHandsStandOfAll.j5 k g a b c k6 s) true := by
  refine Ev.step (f := fun k => laws_FnHandsStandOfAll.j5 (k + 1) g a b c k6 s) (fun k => rfl) ?_
  simp only [laws_FnHandsStandOfAll.j5]
  refine Ev.bind (impl_TimeOf_ev g a b c) (Ev.bind (spec_TimeOf_ev g a b c) (Ev.bind (parse_same k6 s hs) (Ev.bind (spec_ParseTime_ev k6 s) ?_)))
  simp only [bne_self_eq_false, beq_self_eq_true, Bool.not_true, Bool.or_self, Bool.false_eq_true, if_false]
  refine Ev.step (f := fun k => laws_FnHandsStandOfAll.j6 (k + 1) g a b c k6 s (vTimeOf g a b c).2.2 (vSpecParse k6 (LB s)).2.2 false (vTimeOf g a b c).1 (vTimeOf g a b c).2.1 (vSpecParse k6 (LB s)).1 (vSpecParse k6 (LB s)).2.1) (fun k => rfl) ?_
  simp only [laws_FnHandsStandOfAll.j6, Bool.false_eq_true, if_false]
  by_cases h : (vTimeOf g a b c).2.2 = true
  · refine Ev.pos h ?_
    obtain ⟨N, D, e, ok, h1, h2, h3, h4, h5, h6, h7, h8, h9, h10⟩ := timeOf_facts g a b c h
    rw [e]
    refine Ev.bind (impl_HourOf_ev g N D) (Ev.bind (impl_MinuteOf_ev g N D) (Ev.bind (impl_SecondOf_ev g N D) ?_))
    rw [h3, h4]
    refine Ev.pos rfl (Ev.pos rfl (Ev.pos rfl (Ev.pos rfl (Ev.pos h6 ?_))))
    have e2 : ((wrap64 ((vSecond g N D).1 * 60)) != (wrap64 (c * (vSecond g N D).2.1))) = false := by rw [h5]; exact bne_self_eq_false _
    rw [e2]
    exact hs_j7 k6 s hs
  · exact Ev.neg h (hs_text k6 s hs)
theorem hs_l0 (h n d g a b c k6 : Int) (s : ByteArray) (hs : s.size ≤ 1048576) (hh : isD h = true) (ht : isT n d = true) (L : List S23) (hl : L.length ≤ 100000) (hx : ∀ x ∈ L, isT x.f0 x.f1 = true ∧ fr (h * ((x.f0 : Rat) / x.f1)) = (n : Rat) / d) : ∀ (m i : Nat), L.length - i = m → i ≤ L.length → Ev (fun k => laws_FnHandsStandOfAll.l0 k h g a b c k6 s L (L.length : Int) i n d) true := by
  intro m
  induction m with
  | zero =>
    intro i h0 h1
    refine Ev.step (f := fun k => laws_FnHandsStandOfAll.l0 (k + 1) h g a b c k6 s L (L.length : Int) i n d) (fun k => rfl) ?_
    simp only [laws_FnHandsStandOfAll.l0]
    exact Ev.neg (by omega) (hs_j5 g a b c k6 s hs)
  | succ m ih =>
    intro i h0 h1
    refine Ev.step (f := fun k => laws_FnHandsStandOfAll.l0 (k + 1) h g a b c k6 s L (L.length : Int) i n d) (fun k => rfl) ?_
    simp only [laws_FnHandsStandOfAll.l0]
    refine Ev.pos (by omega) (Ev.pos (by omega) (Ev.pos (by omega) ?_))
    obtain ⟨x1, x2⟩ := hx _ (rd_mem L i (by omega))
    refine Ev.bind (impl_LongHand_ev h _ _) ?_
    have e : vLong h (rd_T23 L (i : Int)).f0 (rd_T23 L (i : Int)).f1 = (n, d, true) := by
      unfold vLong
      rw [hh, x1, if_pos (by decide)]
      obtain ⟨t1, t2⟩ := isT_canon ht
      have k := tt_of_fr (x2.trans (isT_fr ht).symm)
      rw [t1, t2] at k
      have k1 := congrArg Prod.fst k
      have k2 := congrArg Prod.snd k
      dsimp only at k1 k2
      rw [k1, k2]
    rw [e]
    refine Ev.pos rfl ?_
    simp only [beq_self_eq_true, Bool.not_true, Bool.or_self, Bool.false_eq_true, if_false]
    rw [wrap_id (by omega) (by omega)]
    exact ih (i + 1) (by omega) (by omega)
theorem hs_j2 (h n d g a b c k6 : Int) (s : ByteArray) (hs : s.size ≤ 1048576) : Ev (fun k => laws_FnHandsStandOfAll.j2 k h g a b c k6 s (vTWL h n d).1 (vTWL h n d).2 n d) true := by
  refine Ev.step (f := fun k => laws_FnHandsStandOfAll.j2 (k + 1) h g a b c k6 s (vTWL h n d).1 (vTWL h n d).2 n d) (fun k => rfl) ?_
  simp only [laws_FnHandsStandOfAll.j2]
  by_cases e : (vTWL h n d).2 = true
  · refine Ev.pos e ?_
    have ok := vTWL_ok h n d e
    have hlen := vTWL_len h n d
    unfold vTWL at e hlen ⊢
    rw [if_pos ok] at e hlen ⊢
    rw [Bool.and_eq_true] at ok
    obtain ⟨q1, q2⟩ := isD_iff.1 ok.1
    have r0 := fr_nonneg ((n : Rat) / d)
    have r1 := fr_lt ((n : Rat) / d)
    rw [isT_fr ok.2] at r0 r1
    obtain ⟨f1, f2, f3⟩ := roots_facts (show 0 < h by omega) r0 r1 e
    refine Ev.pos f2 (Ev.bind (laws_wRises_ev _ (by omega) f1 (fun x hx => (f3 x hx).1)) ?_)
    refine Ev.step (f := fun k => laws_FnHandsStandOfAll.j3 (k + 1) h g a b c k6 s (vRoots ((n : Rat) / d) h).1 (!true) n d) (fun k => rfl) ?_
    simp only [laws_FnHandsStandOfAll.j3, Bool.not_true, Bool.false_eq_true, if_false]
    exact hs_l0 h n d g a b c k6 s hs ok.1 ok.2 _ (by omega) f3 _ 0 rfl (by omega)
  · exact Ev.neg e (hs_j5 g a b c k6 s hs)
theorem hs_j0 (h n d g a b c k6 : Int) (s : ByteArray) (hs : s.size ≤ 1048576) : Ev (fun k => laws_FnHandsStandOfAll.j0 k h g a b c k6 s (vLong h n d).2.2 (vHour h n d).1 (vMinute h n d).1 (vTWL h n d).1 (vTWL h n d).2 (vTimeText h n d).1 false n d (vLong h n d).1 (vLong h n d).2.1 (vAngle h n d).1 (vAngle h n d).2.1 (vSmall h n d).1 (vSmall h n d).2.1 (vSecond h n d).1 (vSecond h n d).2.1) true := by
  refine Ev.step (f := fun k => laws_FnHandsStandOfAll.j0 (k + 1) h g a b c k6 s (vLong h n d).2.2 (vHour h n d).1 (vMinute h n d).1 (vTWL h n d).1 (vTWL h n d).2 (vTimeText h n d).1 false n d (vLong h n d).1 (vLong h n d).2.1 (vAngle h n d).1 (vAngle h n d).2.1 (vSmall h n d).1 (vSmall h n d).2.1 (vSecond h n d).1 (vSecond h n d).2.1) (fun k => rfl) ?_
  simp only [laws_FnHandsStandOfAll.j0, Bool.false_eq_true, if_false]
  by_cases ok : (isD h && isT n d) = true
  · refine Ev.pos (by rw [vLong_ok, ok]) ?_
    obtain ⟨g1, g2, g3⟩ := gone_eq h n d ok
    obtain ⟨s1, s2, s3, s4⟩ := vSmall_half h n d ok
    have hA := add_angle h n d ok
    have hL : (vLong h n d).2.2 = true := by rw [vLong_ok, ok]
    have ok2 := ok
    rw [Bool.and_eq_true] at ok2
    have hT : (vTimeText h n d).1 = vText h n d := by unfold vTimeText; rw [if_pos ok]
    have hP := text_back ok2.1 ok2.2
    have hZ := text_size ok2.1 ok2.2
    rw [hT]
    refine Ev.bind (impl_AddTurns_ev n d _ _) (Ev.bind (parse_same h (vText h n d) hZ) ?_)
    rw [hA, hP]
    refine Ev.pos hL ?_
    simp only [beq_self_eq_true, Bool.not_true, Bool.or_self, Bool.false_eq_true, if_false]
    rw [wrap_id (x := 2 * (vSmall h n d).1) (by omega) (by omega)]
    refine Ev.neg (by omega) (Ev.neg (by omega) (Ev.neg (by omega) (Ev.neg (by omega) (Ev.neg (by omega) ?_))))
    simp only [if_true]
    refine Ev.step (f := fun k => laws_FnHandsStandOfAll.j1 (k + 1) h g a b c k6 s (vHour h n d).1 (vMinute h n d).1 (vTWL h n d).1 (vTWL h n d).2 false n d (vSecond h n d).1 (vSecond h n d).2.1) (fun k => rfl) ?_
    simp only [laws_FnHandsStandOfAll.j1, Bool.false_eq_true, if_false]
    exact Ev.pos g3 (hs_j2 h n d g a b c k6 s hs)
  · refine Ev.neg (by rw [vLong_ok]; exact ok) ?_
    exact hs_j2 h n d g a b c k6 s hs
theorem FnHandsStandOfAll : laws_FnHandsStandOfAll.Pure := by
  intro h n d g a b c k6 s _ _ _ _ _ _ _ _ _
  apply Ev.rounds (g := fun k => laws_FnHandsStandOfAll.f k h n d g a b c k6 s)
  unfold laws_FnHandsStandOfAll.f
  by_cases hs : (s.size : Int) > 1048576
  · exact Ev.pos hs (Ev.now _)
  refine Ev.neg hs ?_
  refine Ev.bind (impl_LongHand_ev h n d) (Ev.bind (spec_LongHand_ev h n d) (Ev.bind (impl_AngleOf_ev h n d) (Ev.bind (spec_AngleOf_ev h n d) (Ev.bind (impl_SmallAngle_ev h n d) (Ev.bind (spec_SmallAngle_ev h n d) (Ev.bind (impl_HourOf_ev h n d) (Ev.bind (spec_HourOf_ev h n d) (Ev.bind (impl_MinuteOf_ev h n d) (Ev.bind (spec_MinuteOf_ev h n d) (Ev.bind (impl_SecondOf_ev h n d) (Ev.bind (spec_SecondOf_ev h n d) (Ev.bind (impl_TimesWithLong_ev h n d) (Ev.bind (spec_TimesWithLong_ev h n d) (Ev.bind (impl_TimeText_ev h n d) (Ev.bind (spec_TimeText_ev h n d) ?_)))))))))))))))
  have hA : ((vAngle h n d).2.2 != (vLong h n d).2.2) = false := by rw [vAngle_ok, vLong_ok, bne_self_eq_false]
  have hS : ((vSmall h n d).2.2 != (vLong h n d).2.2) = false := by rw [vSmall_ok, vLong_ok, bne_self_eq_false]
  have hH : ((vHour h n d).2 != (vLong h n d).2.2) = false := by rw [vHour_ok, vLong_ok, bne_self_eq_false]
  have hM : ((vMinute h n d).2 != (vLong h n d).2.2) = false := by rw [vMinute_ok, vLong_ok, bne_self_eq_false]
  have hC : ((vSecond h n d).2.2 != (vLong h n d).2.2) = false := by rw [vSecond_ok, vLong_ok, bne_self_eq_false]
  have hX : ((vTimeText h n d).2 != (vLong h n d).2.2) = false := by rw [vTimeText_ok, vLong_ok, bne_self_eq_false]
  have hlen := vTWL_len h n d
  simp only [bne_self_eq_false, beq_self_eq_true, Bool.not_true, Bool.or_self, Bool.false_eq_true, if_false, if_true, hA, hS, hH, hM, hC, hX]
  refine Ev.bind (laws_wTurns_self _ (by omega)) ?_
  simp only [if_true]
  have last := hs_j0 h n d g a b c k6 s (by omega)
  by_cases e : (vTWL h n d).2 = true
  · refine Ev.pos e ?_
    have ok : (!(vLong h n d).2.2) = false := by rw [vLong_ok, vTWL_ok h n d e]; rfl
    rw [ok]
    exact last
  · exact Ev.neg e last

end Go.Proofs.YtchglfpiicaedaaGreatDoor.Pure
