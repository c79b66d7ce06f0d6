/- FnExactSmallAngle of the program answers as the reference does, whatever is given: the pure part of the proof. No condition. -/
import Derived.Test.YthhienjfgcjleaaPFnExactSmallAnglex0
import Derived.Test.YthhienjfgcjleaaPFnExactSmallAnglex1
import Derived.Test.YthhienjfgcjleaaPFnExactSmallAnglex2
import Derived.Test.YthhienjfgcjleaaMath
set_option linter.unusedVariables false
set_option linter.unusedSimpArgs false
namespace Go.Proofs.Ythhienjfgcjleaa.Pure
open Go.RowKit Go.Proofs.Ythhienjfgcjleaa.PFnExactSmallAngle Go.Proofs.YthhienjfgcjleaaW.PrintWords Go.Proofs.YthhienjfgcjleaaW.PrintLast Go.Proofs.YthhienjfgcjleaaW.PrintMore Go.Proofs.Ythhienjfgcjleaa.Math

/-! laws_eqTurn -/
theorem laws_eqTurn_self (a b : Int) : laws_eqTurn.f a b a b = some true := by
  unfold laws_eqTurn.f; rw [if_pos rfl, if_pos rfl]

/-! spec_l1In -/
theorem spec_l1In_eq (a b c : Int) : spec_l1In.f a b c = some (decide (b ≤ a ∧ a ≤ c)) := by
  unfold spec_l1In.f
  by_cases h : a ≥ b
  · rw [if_pos h]; simp [show b ≤ a from h]
  · rw [if_neg h]; simp [show ¬ b ≤ a from h]

/-! spec_diCommon -/
theorem spec_diCommon_l0 : ∀ (n : Nat) (a b : Int), 0 ≤ a → 0 ≤ b → b < n → Ev (fun k => spec_diCommon.l0 k a b) (Int.gcd a b : Int) := by
  intro n
  induction n with
  | zero => intro a b _ h1 h2; omega
  | succ n ih =>
    intro a b ha hb hn
    by_cases h : b = 0
    · subst h
      refine Ev.step (f := fun _ => some a) (fun k => ?_) ?_
      · simp only [spec_diCommon.l0]
        rw [if_neg (by omega)]
      · rw [gcd_zero ha]; exact Ev.now a
    · have h1 := tmod_range ha (show 0 < b by omega)
      refine Ev.step (f := fun k => spec_diCommon.l0 k b (Int.tmod a b)) (fun k => ?_) ?_
      · simp only [spec_diCommon.l0]
        rw [if_pos (by omega), if_neg h]
      · rw [← gcd_step ha (show 0 < b by omega)]
        exact ih b _ (by omega) (by omega) (by omega)
theorem spec_diCommon_ev (a b : Int) (ha : 0 ≤ a) (hb : 0 ≤ b) : Ev (fun k => spec_diCommon.f k a b) (Int.gcd a b : Int) := by
  unfold spec_diCommon.f
  exact spec_diCommon_l0 (b.toNat + 1) a b ha hb (by omega)

/-! spec_diGood -/
theorem spec_diGood_ev (n d : Int) : Ev (fun k => spec_diGood.f k n d) (isT n d) := by
  unfold spec_diGood.f
  simp only [spec_l1In_eq, Option.bind_some]
  by_cases h : 1 ≤ d ∧ d ≤ 1000000
  · refine Ev.pos (by simpa using h) ?_
    rw [wrap_id (by omega) (by omega)]
    by_cases h2 : 0 ≤ n ∧ n ≤ d - 1
    · refine Ev.pos (by simpa using h2) ?_
      refine Ev.bind (spec_diCommon_ev n d (by omega) (by omega)) ?_
      refine Ev.val (Ev.now _) ?_
      unfold isT
      rw [Bool.eq_iff_iff]; simp; omega
    · refine Ev.neg (by simpa using h2) ?_
      refine Ev.val (Ev.now _) ?_
      unfold isT
      rw [Bool.eq_iff_iff]; simp; omega
  · refine Ev.neg (by simpa using h) ?_
    refine Ev.val (Ev.now _) ?_
    unfold isT
    rw [Bool.eq_iff_iff]; simp; omega

/-! spec_diHours -/
theorem spec_diHours_eq (h : Int) : spec_diHours.f h = some (isD h) := by
  unfold spec_diHours.f isD; simp only [spec_l1In_eq, Option.bind_some]

/-! spec_diAsked -/
theorem spec_diAsked_ev (h n d : Int) : Ev (fun k => spec_diAsked.f k h n d) (isD h && isT n d) := by
  unfold spec_diAsked.f
  simp only [spec_diHours_eq, Option.bind_some]
  cases isD h
  · exact Ev.neg (by decide) (Ev.now _)
  · exact Ev.pos rfl (Ev.bind (spec_diGood_ev n d) (Ev.now _))

/-! spec_diMake -/
theorem spec_diMake_ev (n d : Int) (hd : 0 < d) (hd' : d ≤ 4000000000000000000) (hn : -4000000000000000000 ≤ n) (hn' : n ≤ 4000000000000000000) : Ev (fun k => spec_diMake.f k n d) (mk ((n : Rat) / d)) := by
  unfold spec_diMake.f
  refine Ev.neg (by omega) ?_
  have h0 := Int.emod_nonneg n (show d ≠ 0 by omega)
  have h1 := Int.emod_lt_of_pos n hd
  obtain ⟨t1, t2⟩ := tmod_bound n d hd
  have e0 : Int.tmod (wrap64 (Int.tmod n d + d)) d = n % d := by
    rw [wrap_id (by omega) (by omega)]; exact tmod_tmod n d hd
  rw [e0]
  refine Ev.bind (spec_diCommon_ev (n % d) d h0 (by omega)) ?_
  have hg := gcd_pos' (n % d) hd
  refine Ev.neg (by omega) ?_
  have e1 := Int.tdiv_eq_ediv_of_nonneg (b := (Int.gcd (n % d) d : Int)) h0
  have e2 := Int.tdiv_eq_ediv_of_nonneg (b := (Int.gcd (n % d) d : Int)) (show 0 ≤ d by omega)
  have b1 := ediv_le' h0 hg
  have b2 := ediv_le' (show 0 ≤ d by omega) hg
  rw [e1, e2, wrap_id (by omega) (by omega), wrap_id (by omega) (by omega)]
  unfold mk
  rw [tn_div n d hd, td_div n d hd]
  by_cases h : d / (Int.gcd (n % d) d : Int) > 1000000
  · rw [if_pos h, if_neg (by omega)]; exact Ev.now _
  · rw [if_neg h, if_pos (by omega)]; exact Ev.now _

/-! spec_diTimes -/
theorem spec_diTimes_ev (a b k : Int) (h : isT a b = true) (h0 : -100000 ≤ k) (h1 : k ≤ 100000) : Ev (fun n => spec_diTimes.f n a b k) (tn (k * ((a : Rat) / b)), td (k * ((a : Rat) / b))) := by
  obtain ⟨p1, p2, p3, p4, _⟩ := isT_iff.1 h
  have m1 := mul_bound (a := a) (b := k) (A := 1000000) (B := 100000) (by omega) (by omega) h0 h1
  unfold spec_diTimes.f
  rw [wrap_id (by omega) (by omega)]
  refine Ev.bind (spec_diMake_ev _ _ (by omega) (by omega) (by omega) (by omega)) ?_
  rw [q_mul (show 0 < b by omega), mk_of (Int.le_trans (td_mul_le (show 0 < b by omega)) p2)]
  exact Ev.now _
theorem spec_diTimes_fr (p : Rat) (k : Int) (hp : td p ≤ 1000000) (h0 : -100000 ≤ k) (h1 : k ≤ 100000) : Ev (fun n => spec_diTimes.f n (tn p) (td p) k) (tn (k * p), td (k * p)) := by
  refine Ev.val (spec_diTimes_ev (tn p) (td p) k (by rw [isT_tn]; simpa using hp) h0 h1) ?_
  rw [tn_td]
  exact tt_of_fr (fr_mul_fr k p)

/-! spec_diMirror -/
theorem spec_diMirror_fr (p : Rat) (hp : td p ≤ 1000000) : Ev (fun n => spec_diMirror.f n (tn p) (td p)) (tn (-p), td (-p)) := by
  unfold spec_diMirror.f
  refine Ev.bind (spec_diTimes_fr p (-1) hp (by omega) (by omega)) ?_
  rw [neg_one_mul']
  exact Ev.now _
theorem spec_diMirror_T (a b : Int) (h : isT a b = true) : Ev (fun n => spec_diMirror.f n a b) (tn (-((a : Rat) / b)), td (-((a : Rat) / b))) := by
  unfold spec_diMirror.f
  refine Ev.bind (spec_diTimes_ev a b (-1) h (by omega) (by omega)) ?_
  rw [neg_one_mul']
  exact Ev.now _

/-! spec_l1Sign -/
theorem spec_l1Sign_eq (a : Int) : spec_l1Sign.f a = some (sg a) := by
  unfold spec_l1Sign.f sg
  split
  · rfl
  · split <;> rfl

/-! spec_diCompare -/
theorem spec_diCompare_eq (a b c d : Int) (ha : isT a b = true) (hc : isT c d = true) : spec_diCompare.f a b c d = some (sg (a * d - c * b)) := by
  obtain ⟨p1, p2, p3, p4, _⟩ := isT_iff.1 ha
  obtain ⟨r1, r2, r3, r4, _⟩ := isT_iff.1 hc
  have m1 := mul_bound (a := a) (b := d) (A := 1000000) (B := 1000000) (by omega) (by omega) (by omega) (by omega)
  have m2 := mul_bound (a := c) (b := b) (A := 1000000) (B := 1000000) (by omega) (by omega) (by omega) (by omega)
  unfold spec_diCompare.f
  rw [wrap_id (x := a * d) (by omega) (by omega), wrap_id (x := c * b) (by omega) (by omega), wrap_id (by omega) (by omega)]
  simp only [spec_l1Sign_eq, Option.bind_some]

/-! spec_SmallAngle -/
theorem spec_SmallAngle_ev (h a b : Int) : Ev (fun k => spec_SmallAngle.f k h a b) (vSmall h a b) := by
  unfold spec_SmallAngle.f vSmall
  refine Ev.bind (spec_diAsked_ev h a b) ?_
  cases e : isD h && isT a b
  · exact Ev.neg (by decide) (Ev.now _)
  refine Ev.pos rfl ?_
  rw [Bool.and_eq_true] at e
  obtain ⟨p1, p2, p3, p4, _⟩ := isT_iff.1 e.2
  obtain ⟨q1, q2⟩ := isD_iff.1 e.1
  have hq : td (((h - 1 : Int) : Rat) * ((a : Rat) / b)) ≤ 1000000 := Int.le_trans (td_mul_le (show 0 < b by omega)) p2
  rw [wrap_id (x := h - 1) (by omega) (by omega)]
  refine Ev.bind (spec_diTimes_ev a b (h - 1) e.2 (by omega) (by omega)) ?_
  simp only [if_true]
  generalize ((h - 1 : Int) : Rat) * ((a : Rat) / b) = q at hq ⊢
  refine Ev.bind (spec_diMirror_fr q (by omega)) ?_
  have hn := td_neg_le q
  simp only [spec_diCompare_eq _ _ _ _ (show isT (tn (-q)) (td (-q)) = true by rw [isT_tn]; simp; omega) (show isT (tn q) (td q) = true by rw [isT_tn]; simpa using hq), Option.bind_some]
  split <;> exact Ev.now _

/-! impl_within -/
theorem impl_within_eq (a b c : Int) : impl_within.f a b c = some (decide (b ≤ a ∧ a ≤ c)) := by
  unfold impl_within.f
  by_cases h : a ≥ b
  · rw [if_pos h]; simp [show b ≤ a from h]
  · rw [if_neg h]; simp [show ¬ b ≤ a from h]

/-! impl_gcd -/
theorem impl_gcd_l0 : ∀ (n : Nat) (a b : Int), 0 ≤ a → a ≤ 9223372036854775807 → 0 ≤ b → b ≤ 9223372036854775807 → b < n → Ev (fun k => impl_gcd.l0 k a b) (Int.gcd a b : Int) := by
  intro n
  induction n with
  | zero => intro a b _ _ h1 _ h2; omega
  | succ n ih =>
    intro a b ha ha' hb hb' hn
    by_cases h : b = 0
    · subst h
      refine Ev.step (f := fun _ => some a) (fun k => ?_) ?_
      · simp only [impl_gcd.l0]
        rw [wrap_id (by omega) (by omega)]
        unfold mx; simp; omega
      · rw [gcd_zero ha]; exact Ev.now a
    · have h1 := tmod_range ha (show 0 < b by omega)
      refine Ev.step (f := fun k => impl_gcd.l0 k b (Int.tmod a b)) (fun k => ?_) ?_
      · simp only [impl_gcd.l0]
        rw [if_neg h]
      · rw [← gcd_step ha (show 0 < b by omega)]
        exact ih b _ (by omega) (by omega) (by omega) (by omega) (by omega)
theorem impl_gcd_ev (a b : Int) (ha : 0 ≤ a) (ha' : a ≤ 9223372036854775807) (hb : 0 ≤ b) (hb' : b ≤ 9223372036854775807) : Ev (fun k => impl_gcd.f k a b) (Int.gcd a b : Int) := by
  unfold impl_gcd.f
  exact impl_gcd_l0 (b.toNat + 1) a b ha ha' hb hb' (by omega)

/-! impl_IsTurn -/
theorem impl_IsTurn_ev (n d : Int) : Ev (fun k => impl_IsTurn.f k n d) (isT n d) := by
  unfold impl_IsTurn.f
  simp only [impl_within_eq, Option.bind_some]
  by_cases h : 1 ≤ d ∧ d ≤ 1000000
  · refine Ev.pos (by simpa using h) ?_
    rw [wrap_id (by omega) (by omega)]
    by_cases h2 : 0 ≤ n ∧ n ≤ d - 1
    · refine Ev.pos (by simpa using h2) ?_
      refine Ev.bind (impl_gcd_ev n d (by omega) (by omega) (by omega) (by omega)) ?_
      refine Ev.val (Ev.now _) ?_
      unfold isT
      rw [Bool.eq_iff_iff]; simp; omega
    · refine Ev.neg (by simpa using h2) ?_
      refine Ev.val (Ev.now _) ?_
      unfold isT
      rw [Bool.eq_iff_iff]; simp; omega
  · refine Ev.neg (by simpa using h) ?_
    refine Ev.val (Ev.now _) ?_
    unfold isT
    rw [Bool.eq_iff_iff]; simp; omega

/-! impl_isDial -/
theorem impl_isDial_eq (h : Int) : impl_isDial.f h = some (isD h) := by
  unfold impl_isDial.f isD; simp only [impl_within_eq, Option.bind_some]

/-! impl_isTime -/
theorem impl_isTime_ev (h n d : Int) : Ev (fun k => impl_isTime.f k h n d) (isD h && isT n d) := by
  unfold impl_isTime.f
  simp only [impl_isDial_eq, Option.bind_some]
  cases isD h
  · exact Ev.neg (by decide) (Ev.now _)
  · exact Ev.pos rfl (Ev.bind (impl_IsTurn_ev n d) (Ev.now _))

/-! impl_floorDiv -/
theorem impl_floorDiv_eq (a b : Int) (hb : 0 < b) (hb' : b ≤ 4000000000000000000) (ha : -4000000000000000000 ≤ a) (ha' : a ≤ 4000000000000000000) : impl_floorDiv.f a b = some (a / b, a % b) := by
  obtain ⟨h1, h2, h3⟩ := floor_of_trunc a b hb
  obtain ⟨h4, h5⟩ := tdiv_bound a b hb
  have h8 := tmod_bound a b hb
  obtain ⟨h6, h7⟩ := ediv_bound a b hb
  unfold impl_floorDiv.f
  rw [if_neg (by omega)]
  by_cases h : Int.tmod a b < 0
  · rw [if_pos h]
    obtain ⟨e1, e2⟩ := h2 h
    rw [wrap_id (x := Int.tdiv a b) (by omega) (by omega), wrap_id (by omega) (by omega), wrap_id (by omega) (by omega), e1, e2]
  · rw [if_neg h]
    obtain ⟨e1, e2⟩ := h3 (by omega)
    rw [wrap_id (by omega) (by omega), e1, e2]

/-! impl_part -/
theorem impl_part_ev (n d : Int) (hd : 0 < d) (hd' : d ≤ 4000000000000000000) (hn : -4000000000000000000 ≤ n) (hn' : n ≤ 4000000000000000000) : Ev (fun k => impl_part.f k n d) (tn ((n : Rat) / d), td ((n : Rat) / d)) := by
  unfold impl_part.f
  rw [impl_floorDiv_eq n d hd hd' hn hn']
  simp only [Option.bind_some]
  have h0 := Int.emod_nonneg n (show d ≠ 0 by omega)
  have h1 := Int.emod_lt_of_pos n hd
  refine Ev.bind (impl_gcd_ev (n % d) d h0 (by omega) (by omega) (by omega)) ?_
  have hg := gcd_pos' (n % d) hd
  refine Ev.neg (by omega) ?_
  have e1 := Int.tdiv_eq_ediv_of_nonneg (b := (Int.gcd (n % d) d : Int)) h0
  have e2 := Int.tdiv_eq_ediv_of_nonneg (b := (Int.gcd (n % d) d : Int)) (show 0 ≤ d by omega)
  have b1 := ediv_le' h0 hg
  have b2 := ediv_le' (show 0 ≤ d by omega) hg
  rw [e1, e2, wrap_id (by omega) (by omega), wrap_id (by omega) (by omega), tn_div n d hd, td_div n d hd]
  exact Ev.now _

/-! impl_Turn_times -/
theorem impl_Turn_times_ev (a b k : Int) (hb : 0 < b) (hb' : b ≤ 4000000000000000000) (h0 : -4000000000000000000 ≤ a * k) (h1 : a * k ≤ 4000000000000000000) : Ev (fun n => impl_Turn_times.f n a b k) (tn (k * ((a : Rat) / b)), td (k * ((a : Rat) / b))) := by
  unfold impl_Turn_times.f
  rw [wrap_id (by omega) (by omega), ← q_mul hb]
  exact Ev.bind (impl_part_ev _ _ hb hb' h0 h1) (Ev.now _)
theorem impl_Turn_times_fr (p : Rat) (k : Int) (hp : td p ≤ 10000000000) (h0 : -100000 ≤ k) (h1 : k ≤ 100000) : Ev (fun n => impl_Turn_times.f n (tn p) (td p) k) (tn (k * p), td (k * p)) := by
  have h2 := tn_nonneg p
  have h3 := tn_lt p
  have m1 := mul_bound (a := tn p) (b := k) (A := 10000000000) (B := 100000) (by omega) (by omega) h0 h1
  refine Ev.val (impl_Turn_times_ev _ _ k (td_pos p) (by omega) (by omega) (by omega)) ?_
  rw [tn_td]
  exact tt_of_fr (fr_mul_fr k p)
theorem impl_Turn_times_T (a b k : Int) (h : isT a b = true) (h0 : -100000 ≤ k) (h1 : k ≤ 100000) : Ev (fun n => impl_Turn_times.f n a b k) (tn (k * ((a : Rat) / b)), td (k * ((a : Rat) / b))) := by
  obtain ⟨p1, p2, p3, p4, _⟩ := isT_iff.1 h
  have m1 := mul_bound (a := a) (b := k) (A := 1000000) (B := 100000) (by omega) (by omega) h0 h1
  exact impl_Turn_times_ev a b k (by omega) (by omega) (by omega) (by omega)

/-! impl_AngleOf -/
theorem impl_AngleOf_ev (h a b : Int) : Ev (fun k => impl_AngleOf.f k h a b) (vAngle h a b) := by
  unfold impl_AngleOf.f vAngle
  refine Ev.bind (impl_isTime_ev h a b) ?_
  cases e : isD h && isT a b
  · exact Ev.neg (by decide) (Ev.now _)
  refine Ev.pos rfl ?_
  rw [Bool.and_eq_true] at e
  obtain ⟨q1, q2⟩ := isD_iff.1 e.1
  rw [wrap_id (x := h - 1) (by omega) (by omega)]
  exact Ev.bind (impl_Turn_times_T a b (h - 1) e.2 (by omega) (by omega)) (Ev.now _)

/-! impl_Turn_mirror -/
theorem impl_Turn_mirror_fr (p : Rat) (hp : td p ≤ 10000000000) : Ev (fun n => impl_Turn_mirror.f n (tn p) (td p)) (tn (-p), td (-p)) := by
  unfold impl_Turn_mirror.f
  refine Ev.bind (impl_Turn_times_fr p (-1) hp (by omega) (by omega)) ?_
  rw [neg_one_mul']
  exact Ev.now _
theorem impl_Turn_mirror_T (a b : Int) (h : isT a b = true) : Ev (fun n => impl_Turn_mirror.f n a b) (tn (-((a : Rat) / b)), td (-((a : Rat) / b))) := by
  unfold impl_Turn_mirror.f
  refine Ev.bind (impl_Turn_times_T a b (-1) h (by omega) (by omega)) ?_
  rw [neg_one_mul']
  exact Ev.now _

/-! cmp_isNaN_int -/
theorem cmp_isNaN_int_eq (a : Int) : cmp_isNaN_int.f a = some false := by unfold cmp_isNaN_int.f; simp

/-! cmp_Compare_int -/
theorem cmp_Compare_int_eq (a b : Int) : cmp_Compare_int.f a b = some (sg (a - b)) := by
  unfold cmp_Compare_int.f sg
  simp only [cmp_isNaN_int_eq, Option.bind_some, Bool.false_eq_true, if_false]
  by_cases h : a < b
  · rw [if_pos h, if_neg (by omega), if_pos (by omega)]
  · rw [if_neg h]
    by_cases h2 : a > b
    · rw [if_pos h2, if_pos (by omega)]
    · rw [if_neg h2, if_neg (by omega), if_neg (by omega)]

/-! impl_Turn_compare -/
theorem impl_Turn_compare_eq (a b c d : Int) (ha : isT a b = true) (hc : isT c d = true) : impl_Turn_compare.f a b c d = some (sg (a * d - c * b)) := by
  obtain ⟨p1, p2, p3, p4, _⟩ := isT_iff.1 ha
  obtain ⟨r1, r2, r3, r4, _⟩ := isT_iff.1 hc
  have m1 := mul_bound (a := a) (b := d) (A := 1000000) (B := 1000000) (by omega) (by omega) (by omega) (by omega)
  have m2 := mul_bound (a := c) (b := b) (A := 1000000) (B := 1000000) (by omega) (by omega) (by omega) (by omega)
  unfold impl_Turn_compare.f
  rw [wrap_id (x := a * d) (by omega) (by omega), wrap_id (x := c * b) (by omega) (by omega)]
  simp only [cmp_Compare_int_eq, Option.bind_some]

/-! impl_SmallAngle -/
theorem impl_SmallAngle_ev (h a b : Int) : Ev (fun k => impl_SmallAngle.f k h a b) (vSmall h a b) := by
  unfold impl_SmallAngle.f vSmall
  refine Ev.bind (impl_AngleOf_ev h a b) ?_
  unfold vAngle
  cases e : isD h && isT a b
  · exact Ev.neg (by simp) (Ev.now _)
  refine Ev.pos (by simp) ?_
  rw [Bool.and_eq_true] at e
  obtain ⟨p1, p2, p3, p4, _⟩ := isT_iff.1 e.2
  have hq : td (((h - 1 : Int) : Rat) * ((a : Rat) / b)) ≤ 1000000 := Int.le_trans (td_mul_le (show 0 < b by omega)) p2
  simp only [if_true]
  generalize ((h - 1 : Int) : Rat) * ((a : Rat) / b) = q at hq ⊢
  refine Ev.bind (impl_Turn_mirror_fr q (by omega)) ?_
  have hn := td_neg_le q
  simp only [impl_Turn_compare_eq _ _ _ _ (show isT (tn (-q)) (td (-q)) = true by rw [isT_tn]; simp; omega) (show isT (tn q) (td q) = true by rw [isT_tn]; simpa using hq), Option.bind_some]
  split <;> exact Ev.now _

/-! laws_FnExactSmallAngle -/
theorem FnExactSmallAngle : laws_FnExactSmallAngle.Pure := by
  intro h a b _ _ _
  apply Ev.rounds (g := fun k => laws_FnExactSmallAngle.f k h a b)
  unfold laws_FnExactSmallAngle.f laws_toTurn.f
  simp only [Option.bind_some]
  refine Ev.bind (spec_SmallAngle_ev h a b) ?_
  refine Ev.bind (impl_SmallAngle_ev h a b) ?_
  simp only [laws_eqTurn_self, Option.bind_some, bne_self_eq_false, Bool.false_eq_true, if_false, if_true]
  exact Ev.now _

end Go.Proofs.Ythhienjfgcjleaa.Pure
