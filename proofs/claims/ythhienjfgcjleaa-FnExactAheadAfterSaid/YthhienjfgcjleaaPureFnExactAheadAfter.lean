/- FnExactAheadAfter of the program answers as the reference does, whatever is given: the pure part of the proof. No condition. -/
import Derived.Test.YthhienjfgcjleaaPFnExactAheadAfterx0
import Derived.Test.YthhienjfgcjleaaPFnExactAheadAfterx1
import Derived.Test.YthhienjfgcjleaaPFnExactAheadAfterx2
import Derived.Test.YthhienjfgcjleaaPFnExactAheadAfterx3
import Derived.Test.YthhienjfgcjleaaPFnExactAheadAfterx4
import Derived.Test.YthhienjfgcjleaaMath
set_option linter.unusedVariables false
set_option linter.unusedSimpArgs false
namespace Go.Proofs.Ythhienjfgcjleaa.Pure
open Go.RowKit Go.Proofs.Ythhienjfgcjleaa.PFnExactAheadAfter Go.Proofs.YthhienjfgcjleaaW.PrintWords Go.Proofs.YthhienjfgcjleaaW.PrintLast Go.Proofs.YthhienjfgcjleaaW.PrintMore Go.Proofs.Ythhienjfgcjleaa.Math

/-! spec_l1In -/
theorem spec_l1In_eq (a b c : Int) : spec_l1In.f a b c = some (decide (b ≤ a ∧ a ≤ c)) := by
  unfold spec_l1In.f
  by_cases h : a ≥ b
  · rw [if_pos h]; simp [show b ≤ a from h]
  · rw [if_neg h]; simp [show ¬ b ≤ a from h]

/-! spec_diCommon -/
theorem spec_diCommon_l0 : ∀ (n : Nat) (a b : Int), 0 ≤ a → 0 ≤ b → b < n → Ev (fun k => spec_diCommon.l0 k a b) (Int.gcd a b : Int) := by
  intro n
  induction n with
  | zero => intro a b _ h1 h2; omega
  | succ n ih =>
    intro a b ha hb hn
    by_cases h : b = 0
    · subst h
      refine Ev.step (f := fun _ => some a) (fun k => ?_) ?_
      · simp only [spec_diCommon.l0]
        rw [if_neg (by omega)]
      · rw [gcd_zero ha]; exact Ev.now a
    · have h1 := tmod_range ha (show 0 < b by omega)
      refine Ev.step (f := fun k => spec_diCommon.l0 k b (Int.tmod a b)) (fun k => ?_) ?_
      · simp only [spec_diCommon.l0]
        rw [if_pos (by omega), if_neg h]
      · rw [← gcd_step ha (show 0 < b by omega)]
        exact ih b _ (by omega) (by omega) (by omega)
theorem spec_diCommon_ev (a b : Int) (ha : 0 ≤ a) (hb : 0 ≤ b) : Ev (fun k => spec_diCommon.f k a b) (Int.gcd a b : Int) := by
  unfold spec_diCommon.f
  exact spec_diCommon_l0 (b.toNat + 1) a b ha hb (by omega)

/-! spec_diGood -/
theorem spec_diGood_ev (n d : Int) : Ev (fun k => spec_diGood.f k n d) (isT n d) := by
  unfold spec_diGood.f
  simp only [spec_l1In_eq, Option.bind_some]
  by_cases h : 1 ≤ d ∧ d ≤ 1000000
  · refine Ev.pos (by simpa using h) ?_
    rw [wrap_id (by omega) (by omega)]
    by_cases h2 : 0 ≤ n ∧ n ≤ d - 1
    · refine Ev.pos (by simpa using h2) ?_
      refine Ev.bind (spec_diCommon_ev n d (by omega) (by omega)) ?_
      refine Ev.val (Ev.now _) ?_
      unfold isT
      rw [Bool.eq_iff_iff]; simp; omega
    · refine Ev.neg (by simpa using h2) ?_
      refine Ev.val (Ev.now _) ?_
      unfold isT
      rw [Bool.eq_iff_iff]; simp; omega
  · refine Ev.neg (by simpa using h) ?_
    refine Ev.val (Ev.now _) ?_
    unfold isT
    rw [Bool.eq_iff_iff]; simp; omega

/-! spec_drClock -/
theorem spec_drClock_ev (n d a b : Int) : Ev (fun k => spec_drClock.f k n d a b) (isK n d a b) := by
  unfold spec_drClock.f isK isC
  refine Ev.bind (spec_diGood_ev n d) ?_
  simp only [spec_l1In_eq, Option.bind_some]
  cases isT n d
  · exact Ev.val (Ev.now _) (by simp)
  · refine Ev.pos rfl ?_
    by_cases h : d ≤ 1000
    · refine Ev.pos h ?_
      by_cases h2 : 1 ≤ a ∧ a ≤ 1000
      · refine Ev.pos (by simpa using h2) ?_
        by_cases h3 : 1 ≤ b ∧ b ≤ 1000
        · refine Ev.pos (by simpa using h3) ?_
          refine Ev.bind (spec_diCommon_ev a b (by omega) (by omega)) ?_
          refine Ev.val (Ev.now _) ?_
          rw [Bool.eq_iff_iff]; simp; omega
        · refine Ev.neg (by simpa using h3) ?_
          refine Ev.val (Ev.now _) ?_
          rw [Bool.eq_iff_iff]; simp; omega
      · refine Ev.neg (by simpa using h2) ?_
        refine Ev.val (Ev.now _) ?_
        rw [Bool.eq_iff_iff]; simp; omega
    · refine Ev.neg h ?_
      exact Ev.val (Ev.now _) (by simp [h])

/-! spec_drGood -/
theorem spec_drGood_ev (n d : Int) : Ev (fun k => spec_drGood.f k n d) (isS n d) := by
  unfold spec_drGood.f
  simp only [spec_l1In_eq, Option.bind_some]
  by_cases h : 0 ≤ n ∧ n ≤ 1000000
  · refine Ev.pos (by simpa using h) ?_
    by_cases h2 : 1 ≤ d ∧ d ≤ 10000
    · refine Ev.pos (by simpa using h2) ?_
      refine Ev.bind (spec_diCommon_ev n d (by omega) (by omega)) ?_
      refine Ev.val (Ev.now _) ?_
      unfold isS
      rw [Bool.eq_iff_iff]; simp; omega
    · refine Ev.neg (by simpa using h2) ?_
      refine Ev.val (Ev.now _) ?_
      unfold isS
      rw [Bool.eq_iff_iff]; simp; omega
  · refine Ev.neg (by simpa using h) ?_
    refine Ev.val (Ev.now _) ?_
    unfold isS
    rw [Bool.eq_iff_iff]; simp; omega

/-! spec_drTwo -/
theorem spec_drTwo_ev (a b m n c d : Int) : Ev (fun k => spec_drTwo.f k a b m n c d) (isK a b m n && isS c d) := by
  unfold spec_drTwo.f
  refine Ev.bind (spec_drClock_ev a b m n) ?_
  cases isK a b m n
  · exact Ev.neg (by decide) (Ev.now _)
  · exact Ev.pos rfl (Ev.bind (spec_drGood_ev c d) (Ev.now _))

/-! spec_diMake -/
theorem spec_diMake_ev (n d : Int) (hd : 0 < d) (hd' : d ≤ 4000000000000000000) (hn : -4000000000000000000 ≤ n) (hn' : n ≤ 4000000000000000000) : Ev (fun k => spec_diMake.f k n d) (mk ((n : Rat) / d)) := by
  unfold spec_diMake.f
  refine Ev.neg (by omega) ?_
  have h0 := Int.emod_nonneg n (show d ≠ 0 by omega)
  have h1 := Int.emod_lt_of_pos n hd
  obtain ⟨t1, t2⟩ := tmod_bound n d hd
  have e0 : Int.tmod (wrap64 (Int.tmod n d + d)) d = n % d := by
    rw [wrap_id (by omega) (by omega)]; exact tmod_tmod n d hd
  rw [e0]
  refine Ev.bind (spec_diCommon_ev (n % d) d h0 (by omega)) ?_
  have hg := gcd_pos' (n % d) hd
  refine Ev.neg (by omega) ?_
  have e1 := Int.tdiv_eq_ediv_of_nonneg (b := (Int.gcd (n % d) d : Int)) h0
  have e2 := Int.tdiv_eq_ediv_of_nonneg (b := (Int.gcd (n % d) d : Int)) (show 0 ≤ d by omega)
  have b1 := ediv_le' h0 hg
  have b2 := ediv_le' (show 0 ≤ d by omega) hg
  rw [e1, e2, wrap_id (by omega) (by omega), wrap_id (by omega) (by omega)]
  unfold mk
  rw [tn_div n d hd, td_div n d hd]
  by_cases h : d / (Int.gcd (n % d) d : Int) > 1000000
  · rw [if_pos h, if_neg (by omega)]; exact Ev.now _
  · rw [if_neg h, if_pos (by omega)]; exact Ev.now _

/-! spec_drShown -/
theorem spec_drShown_ev (a b m n c d l : Int) (h1 : isK a b m n = true) (h2 : isS c d = true) (hl : 0 ≤ l) (hl' : l ≤ 1) : Ev (fun k => spec_drShown.f k a b m n c d l) (mk ((a : Rat) / b + ((c * (m - l * n) : Int) : Rat) / ((d * n : Int) : Rat))) := by
  obtain ⟨p0, p1, p2, p3, p4⟩ := isK_iff.1 h1
  obtain ⟨r1, r2, r3, r4, _⟩ := isS_iff.1 h2
  have hb := (isC_iff.1 p0).2
  obtain ⟨t1, t2, t3, t4, _⟩ := isT_iff.1 (isC_iff.1 p0).1
  have m0 := mul_bound (a := l) (b := n) (A := 1) (B := 1000) (by omega) (by omega) (by omega) (by omega)
  have m0' := Int.mul_nonneg hl (show 0 ≤ n by omega)
  have m1 := mul_bound (a := c) (b := m - l * n) (A := 1000000) (B := 1000) (by omega) (by omega) (by omega) (by omega)
  have m2 := mul_bound (a := d) (b := n) (A := 10000) (B := 1000) (by omega) (by omega) (by omega) (by omega)
  have m3 := Int.mul_pos (show 0 < d by omega) (show 0 < n by omega)
  have m4 := mul_bound (a := c * (m - l * n)) (b := b) (A := 1000000000) (B := 1000) (by omega) (by omega) (by omega) (by omega)
  have m5 := mul_bound (a := a) (b := d * n) (A := 1000) (B := 10000000) (by omega) (by omega) (by omega) (by omega)
  have m6 := mul_bound (a := d * n) (b := b) (A := 10000000) (B := 1000) (by omega) (by omega) (by omega) (by omega)
  have m7 := Int.mul_pos m3 (show 0 < b by omega)
  unfold spec_drShown.f
  rw [wrap_id (x := l * n) (by omega) (by omega), wrap_id (x := m - l * n) (by omega) (by omega), wrap_id (x := c * (m - l * n)) (by omega) (by omega), wrap_id (x := d * n) (by omega) (by omega), wrap_id (x := c * (m - l * n) * b) (by omega) (by omega), wrap_id (x := a * (d * n)) (by omega) (by omega), wrap_id (x := d * n * b) (by omega) (by omega), wrap_id (by omega) (by omega)]
  rw [Rat.add_comm, ← q_add m3 (show 0 < b by omega)]
  exact Ev.bind (spec_diMake_ev _ _ (by omega) (by omega) (by omega) (by omega)) (Ev.now _)

/-! spec_AheadAfter -/
theorem spec_AheadAfter_ev (a b m n c d : Int) : Ev (fun k => spec_AheadAfter.f k a b m n c d) (vAhead a b m n c d) := by
  unfold spec_AheadAfter.f vAhead
  refine Ev.bind (spec_drTwo_ev a b m n c d) ?_
  cases h1 : isK a b m n
  · exact Ev.neg (by simp) (Ev.now _)
  cases h2 : isS c d
  · exact Ev.neg (by simp) (Ev.now _)
  refine Ev.pos rfl ?_
  refine Ev.bind (spec_drShown_ev a b m n c d 1 h1 h2 (by omega) (by omega)) ?_
  simp only [if_true]
  rw [show m - 1 * n = m - n by omega]
  exact Ev.now _

/-! impl_within -/
theorem impl_within_eq (a b c : Int) : impl_within.f a b c = some (decide (b ≤ a ∧ a ≤ c)) := by
  unfold impl_within.f
  by_cases h : a ≥ b
  · rw [if_pos h]; simp [show b ≤ a from h]
  · rw [if_neg h]; simp [show ¬ b ≤ a from h]

/-! impl_gcd -/
theorem impl_gcd_l0 : ∀ (n : Nat) (a b : Int), 0 ≤ a → a ≤ 9223372036854775807 → 0 ≤ b → b ≤ 9223372036854775807 → b < n → Ev (fun k => impl_gcd.l0 k a b) (Int.gcd a b : Int) := by
  intro n
  induction n with
  | zero => intro a b _ _ h1 _ h2; omega
  | succ n ih =>
    intro a b ha ha' hb hb' hn
    by_cases h : b = 0
    · subst h
      refine Ev.step (f := fun _ => some a) (fun k => ?_) ?_
      · simp only [impl_gcd.l0]
        rw [wrap_id (by omega) (by omega)]
        unfold mx; simp; omega
      · rw [gcd_zero ha]; exact Ev.now a
    · have h1 := tmod_range ha (show 0 < b by omega)
      refine Ev.step (f := fun k => impl_gcd.l0 k b (Int.tmod a b)) (fun k => ?_) ?_
      · simp only [impl_gcd.l0]
        rw [if_neg h]
      · rw [← gcd_step ha (show 0 < b by omega)]
        exact ih b _ (by omega) (by omega) (by omega) (by omega) (by omega)
theorem impl_gcd_ev (a b : Int) (ha : 0 ≤ a) (ha' : a ≤ 9223372036854775807) (hb : 0 ≤ b) (hb' : b ≤ 9223372036854775807) : Ev (fun k => impl_gcd.f k a b) (Int.gcd a b : Int) := by
  unfold impl_gcd.f
  exact impl_gcd_l0 (b.toNat + 1) a b ha ha' hb hb' (by omega)

/-! impl_IsTurn -/
theorem impl_IsTurn_ev (n d : Int) : Ev (fun k => impl_IsTurn.f k n d) (isT n d) := by
  unfold impl_IsTurn.f
  simp only [impl_within_eq, Option.bind_some]
  by_cases h : 1 ≤ d ∧ d ≤ 1000000
  · refine Ev.pos (by simpa using h) ?_
    rw [wrap_id (by omega) (by omega)]
    by_cases h2 : 0 ≤ n ∧ n ≤ d - 1
    · refine Ev.pos (by simpa using h2) ?_
      refine Ev.bind (impl_gcd_ev n d (by omega) (by omega) (by omega) (by omega)) ?_
      refine Ev.val (Ev.now _) ?_
      unfold isT
      rw [Bool.eq_iff_iff]; simp; omega
    · refine Ev.neg (by simpa using h2) ?_
      refine Ev.val (Ev.now _) ?_
      unfold isT
      rw [Bool.eq_iff_iff]; simp; omega
  · refine Ev.neg (by simpa using h) ?_
    refine Ev.val (Ev.now _) ?_
    unfold isT
    rw [Bool.eq_iff_iff]; simp; omega

/-! impl_IsClock -/
theorem impl_IsClock_ev (n d a b : Int) : Ev (fun k => impl_IsClock.f k n d a b) (isK n d a b) := by
  unfold impl_IsClock.f isK isC
  refine Ev.bind (impl_IsTurn_ev n d) ?_
  simp only [impl_within_eq, Option.bind_some]
  cases isT n d
  · exact Ev.val (Ev.now _) (by simp)
  · refine Ev.pos rfl ?_
    by_cases h : d ≤ 1000
    · refine Ev.pos h ?_
      by_cases h2 : 1 ≤ a ∧ a ≤ 1000
      · refine Ev.pos (by simpa using h2) ?_
        by_cases h3 : 1 ≤ b ∧ b ≤ 1000
        · refine Ev.pos (by simpa using h3) ?_
          refine Ev.bind (impl_gcd_ev a b (by omega) (by omega) (by omega) (by omega)) ?_
          refine Ev.val (Ev.now _) ?_
          rw [Bool.eq_iff_iff]; simp; omega
        · refine Ev.neg (by simpa using h3) ?_
          refine Ev.val (Ev.now _) ?_
          rw [Bool.eq_iff_iff]; simp; omega
      · refine Ev.neg (by simpa using h2) ?_
        refine Ev.val (Ev.now _) ?_
        rw [Bool.eq_iff_iff]; simp; omega
    · refine Ev.neg h ?_
      exact Ev.val (Ev.now _) (by simp [h])

/-! impl_IsSpan -/
theorem impl_IsSpan_ev (n d : Int) : Ev (fun k => impl_IsSpan.f k n d) (isS n d) := by
  unfold impl_IsSpan.f
  simp only [impl_within_eq, Option.bind_some]
  by_cases h : 0 ≤ n ∧ n ≤ 1000000
  · refine Ev.pos (by simpa using h) ?_
    by_cases h2 : 1 ≤ d ∧ d ≤ 10000
    · refine Ev.pos (by simpa using h2) ?_
      refine Ev.bind (impl_gcd_ev n d (by omega) (by omega) (by omega) (by omega)) ?_
      refine Ev.val (Ev.now _) ?_
      unfold isS
      rw [Bool.eq_iff_iff]; simp; omega
    · refine Ev.neg (by simpa using h2) ?_
      refine Ev.val (Ev.now _) ?_
      unfold isS
      rw [Bool.eq_iff_iff]; simp; omega
  · refine Ev.neg (by simpa using h) ?_
    refine Ev.val (Ev.now _) ?_
    unfold isS
    rw [Bool.eq_iff_iff]; simp; omega

/-! impl_ifTurn -/
theorem impl_ifTurn_ev (n d : Int) : Ev (fun k => impl_ifTurn.f k n d) (if isT n d = true then (n, d, true) else (0, 0, false)) := by
  unfold impl_ifTurn.f
  refine Ev.bind (impl_IsTurn_ev n d) ?_
  split <;> exact Ev.now _
theorem impl_ifTurn_mk (q : Rat) : Ev (fun k => impl_ifTurn.f k (tn q) (td q)) (mk q) := by
  refine Ev.val (impl_ifTurn_ev _ _) ?_
  unfold mk
  rw [isT_tn]
  simp

/-! impl_floorDiv -/
theorem impl_floorDiv_eq (a b : Int) (hb : 0 < b) (hb' : b ≤ 4000000000000000000) (ha : -4000000000000000000 ≤ a) (ha' : a ≤ 4000000000000000000) : impl_floorDiv.f a b = some (a / b, a % b) := by
  obtain ⟨h1, h2, h3⟩ := floor_of_trunc a b hb
  obtain ⟨h4, h5⟩ := tdiv_bound a b hb
  have h8 := tmod_bound a b hb
  obtain ⟨h6, h7⟩ := ediv_bound a b hb
  unfold impl_floorDiv.f
  rw [if_neg (by omega)]
  by_cases h : Int.tmod a b < 0
  · rw [if_pos h]
    obtain ⟨e1, e2⟩ := h2 h
    rw [wrap_id (x := Int.tdiv a b) (by omega) (by omega), wrap_id (by omega) (by omega), wrap_id (by omega) (by omega), e1, e2]
  · rw [if_neg h]
    obtain ⟨e1, e2⟩ := h3 (by omega)
    rw [wrap_id (by omega) (by omega), e1, e2]

/-! impl_part -/
theorem impl_part_ev (n d : Int) (hd : 0 < d) (hd' : d ≤ 4000000000000000000) (hn : -4000000000000000000 ≤ n) (hn' : n ≤ 4000000000000000000) : Ev (fun k => impl_part.f k n d) (tn ((n : Rat) / d), td ((n : Rat) / d)) := by
  unfold impl_part.f
  rw [impl_floorDiv_eq n d hd hd' hn hn']
  simp only [Option.bind_some]
  have h0 := Int.emod_nonneg n (show d ≠ 0 by omega)
  have h1 := Int.emod_lt_of_pos n hd
  refine Ev.bind (impl_gcd_ev (n % d) d h0 (by omega) (by omega) (by omega)) ?_
  have hg := gcd_pos' (n % d) hd
  refine Ev.neg (by omega) ?_
  have e1 := Int.tdiv_eq_ediv_of_nonneg (b := (Int.gcd (n % d) d : Int)) h0
  have e2 := Int.tdiv_eq_ediv_of_nonneg (b := (Int.gcd (n % d) d : Int)) (show 0 ≤ d by omega)
  have b1 := ediv_le' h0 hg
  have b2 := ediv_le' (show 0 ≤ d by omega) hg
  rw [e1, e2, wrap_id (by omega) (by omega), wrap_id (by omega) (by omega), tn_div n d hd, td_div n d hd]
  exact Ev.now _

/-! impl_Turn_plus -/
theorem impl_Turn_plus_ev (a b c d : Int) (hb : 0 < b) (hd : 0 < d) (hm : b * d ≤ 1000000000000000000) (ha : -b ≤ a) (ha' : a ≤ b) (hc : -d ≤ c) (hc' : c ≤ d) : Ev (fun k => impl_Turn_plus.f k a b c d) (tn ((a : Rat) / b + (c : Rat) / d), td ((a : Rat) / b + (c : Rat) / d)) := by
  have m1 := mul_bound (a := a) (b := d) (A := b) (B := d) (by omega) (by omega) (by omega) (by omega)
  have m2 := mul_bound (a := c) (b := b) (A := d) (B := b) (by omega) (by omega) (by omega) (by omega)
  have m3 := Int.mul_pos hb hd
  rw [Int.mul_comm d b] at m2
  unfold impl_Turn_plus.f
  rw [wrap_id (x := a * d) (by omega) (by omega), wrap_id (x := c * b) (by omega) (by omega), wrap_id (x := b * d) (by omega) (by omega), wrap_id (by omega) (by omega)]
  rw [← q_add hb hd]
  exact Ev.bind (impl_part_ev _ _ (by omega) (by omega) (by omega) (by omega)) (Ev.now _)
theorem impl_Turn_plus_fr (p q : Rat) (hm : td p * td q ≤ 1000000000000000000) : Ev (fun k => impl_Turn_plus.f k (tn p) (td p) (tn q) (td q)) (tn (p + q), td (p + q)) := by
  have h1 := tn_nonneg p
  have h2 := tn_lt p
  have h3 := tn_nonneg q
  have h4 := tn_lt q
  refine Ev.val (impl_Turn_plus_ev _ _ _ _ (td_pos p) (td_pos q) hm (by omega) (by omega) (by omega) (by omega)) ?_
  rw [tn_td, tn_td]
  exact tt_of_fr (fr_plus p q)

/-! impl_AheadAfter -/
theorem impl_AheadAfter_ev (a b m n c d : Int) : Ev (fun k => impl_AheadAfter.f k a b m n c d) (vAhead a b m n c d) := by
  unfold impl_AheadAfter.f vAhead
  have no : Ev (fun k => impl_AheadAfter.j0 k true a b m n c d) (0, 0, false) := by
    refine Ev.step (f := fun _ => some (0, 0, false)) (fun k => ?_) (Ev.now _)
    simp only [impl_AheadAfter.j0]; rfl
  refine Ev.bind (impl_IsClock_ev a b m n) ?_
  cases h1 : isK a b m n
  · exact Ev.neg (by decide) no
  refine Ev.pos rfl ?_
  refine Ev.bind (impl_IsSpan_ev c d) ?_
  cases h2 : isS c d
  · exact no
  obtain ⟨p0, p1, p2, p3, p4⟩ := isK_iff.1 h1
  obtain ⟨r1, r2, r3, r4, _⟩ := isS_iff.1 h2
  obtain ⟨e1, e2⟩ := isT_canon (isC_iff.1 p0).1
  have hb := (isC_iff.1 p0).2
  obtain ⟨t1, t2, t3, t4, _⟩ := isT_iff.1 (isC_iff.1 p0).1
  have m2 := mul_bound (a := d) (b := n) (A := 10000) (B := 1000) (by omega) (by omega) (by omega) (by omega)
  have m3 := Int.mul_pos (show 0 < d by omega) (show 0 < n by omega)
  have m1 := mul_bound (a := c) (b := m - n) (A := 1000000) (B := 1000) (by omega) (by omega) (by omega) (by omega)
  refine Ev.step (f := fun k => (impl_part.f k (wrap64 (c * (wrap64 (m - n)))) (wrap64 (d * n))).bind fun bt => ((impl_Turn_plus.f k a b bt.1 bt.2).bind fun bt => ((impl_ifTurn.f k bt.1 bt.2).bind fun bt => (some (bt.1, bt.2.1, bt.2.2))))) (fun k => ?_) ?_
  · simp only [impl_AheadAfter.j0]; simp
  rw [wrap_id (x := m - n) (by omega) (by omega), wrap_id (x := c * (m - n)) (by omega) (by omega), wrap_id (x := d * n) (by omega) (by omega)]
  refine Ev.bind (impl_part_ev _ _ (by omega) (by omega) (by omega) (by omega)) ?_
  have hle := td_div_le (c * (m - n)) (d * n) m3
  have hp := td_pos (((c * (m - n) : Int) : Rat) / ((d * n : Int) : Rat))
  have m4 := mul_bound (a := td ((a : Rat) / b)) (b := td (((c * (m - n) : Int) : Rat) / ((d * n : Int) : Rat))) (A := 1000000) (B := 10000000) (by omega) (by omega) (by omega) (by omega)
  have hpl := impl_Turn_plus_fr ((a : Rat) / b) (((c * (m - n) : Int) : Rat) / ((d * n : Int) : Rat)) (by omega)
  rw [e1, e2] at hpl
  refine Ev.bind hpl ?_
  exact Ev.bind (impl_ifTurn_mk _) (Ev.now _)

/-! laws_eqTurn -/
theorem laws_eqTurn_self (a b : Int) : laws_eqTurn.f a b a b = some true := by
  unfold laws_eqTurn.f; rw [if_pos rfl, if_pos rfl]

/-! laws_FnExactAheadAfter -/
theorem FnExactAheadAfter : laws_FnExactAheadAfter.Pure := by
  intro a b m n c d _ _ _ _ _ _
  apply Ev.rounds (g := fun k => laws_FnExactAheadAfter.f k a b m n c d)
  unfold laws_FnExactAheadAfter.f laws_toClock.f laws_toTurn.f laws_toSpan.f
  simp only [Option.bind_some]
  refine Ev.bind (spec_AheadAfter_ev a b m n c d) ?_
  refine Ev.bind (impl_AheadAfter_ev a b m n c d) ?_
  simp only [laws_eqTurn_self, Option.bind_some, bne_self_eq_false, Bool.false_eq_true, if_false, if_true]
  exact Ev.now _

end Go.Proofs.Ythhienjfgcjleaa.Pure
