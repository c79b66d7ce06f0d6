/- FnExactHandAt of the program answers as the reference does, whatever is given: the pure part of the proof. No condition. -/
import Derived.Test.YtodjlnpopaodoaaPFnExactHandAtx0
import Derived.Test.YtodjlnpopaodoaaPFnExactHandAtx1
import Derived.Test.YtodjlnpopaodoaaPFnExactHandAtx2
import Derived.Test.YtodjlnpopaodoaaPFnExactHandAtx3
import Derived.Test.YtodjlnpopaodoaaMath
set_option linter.unusedVariables false
set_option linter.unusedSimpArgs false
namespace Go.Proofs.Ytodjlnpopaodoaa.Pure
open Go.RowKit Go.Proofs.Ytodjlnpopaodoaa.PFnExactHandAt Go.Proofs.YtodjlnpopaodoaaW.PrintWords Go.Proofs.YtodjlnpopaodoaaW.PrintLast Go.Proofs.YtodjlnpopaodoaaW.PrintMore Go.Proofs.Ytodjlnpopaodoaa.Math

/-! laws_eqTurn -/
theorem laws_eqTurn_self (a b : Int) : laws_eqTurn.f a b a b = some true := by
  unfold laws_eqTurn.f; rw [if_pos rfl, if_pos rfl]

/-! spec_l1In -/
theorem spec_l1In_eq (a b c : Int) : spec_l1In.f a b c = some (decide (b ≤ a ∧ a ≤ c)) := by
  unfold spec_l1In.f
  by_cases h : a ≥ b
  · rw [if_pos h]; simp [show b ≤ a from h]
  · rw [if_neg h]; simp [show ¬ b ≤ a from h]

/-! spec_diCommon -/
theorem spec_diCommon_l0 : ∀ (n : Nat) (a b : Int), 0 ≤ a → 0 ≤ b → b < n → Ev (fun k => spec_diCommon.l0 k a b) (Int.gcd a b : Int) := by
  intro n
  induction n with
  | zero => intro a b _ h1 h2; omega
  | succ n ih =>
    intro a b ha hb hn
    by_cases h : b = 0
    · subst h
      refine Ev.step (f := fun _ => some a) (fun k => ?_) ?_
      · simp only [spec_diCommon.l0]
        rw [if_neg (by omega)]
      · rw [gcd_zero ha]; exact Ev.now a
    · have h1 := tmod_range ha (show 0 < b by omega)
      refine Ev.step (f := fun k => spec_diCommon.l0 k b (Int.tmod a b)) (fun k => ?_) ?_
      · simp only [spec_diCommon.l0]
        rw [if_pos (by omega), if_neg h]
      · rw [← gcd_step ha (show 0 < b by omega)]
        exact ih b _ (by omega) (by omega) (by omega)
theorem spec_diCommon_ev (a b : Int) (ha : 0 ≤ a) (hb : 0 ≤ b) : Ev (fun k => spec_diCommon.f k a b) (Int.gcd a b : Int) := by
  unfold spec_diCommon.f
  exact spec_diCommon_l0 (b.toNat + 1) a b ha hb (by omega)

/-! spec_diGood -/
theorem spec_diGood_ev (n d : Int) : Ev (fun k => spec_diGood.f k n d) (isT n d) := by
  unfold spec_diGood.f
  simp only [spec_l1In_eq, Option.bind_some]
  by_cases h : 1 ≤ d ∧ d ≤ 1000000
  · refine Ev.pos (by simpa using h) ?_
    rw [wrap_id (by omega) (by omega)]
    by_cases h2 : 0 ≤ n ∧ n ≤ d - 1
    · refine Ev.pos (by simpa using h2) ?_
      refine Ev.bind (spec_diCommon_ev n d (by omega) (by omega)) ?_
      refine Ev.val (Ev.now _) ?_
      unfold isT
      rw [Bool.eq_iff_iff]; simp; omega
    · refine Ev.neg (by simpa using h2) ?_
      refine Ev.val (Ev.now _) ?_
      unfold isT
      rw [Bool.eq_iff_iff]; simp; omega
  · refine Ev.neg (by simpa using h) ?_
    refine Ev.val (Ev.now _) ?_
    unfold isT
    rw [Bool.eq_iff_iff]; simp; omega

/-! spec_meGood -/
theorem spec_meGood_ev (n d s : Int) : Ev (fun k => spec_meGood.f k n d s) (isH n d s) := by
  unfold spec_meGood.f isH isC
  refine Ev.bind (spec_diGood_ev n d) ?_
  simp only [spec_l1In_eq, Option.bind_some]
  cases isT n d
  · exact Ev.val (Ev.now _) (by simp)
  · by_cases h : d ≤ 1000
    · refine Ev.pos rfl (Ev.pos h ?_)
      exact Ev.val (Ev.now _) (by simp [h])
    · refine Ev.pos rfl (Ev.neg h ?_)
      exact Ev.val (Ev.now _) (by simp [h])

/-! spec_diMake -/
theorem spec_diMake_ev (n d : Int) (hd : 0 < d) (hd' : d ≤ 4000000000000000000) (hn : -4000000000000000000 ≤ n) (hn' : n ≤ 4000000000000000000) : Ev (fun k => spec_diMake.f k n d) (mk ((n : Rat) / d)) := by
  unfold spec_diMake.f
  refine Ev.neg (by omega) ?_
  have h0 := Int.emod_nonneg n (show d ≠ 0 by omega)
  have h1 := Int.emod_lt_of_pos n hd
  obtain ⟨t1, t2⟩ := tmod_bound n d hd
  have e0 : Int.tmod (wrap64 (Int.tmod n d + d)) d = n % d := by
    rw [wrap_id (by omega) (by omega)]; exact tmod_tmod n d hd
  rw [e0]
  refine Ev.bind (spec_diCommon_ev (n % d) d h0 (by omega)) ?_
  have hg := gcd_pos' (n % d) hd
  refine Ev.neg (by omega) ?_
  have e1 := Int.tdiv_eq_ediv_of_nonneg (b := (Int.gcd (n % d) d : Int)) h0
  have e2 := Int.tdiv_eq_ediv_of_nonneg (b := (Int.gcd (n % d) d : Int)) (show 0 ≤ d by omega)
  have b1 := ediv_le' h0 hg
  have b2 := ediv_le' (show 0 ≤ d by omega) hg
  rw [e1, e2, wrap_id (by omega) (by omega), wrap_id (by omega) (by omega)]
  unfold mk
  rw [tn_div n d hd, td_div n d hd]
  by_cases h : d / (Int.gcd (n % d) d : Int) > 1000000
  · rw [if_pos h, if_neg (by omega)]; exact Ev.now _
  · rw [if_neg h, if_pos (by omega)]; exact Ev.now _

/-! spec_diAdd -/
theorem spec_diAdd_ev (a b c d t : Int) (hb : 0 < b) (hd : 0 < d) (hm : b * d ≤ 1000000000000000) (ha : -b ≤ a) (ha' : a ≤ b) (hc : -d ≤ c) (hc' : c ≤ d) (ht : -1000 ≤ t) (ht' : t ≤ 1000) : Ev (fun k => spec_diAdd.f k a b c d t) (mk ((a : Rat) / b + t * ((c : Rat) / d))) := by
  have m1 := mul_bound (a := a) (b := d) (A := b) (B := d) (by omega) (by omega) (by omega) (by omega)
  have m2 := mul_bound (a := t) (b := c) (A := 1000) (B := d) (by omega) (by omega) (by omega) (by omega)
  have m4 := mul_bound (a := t * c) (b := b) (A := 1000 * d) (B := b) (by omega) (by omega) (by omega) (by omega)
  have m3 := Int.mul_pos hb hd
  have m5 : d ≤ b * d := by have := Int.mul_le_mul_of_nonneg_right (show 1 ≤ b by omega) (show 0 ≤ d by omega); omega
  rw [Int.mul_assoc, Int.mul_comm d b] at m4
  unfold spec_diAdd.f
  rw [wrap_id (x := a * d) (by omega) (by omega), wrap_id (x := t * c) (by omega) (by omega), wrap_id (x := t * c * b) (by omega) (by omega), wrap_id (x := b * d) (by omega) (by omega), wrap_id (by omega) (by omega)]
  rw [← q_add_mul hb hd]
  exact Ev.bind (spec_diMake_ev _ _ (by omega) (by omega) (by omega) (by omega)) (Ev.now _)
theorem spec_diAdd_T (a b c d t : Int) (h1 : isT a b = true) (h2 : isT c d = true) (ht : -1000 ≤ t) (ht' : t ≤ 1000) : Ev (fun k => spec_diAdd.f k a b c d t) (mk ((a : Rat) / b + t * ((c : Rat) / d))) := by
  obtain ⟨p1, p2, p3, p4, _⟩ := isT_iff.1 h1
  obtain ⟨r1, r2, r3, r4, _⟩ := isT_iff.1 h2
  have m3 := mul_bound (a := b) (b := d) (A := 1000000) (B := 1000000) (by omega) (by omega) (by omega) (by omega)
  exact spec_diAdd_ev a b c d t (by omega) (by omega) (by omega) (by omega) (by omega) (by omega) (by omega) ht ht'

/-! spec_meAt -/
theorem spec_meAt_ev (a b s c d : Int) (h1 : isT a b = true) (h2 : isT c d = true) (h0 : -1000 ≤ s) (h3 : s ≤ 1000) : Ev (fun k => spec_meAt.f k a b s c d) (mk ((a : Rat) / b + s * ((c : Rat) / d))) := by
  unfold spec_meAt.f
  exact Ev.bind (spec_diAdd_T a b c d s h1 h2 h0 h3) (Ev.now _)

/-! spec_HandAt -/
theorem spec_HandAt_ev (a b s c d : Int) : Ev (fun k => spec_HandAt.f k a b s c d) (vHandAt a b s c d) := by
  unfold spec_HandAt.f vHandAt
  refine Ev.bind (spec_meGood_ev a b s) ?_
  cases h1 : isH a b s
  · exact Ev.neg (by decide) (Ev.now _)
  refine Ev.pos rfl ?_
  refine Ev.bind (spec_diGood_ev c d) ?_
  cases h2 : isT c d
  · exact Ev.neg (by decide) (Ev.now _)
  refine Ev.pos rfl ?_
  have ht := (isC_iff.1 (isH_iff.1 h1).1).1
  obtain ⟨s1, s2⟩ := isH_speed h1
  exact Ev.bind (spec_meAt_ev a b s c d ht h2 (by omega) (by omega)) (Ev.now _)

/-! impl_within -/
theorem impl_within_eq (a b c : Int) : impl_within.f a b c = some (decide (b ≤ a ∧ a ≤ c)) := by
  unfold impl_within.f
  by_cases h : a ≥ b
  · rw [if_pos h]; simp [show b ≤ a from h]
  · rw [if_neg h]; simp [show ¬ b ≤ a from h]

/-! impl_gcd -/
theorem impl_gcd_l0 : ∀ (n : Nat) (a b : Int), 0 ≤ a → a ≤ 9223372036854775807 → 0 ≤ b → b ≤ 9223372036854775807 → b < n → Ev (fun k => impl_gcd.l0 k a b) (Int.gcd a b : Int) := by
  intro n
  induction n with
  | zero => intro a b _ _ h1 _ h2; omega
  | succ n ih =>
    intro a b ha ha' hb hb' hn
    by_cases h : b = 0
    · subst h
      refine Ev.step (f := fun _ => some a) (fun k => ?_) ?_
      · simp only [impl_gcd.l0]
        rw [wrap_id (by omega) (by omega)]
        unfold mx; simp; omega
      · rw [gcd_zero ha]; exact Ev.now a
    · have h1 := tmod_range ha (show 0 < b by omega)
      refine Ev.step (f := fun k => impl_gcd.l0 k b (Int.tmod a b)) (fun k => ?_) ?_
      · simp only [impl_gcd.l0]
        rw [if_neg h]
      · rw [← gcd_step ha (show 0 < b by omega)]
        exact ih b _ (by omega) (by omega) (by omega) (by omega) (by omega)
theorem impl_gcd_ev (a b : Int) (ha : 0 ≤ a) (ha' : a ≤ 9223372036854775807) (hb : 0 ≤ b) (hb' : b ≤ 9223372036854775807) : Ev (fun k => impl_gcd.f k a b) (Int.gcd a b : Int) := by
  unfold impl_gcd.f
  exact impl_gcd_l0 (b.toNat + 1) a b ha ha' hb hb' (by omega)

/-! impl_IsTurn -/
theorem impl_IsTurn_ev (n d : Int) : Ev (fun k => impl_IsTurn.f k n d) (isT n d) := by
  unfold impl_IsTurn.f
  simp only [impl_within_eq, Option.bind_some]
  by_cases h : 1 ≤ d ∧ d ≤ 1000000
  · refine Ev.pos (by simpa using h) ?_
    rw [wrap_id (by omega) (by omega)]
    by_cases h2 : 0 ≤ n ∧ n ≤ d - 1
    · refine Ev.pos (by simpa using h2) ?_
      refine Ev.bind (impl_gcd_ev n d (by omega) (by omega) (by omega) (by omega)) ?_
      refine Ev.val (Ev.now _) ?_
      unfold isT
      rw [Bool.eq_iff_iff]; simp; omega
    · refine Ev.neg (by simpa using h2) ?_
      refine Ev.val (Ev.now _) ?_
      unfold isT
      rw [Bool.eq_iff_iff]; simp; omega
  · refine Ev.neg (by simpa using h) ?_
    refine Ev.val (Ev.now _) ?_
    unfold isT
    rw [Bool.eq_iff_iff]; simp; omega

/-! impl_ifTurn -/
theorem impl_ifTurn_ev (n d : Int) : Ev (fun k => impl_ifTurn.f k n d) (if isT n d = true then (n, d, true) else (0, 0, false)) := by
  unfold impl_ifTurn.f
  refine Ev.bind (impl_IsTurn_ev n d) ?_
  split <;> exact Ev.now _
theorem impl_ifTurn_mk (q : Rat) : Ev (fun k => impl_ifTurn.f k (tn q) (td q)) (mk q) := by
  refine Ev.val (impl_ifTurn_ev _ _) ?_
  unfold mk
  rw [isT_tn]
  simp

/-! impl_isCoarse -/
theorem impl_isCoarse_ev (n d : Int) : Ev (fun k => impl_isCoarse.f k n d) (isC n d) := by
  unfold impl_isCoarse.f isC
  refine Ev.bind (impl_IsTurn_ev n d) ?_
  cases isT n d
  · exact Ev.val (Ev.now _) (by simp)
  · exact Ev.val (Ev.now _) (by simp)

/-! impl_IsHand -/
theorem impl_IsHand_ev (n d s : Int) : Ev (fun k => impl_IsHand.f k n d s) (isH n d s) := by
  unfold impl_IsHand.f isH
  refine Ev.bind (impl_isCoarse_ev n d) ?_
  simp only [impl_within_eq, Option.bind_some]
  cases isC n d
  · exact Ev.val (Ev.now _) (by simp)
  · exact Ev.val (Ev.now _) (by simp)

/-! impl_floorDiv -/
theorem impl_floorDiv_eq (a b : Int) (hb : 0 < b) (hb' : b ≤ 4000000000000000000) (ha : -4000000000000000000 ≤ a) (ha' : a ≤ 4000000000000000000) : impl_floorDiv.f a b = some (a / b, a % b) := by
  obtain ⟨h1, h2, h3⟩ := floor_of_trunc a b hb
  obtain ⟨h4, h5⟩ := tdiv_bound a b hb
  have h8 := tmod_bound a b hb
  obtain ⟨h6, h7⟩ := ediv_bound a b hb
  unfold impl_floorDiv.f
  rw [if_neg (by omega)]
  by_cases h : Int.tmod a b < 0
  · rw [if_pos h]
    obtain ⟨e1, e2⟩ := h2 h
    rw [wrap_id (x := Int.tdiv a b) (by omega) (by omega), wrap_id (by omega) (by omega), wrap_id (by omega) (by omega), e1, e2]
  · rw [if_neg h]
    obtain ⟨e1, e2⟩ := h3 (by omega)
    rw [wrap_id (by omega) (by omega), e1, e2]

/-! impl_part -/
theorem impl_part_ev (n d : Int) (hd : 0 < d) (hd' : d ≤ 4000000000000000000) (hn : -4000000000000000000 ≤ n) (hn' : n ≤ 4000000000000000000) : Ev (fun k => impl_part.f k n d) (tn ((n : Rat) / d), td ((n : Rat) / d)) := by
  unfold impl_part.f
  rw [impl_floorDiv_eq n d hd hd' hn hn']
  simp only [Option.bind_some]
  have h0 := Int.emod_nonneg n (show d ≠ 0 by omega)
  have h1 := Int.emod_lt_of_pos n hd
  refine Ev.bind (impl_gcd_ev (n % d) d h0 (by omega) (by omega) (by omega)) ?_
  have hg := gcd_pos' (n % d) hd
  refine Ev.neg (by omega) ?_
  have e1 := Int.tdiv_eq_ediv_of_nonneg (b := (Int.gcd (n % d) d : Int)) h0
  have e2 := Int.tdiv_eq_ediv_of_nonneg (b := (Int.gcd (n % d) d : Int)) (show 0 ≤ d by omega)
  have b1 := ediv_le' h0 hg
  have b2 := ediv_le' (show 0 ≤ d by omega) hg
  rw [e1, e2, wrap_id (by omega) (by omega), wrap_id (by omega) (by omega), tn_div n d hd, td_div n d hd]
  exact Ev.now _

/-! impl_Turn_times -/
theorem impl_Turn_times_ev (a b k : Int) (hb : 0 < b) (hb' : b ≤ 4000000000000000000) (h0 : -4000000000000000000 ≤ a * k) (h1 : a * k ≤ 4000000000000000000) : Ev (fun n => impl_Turn_times.f n a b k) (tn (k * ((a : Rat) / b)), td (k * ((a : Rat) / b))) := by
  unfold impl_Turn_times.f
  rw [wrap_id (by omega) (by omega), ← q_mul hb]
  exact Ev.bind (impl_part_ev _ _ hb hb' h0 h1) (Ev.now _)
theorem impl_Turn_times_fr (p : Rat) (k : Int) (hp : td p ≤ 10000000000) (h0 : -100000 ≤ k) (h1 : k ≤ 100000) : Ev (fun n => impl_Turn_times.f n (tn p) (td p) k) (tn (k * p), td (k * p)) := by
  have h2 := tn_nonneg p
  have h3 := tn_lt p
  have m1 := mul_bound (a := tn p) (b := k) (A := 10000000000) (B := 100000) (by omega) (by omega) h0 h1
  refine Ev.val (impl_Turn_times_ev _ _ k (td_pos p) (by omega) (by omega) (by omega)) ?_
  rw [tn_td]
  exact tt_of_fr (fr_mul_fr k p)
theorem impl_Turn_times_T (a b k : Int) (h : isT a b = true) (h0 : -100000 ≤ k) (h1 : k ≤ 100000) : Ev (fun n => impl_Turn_times.f n a b k) (tn (k * ((a : Rat) / b)), td (k * ((a : Rat) / b))) := by
  obtain ⟨p1, p2, p3, p4, _⟩ := isT_iff.1 h
  have m1 := mul_bound (a := a) (b := k) (A := 1000000) (B := 100000) (by omega) (by omega) h0 h1
  exact impl_Turn_times_ev a b k (by omega) (by omega) (by omega) (by omega)

/-! impl_Turn_plus -/
theorem impl_Turn_plus_ev (a b c d : Int) (hb : 0 < b) (hd : 0 < d) (hm : b * d ≤ 1000000000000000000) (ha : -b ≤ a) (ha' : a ≤ b) (hc : -d ≤ c) (hc' : c ≤ d) : Ev (fun k => impl_Turn_plus.f k a b c d) (tn ((a : Rat) / b + (c : Rat) / d), td ((a : Rat) / b + (c : Rat) / d)) := by
  have m1 := mul_bound (a := a) (b := d) (A := b) (B := d) (by omega) (by omega) (by omega) (by omega)
  have m2 := mul_bound (a := c) (b := b) (A := d) (B := b) (by omega) (by omega) (by omega) (by omega)
  have m3 := Int.mul_pos hb hd
  rw [Int.mul_comm d b] at m2
  unfold impl_Turn_plus.f
  rw [wrap_id (x := a * d) (by omega) (by omega), wrap_id (x := c * b) (by omega) (by omega), wrap_id (x := b * d) (by omega) (by omega), wrap_id (by omega) (by omega)]
  rw [← q_add hb hd]
  exact Ev.bind (impl_part_ev _ _ (by omega) (by omega) (by omega) (by omega)) (Ev.now _)
theorem impl_Turn_plus_fr (p q : Rat) (hm : td p * td q ≤ 1000000000000000000) : Ev (fun k => impl_Turn_plus.f k (tn p) (td p) (tn q) (td q)) (tn (p + q), td (p + q)) := by
  have h1 := tn_nonneg p
  have h2 := tn_lt p
  have h3 := tn_nonneg q
  have h4 := tn_lt q
  refine Ev.val (impl_Turn_plus_ev _ _ _ _ (td_pos p) (td_pos q) hm (by omega) (by omega) (by omega) (by omega)) ?_
  rw [tn_td, tn_td]
  exact tt_of_fr (fr_plus p q)

/-! impl_Hand_at -/
theorem impl_Hand_at_ev (p q : Rat) (s : Int) (hp : td p * td (s * q) ≤ 1000000000000000000) (hq : td q ≤ 10000000000) (h0 : -100000 ≤ s) (h1 : s ≤ 100000) : Ev (fun k => impl_Hand_at.f k (tn p) (td p) s (tn q) (td q)) (tn (p + s * q), td (p + s * q)) := by
  unfold impl_Hand_at.f
  refine Ev.bind (impl_Turn_times_fr q s hq h0 h1) ?_
  exact Ev.bind (impl_Turn_plus_fr p (s * q) hp) (Ev.now _)
theorem impl_Hand_at_T (a b s c d : Int) (h1 : isT a b = true) (h2 : isT c d = true) (h0 : -1000 ≤ s) (h3 : s ≤ 1000) : Ev (fun k => impl_Hand_at.f k a b s c d) (tn ((a : Rat) / b + s * ((c : Rat) / d)), td ((a : Rat) / b + s * ((c : Rat) / d))) := by
  obtain ⟨e1, e2⟩ := isT_canon h1
  obtain ⟨e3, e4⟩ := isT_canon h2
  obtain ⟨p1, p2, p3, p4, _⟩ := isT_iff.1 h1
  obtain ⟨r1, r2, r3, r4, _⟩ := isT_iff.1 h2
  have hq : td ((s : Rat) * ((c : Rat) / d)) ≤ 1000000 := Int.le_trans (td_mul_le (show 0 < d by omega)) r2
  have hq' := td_pos ((s : Rat) * ((c : Rat) / d))
  have := impl_Hand_at_ev ((a : Rat) / b) ((c : Rat) / d) s (by
    have m3 := mul_bound (a := td ((a : Rat) / b)) (b := td ((s : Rat) * ((c : Rat) / d))) (A := 1000000) (B := 1000000) (by omega) (by omega) (by omega) (by omega)
    omega) (by omega) (by omega) (by omega)
  rwa [e1, e2, e3, e4] at this

/-! impl_HandAt -/
theorem impl_HandAt_ev (a b s c d : Int) : Ev (fun k => impl_HandAt.f k a b s c d) (vHandAt a b s c d) := by
  unfold impl_HandAt.f vHandAt
  have no : Ev (fun k => impl_HandAt.j0 k true a b s c d) (0, 0, false) := by
    refine Ev.step (f := fun _ => some (0, 0, false)) (fun k => ?_) (Ev.now _)
    simp only [impl_HandAt.j0]; rfl
  refine Ev.bind (impl_IsHand_ev a b s) ?_
  cases h1 : isH a b s
  · exact Ev.neg (by decide) no
  refine Ev.pos rfl ?_
  refine Ev.bind (impl_IsTurn_ev c d) ?_
  cases h2 : isT c d
  · exact no
  have ht := (isC_iff.1 (isH_iff.1 h1).1).1
  obtain ⟨s1, s2⟩ := isH_speed h1
  refine Ev.step (f := fun k => (impl_Hand_at.f k a b s c d).bind fun bt => ((impl_ifTurn.f k bt.1 bt.2).bind fun bt => (some (bt.1, bt.2.1, bt.2.2)))) (fun k => ?_) ?_
  · simp only [impl_HandAt.j0]; simp
  refine Ev.bind (impl_Hand_at_T a b s c d ht h2 (by omega) (by omega)) ?_
  exact Ev.bind (impl_ifTurn_mk _) (Ev.now _)

/-! laws_FnExactHandAt -/
theorem FnExactHandAt : laws_FnExactHandAt.Pure := by
  intro a b s c d _ _ _ _ _
  apply Ev.rounds (g := fun k => laws_FnExactHandAt.f k a b s c d)
  unfold laws_FnExactHandAt.f laws_toHand.f laws_toTurn.f
  simp only [Option.bind_some]
  refine Ev.bind (spec_HandAt_ev a b s c d) ?_
  refine Ev.bind (impl_HandAt_ev a b s c d) ?_
  simp only [laws_eqTurn_self, Option.bind_some, bne_self_eq_false, Bool.false_eq_true, if_false, if_true]
  exact Ev.now _

end Go.Proofs.Ytodjlnpopaodoaa.Pure
