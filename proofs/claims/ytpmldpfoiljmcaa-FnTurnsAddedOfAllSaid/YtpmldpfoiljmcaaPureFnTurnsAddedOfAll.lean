/- FnTurnsAddedOfAll of the program answers as the reference does, whatever is given: the pure part of the proof. No condition. -/
import Derived.Test.YtpmldpfoiljmcaaPFnTurnsAddedOfAllx0
import Derived.Test.YtpmldpfoiljmcaaPFnTurnsAddedOfAllx1
import Derived.Test.YtpmldpfoiljmcaaPFnTurnsAddedOfAllx2
import Derived.Test.YtpmldpfoiljmcaaPFnTurnsAddedOfAllx3
import Derived.Test.YtpmldpfoiljmcaaPFnTurnsAddedOfAllx4
import Derived.Test.YtpmldpfoiljmcaaPFnTurnsAddedOfAllx5
import Derived.Test.YtpmldpfoiljmcaaPFnTurnsAddedOfAllx6c
import Derived.Test.YtpmldpfoiljmcaaPFnTurnsAddedOfAllx6
import Derived.Test.YtpmldpfoiljmcaaMath
set_option linter.unusedVariables false
set_option linter.unusedSimpArgs false
namespace Go.Proofs.Ytpmldpfoiljmcaa.Pure
open Go.RowKit Go.Proofs.Ytpmldpfoiljmcaa.PFnTurnsAddedOfAll Go.Proofs.YtpmldpfoiljmcaaW.PrintWords Go.Proofs.YtpmldpfoiljmcaaW.PrintLast Go.Proofs.YtpmldpfoiljmcaaW.PrintMore Go.Proofs.Ytpmldpfoiljmcaa.Math

/-! impl_within -/
theorem impl_within_eq (a b c : Int) : impl_within.f a b c = some (decide (b ≤ a ∧ a ≤ c)) := by
  unfold impl_within.f
  by_cases h : a ≥ b
  · rw [if_pos h]; simp [show b ≤ a from h]
  · rw [if_neg h]; simp [show ¬ b ≤ a from h]

/-! impl_gcd -/
theorem impl_gcd_l0 : ∀ (n : Nat) (a b : Int), 0 ≤ a → a ≤ 9223372036854775807 → 0 ≤ b → b ≤ 9223372036854775807 → b < n → Ev (fun k => impl_gcd.l0 k a b) (Int.gcd a b : Int) := by
  intro n
  induction n with
  | zero => intro a b _ _ h1 _ h2; omega
  | succ n ih =>
    intro a b ha ha' hb hb' hn
    by_cases h : b = 0
    · subst h
      refine Ev.step (f := fun _ => some a) (fun k => ?_) ?_
      · simp only [impl_gcd.l0]
        rw [wrap_id (by omega) (by omega)]
        unfold mx; simp; omega
      · rw [gcd_zero ha]; exact Ev.now a
    · have h1 := tmod_range ha (show 0 < b by omega)
      refine Ev.step (f := fun k => impl_gcd.l0 k b (Int.tmod a b)) (fun k => ?_) ?_
      · simp only [impl_gcd.l0]
        rw [if_neg h]
      · rw [← gcd_step ha (show 0 < b by omega)]
        exact ih b _ (by omega) (by omega) (by omega) (by omega) (by omega)
theorem impl_gcd_ev (a b : Int) (ha : 0 ≤ a) (ha' : a ≤ 9223372036854775807) (hb : 0 ≤ b) (hb' : b ≤ 9223372036854775807) : Ev (fun k => impl_gcd.f k a b) (Int.gcd a b : Int) := by
  unfold impl_gcd.f
  exact impl_gcd_l0 (b.toNat + 1) a b ha ha' hb hb' (by omega)

/-! impl_IsTurn -/
theorem impl_IsTurn_ev (n d : Int) : Ev (fun k => impl_IsTurn.f k n d) (isT n d) := by
  unfold impl_IsTurn.f
  simp only [impl_within_eq, Option.bind_some]
  by_cases h : 1 ≤ d ∧ d ≤ 1000000
  · refine Ev.pos (by simpa using h) ?_
    rw [wrap_id (by omega) (by omega)]
    by_cases h2 : 0 ≤ n ∧ n ≤ d - 1
    · refine Ev.pos (by simpa using h2) ?_
      refine Ev.bind (impl_gcd_ev n d (by omega) (by omega) (by omega) (by omega)) ?_
      refine Ev.val (Ev.now _) ?_
      unfold isT
      rw [Bool.eq_iff_iff]; simp; omega
    · refine Ev.neg (by simpa using h2) ?_
      refine Ev.val (Ev.now _) ?_
      unfold isT
      rw [Bool.eq_iff_iff]; simp; omega
  · refine Ev.neg (by simpa using h) ?_
    refine Ev.val (Ev.now _) ?_
    unfold isT
    rw [Bool.eq_iff_iff]; simp; omega

/-! impl_areTurns_1 -/
theorem impl_areTurns_1_ev (n d : Int) : Ev (fun k => impl_areTurns_1.f k n d) (!isT n d) := by
  unfold impl_areTurns_1.f
  exact Ev.bind (impl_IsTurn_ev n d) (Ev.now _)

/-! impl_areTurns -/
theorem impl_areTurns_g : ∀ l : List S23, Ev (fun k => impl_areTurns.g k l) (l.all fun x => isT x.f0 x.f1)
  | [] => Ev.now _
  | x :: xs => by
    have e : (fun k => impl_areTurns.g k (x :: xs)) = fun k => (impl_areTurns_1.f k x.f0 x.f1).bind fun b => if b = true then some false else impl_areTurns.g k xs := by funext k; rfl
    rw [e]
    refine Ev.bind (impl_areTurns_1_ev _ _) ?_
    rw [List.all_cons]
    cases isT x.f0 x.f1
    · exact Ev.pos rfl (Ev.now _)
    · exact Ev.neg (by decide) (impl_areTurns_g xs)
theorem impl_areTurns_ev (l : List S23) (hl : l.length < 4611686018427387904) : Ev (fun k => impl_areTurns.f k l) (l.all fun x => isT x.f0 x.f1) := by
  unfold impl_areTurns.f
  exact Ev.pos hl (impl_areTurns_g l)
theorem impl_areTurns_two (a b c d : Int) : Ev (fun k => impl_areTurns.f k [(⟨a, b⟩ : S23), (⟨c, d⟩ : S23)]) (isT a b && isT c d) :=
  Ev.val (impl_areTurns_ev _ (by simp)) (by simp)

/-! impl_ifTurn -/
theorem impl_ifTurn_ev (n d : Int) : Ev (fun k => impl_ifTurn.f k n d) (if isT n d = true then (n, d, true) else (0, 0, false)) := by
  unfold impl_ifTurn.f
  refine Ev.bind (impl_IsTurn_ev n d) ?_
  split <;> exact Ev.now _
theorem impl_ifTurn_mk (q : Rat) : Ev (fun k => impl_ifTurn.f k (tn q) (td q)) (mk q) := by
  refine Ev.val (impl_ifTurn_ev _ _) ?_
  unfold mk
  rw [isT_tn]
  simp

/-! impl_floorDiv -/
theorem impl_floorDiv_eq (a b : Int) (hb : 0 < b) (hb' : b ≤ 4000000000000000000) (ha : -4000000000000000000 ≤ a) (ha' : a ≤ 4000000000000000000) : impl_floorDiv.f a b = some (a / b, a % b) := by
  obtain ⟨h1, h2, h3⟩ := floor_of_trunc a b hb
  obtain ⟨h4, h5⟩ := tdiv_bound a b hb
  have h8 := tmod_bound a b hb
  obtain ⟨h6, h7⟩ := ediv_bound a b hb
  unfold impl_floorDiv.f
  rw [if_neg (by omega)]
  by_cases h : Int.tmod a b < 0
  · rw [if_pos h]
    obtain ⟨e1, e2⟩ := h2 h
    rw [wrap_id (x := Int.tdiv a b) (by omega) (by omega), wrap_id (by omega) (by omega), wrap_id (by omega) (by omega), e1, e2]
  · rw [if_neg h]
    obtain ⟨e1, e2⟩ := h3 (by omega)
    rw [wrap_id (by omega) (by omega), e1, e2]

/-! impl_part -/
theorem impl_part_ev (n d : Int) (hd : 0 < d) (hd' : d ≤ 4000000000000000000) (hn : -4000000000000000000 ≤ n) (hn' : n ≤ 4000000000000000000) : Ev (fun k => impl_part.f k n d) (tn ((n : Rat) / d), td ((n : Rat) / d)) := by
  unfold impl_part.f
  rw [impl_floorDiv_eq n d hd hd' hn hn']
  simp only [Option.bind_some]
  have h0 := Int.emod_nonneg n (show d ≠ 0 by omega)
  have h1 := Int.emod_lt_of_pos n hd
  refine Ev.bind (impl_gcd_ev (n % d) d h0 (by omega) (by omega) (by omega)) ?_
  have hg := gcd_pos' (n % d) hd
  refine Ev.neg (by omega) ?_
  have e1 := Int.tdiv_eq_ediv_of_nonneg (b := (Int.gcd (n % d) d : Int)) h0
  have e2 := Int.tdiv_eq_ediv_of_nonneg (b := (Int.gcd (n % d) d : Int)) (show 0 ≤ d by omega)
  have b1 := ediv_le' h0 hg
  have b2 := ediv_le' (show 0 ≤ d by omega) hg
  rw [e1, e2, wrap_id (by omega) (by omega), wrap_id (by omega) (by omega), tn_div n d hd, td_div n d hd]
  exact Ev.now _

/-! impl_Turn_plus -/
theorem impl_Turn_plus_ev (a b c d : Int) (hb : 0 < b) (hd : 0 < d) (hm : b * d ≤ 1000000000000000000) (ha : -b ≤ a) (ha' : a ≤ b) (hc : -d ≤ c) (hc' : c ≤ d) : Ev (fun k => impl_Turn_plus.f k a b c d) (tn ((a : Rat) / b + (c : Rat) / d), td ((a : Rat) / b + (c : Rat) / d)) := by
  have m1 := mul_bound (a := a) (b := d) (A := b) (B := d) (by omega) (by omega) (by omega) (by omega)
  have m2 := mul_bound (a := c) (b := b) (A := d) (B := b) (by omega) (by omega) (by omega) (by omega)
  have m3 := Int.mul_pos hb hd
  rw [Int.mul_comm d b] at m2
  unfold impl_Turn_plus.f
  rw [wrap_id (x := a * d) (by omega) (by omega), wrap_id (x := c * b) (by omega) (by omega), wrap_id (x := b * d) (by omega) (by omega), wrap_id (by omega) (by omega)]
  rw [← q_add hb hd]
  exact Ev.bind (impl_part_ev _ _ (by omega) (by omega) (by omega) (by omega)) (Ev.now _)
theorem impl_Turn_plus_fr (p q : Rat) (hm : td p * td q ≤ 1000000000000000000) : Ev (fun k => impl_Turn_plus.f k (tn p) (td p) (tn q) (td q)) (tn (p + q), td (p + q)) := by
  have h1 := tn_nonneg p
  have h2 := tn_lt p
  have h3 := tn_nonneg q
  have h4 := tn_lt q
  refine Ev.val (impl_Turn_plus_ev _ _ _ _ (td_pos p) (td_pos q) hm (by omega) (by omega) (by omega) (by omega)) ?_
  rw [tn_td, tn_td]
  exact tt_of_fr (fr_plus p q)

/-! impl_AddTurns -/
theorem impl_AddTurns_ev (a b c d : Int) : Ev (fun k => impl_AddTurns.f k a b c d) (vAdd a b c d) := by
  unfold impl_AddTurns.f vAdd
  refine Ev.bind (impl_areTurns_two a b c d) ?_
  cases h : isT a b && isT c d
  · exact Ev.neg (by decide) (Ev.now _)
  refine Ev.pos rfl ?_
  rw [Bool.and_eq_true] at h
  obtain ⟨p1, p2, p3, p4, _⟩ := isT_iff.1 h.1
  obtain ⟨r1, r2, r3, r4, _⟩ := isT_iff.1 h.2
  have m3 := mul_bound (a := b) (b := d) (A := 1000000) (B := 1000000) (by omega) (by omega) (by omega) (by omega)
  refine Ev.bind (impl_Turn_plus_ev a b c d (by omega) (by omega) (by omega) (by omega) (by omega) (by omega) (by omega)) ?_
  exact Ev.bind (impl_ifTurn_mk _) (Ev.now _)

/-! spec_l1In -/
theorem spec_l1In_eq (a b c : Int) : spec_l1In.f a b c = some (decide (b ≤ a ∧ a ≤ c)) := by
  unfold spec_l1In.f
  by_cases h : a ≥ b
  · rw [if_pos h]; simp [show b ≤ a from h]
  · rw [if_neg h]; simp [show ¬ b ≤ a from h]

/-! spec_diCommon -/
theorem spec_diCommon_l0 : ∀ (n : Nat) (a b : Int), 0 ≤ a → 0 ≤ b → b < n → Ev (fun k => spec_diCommon.l0 k a b) (Int.gcd a b : Int) := by
  intro n
  induction n with
  | zero => intro a b _ h1 h2; omega
  | succ n ih =>
    intro a b ha hb hn
    by_cases h : b = 0
    · subst h
      refine Ev.step (f := fun _ => some a) (fun k => ?_) ?_
      · simp only [spec_diCommon.l0]
        rw [if_neg (by omega)]
      · rw [gcd_zero ha]; exact Ev.now a
    · have h1 := tmod_range ha (show 0 < b by omega)
      refine Ev.step (f := fun k => spec_diCommon.l0 k b (Int.tmod a b)) (fun k => ?_) ?_
      · simp only [spec_diCommon.l0]
        rw [if_pos (by omega), if_neg h]
      · rw [← gcd_step ha (show 0 < b by omega)]
        exact ih b _ (by omega) (by omega) (by omega)
theorem spec_diCommon_ev (a b : Int) (ha : 0 ≤ a) (hb : 0 ≤ b) : Ev (fun k => spec_diCommon.f k a b) (Int.gcd a b : Int) := by
  unfold spec_diCommon.f
  exact spec_diCommon_l0 (b.toNat + 1) a b ha hb (by omega)

/-! spec_diGood -/
theorem spec_diGood_ev (n d : Int) : Ev (fun k => spec_diGood.f k n d) (isT n d) := by
  unfold spec_diGood.f
  simp only [spec_l1In_eq, Option.bind_some]
  by_cases h : 1 ≤ d ∧ d ≤ 1000000
  · refine Ev.pos (by simpa using h) ?_
    rw [wrap_id (by omega) (by omega)]
    by_cases h2 : 0 ≤ n ∧ n ≤ d - 1
    · refine Ev.pos (by simpa using h2) ?_
      refine Ev.bind (spec_diCommon_ev n d (by omega) (by omega)) ?_
      refine Ev.val (Ev.now _) ?_
      unfold isT
      rw [Bool.eq_iff_iff]; simp; omega
    · refine Ev.neg (by simpa using h2) ?_
      refine Ev.val (Ev.now _) ?_
      unfold isT
      rw [Bool.eq_iff_iff]; simp; omega
  · refine Ev.neg (by simpa using h) ?_
    refine Ev.val (Ev.now _) ?_
    unfold isT
    rw [Bool.eq_iff_iff]; simp; omega

/-! spec_diMake -/
theorem spec_diMake_ev (n d : Int) (hd : 0 < d) (hd' : d ≤ 4000000000000000000) (hn : -4000000000000000000 ≤ n) (hn' : n ≤ 4000000000000000000) : Ev (fun k => spec_diMake.f k n d) (mk ((n : Rat) / d)) := by
  unfold spec_diMake.f
  refine Ev.neg (by omega) ?_
  have h0 := Int.emod_nonneg n (show d ≠ 0 by omega)
  have h1 := Int.emod_lt_of_pos n hd
  obtain ⟨t1, t2⟩ := tmod_bound n d hd
  have e0 : Int.tmod (wrap64 (Int.tmod n d + d)) d = n % d := by
    rw [wrap_id (by omega) (by omega)]; exact tmod_tmod n d hd
  rw [e0]
  refine Ev.bind (spec_diCommon_ev (n % d) d h0 (by omega)) ?_
  have hg := gcd_pos' (n % d) hd
  refine Ev.neg (by omega) ?_
  have e1 := Int.tdiv_eq_ediv_of_nonneg (b := (Int.gcd (n % d) d : Int)) h0
  have e2 := Int.tdiv_eq_ediv_of_nonneg (b := (Int.gcd (n % d) d : Int)) (show 0 ≤ d by omega)
  have b1 := ediv_le' h0 hg
  have b2 := ediv_le' (show 0 ≤ d by omega) hg
  rw [e1, e2, wrap_id (by omega) (by omega), wrap_id (by omega) (by omega)]
  unfold mk
  rw [tn_div n d hd, td_div n d hd]
  by_cases h : d / (Int.gcd (n % d) d : Int) > 1000000
  · rw [if_pos h, if_neg (by omega)]; exact Ev.now _
  · rw [if_neg h, if_pos (by omega)]; exact Ev.now _

/-! spec_diAdd -/
theorem spec_diAdd_ev (a b c d t : Int) (hb : 0 < b) (hd : 0 < d) (hm : b * d ≤ 1000000000000000) (ha : -b ≤ a) (ha' : a ≤ b) (hc : -d ≤ c) (hc' : c ≤ d) (ht : -1000 ≤ t) (ht' : t ≤ 1000) : Ev (fun k => spec_diAdd.f k a b c d t) (mk ((a : Rat) / b + t * ((c : Rat) / d))) := by
  have m1 := mul_bound (a := a) (b := d) (A := b) (B := d) (by omega) (by omega) (by omega) (by omega)
  have m2 := mul_bound (a := t) (b := c) (A := 1000) (B := d) (by omega) (by omega) (by omega) (by omega)
  have m4 := mul_bound (a := t * c) (b := b) (A := 1000 * d) (B := b) (by omega) (by omega) (by omega) (by omega)
  have m3 := Int.mul_pos hb hd
  have m5 : d ≤ b * d := by have := Int.mul_le_mul_of_nonneg_right (show 1 ≤ b by omega) (show 0 ≤ d by omega); omega
  rw [Int.mul_assoc, Int.mul_comm d b] at m4
  unfold spec_diAdd.f
  rw [wrap_id (x := a * d) (by omega) (by omega), wrap_id (x := t * c) (by omega) (by omega), wrap_id (x := t * c * b) (by omega) (by omega), wrap_id (x := b * d) (by omega) (by omega), wrap_id (by omega) (by omega)]
  rw [← q_add_mul hb hd]
  exact Ev.bind (spec_diMake_ev _ _ (by omega) (by omega) (by omega) (by omega)) (Ev.now _)
theorem spec_diAdd_T (a b c d t : Int) (h1 : isT a b = true) (h2 : isT c d = true) (ht : -1000 ≤ t) (ht' : t ≤ 1000) : Ev (fun k => spec_diAdd.f k a b c d t) (mk ((a : Rat) / b + t * ((c : Rat) / d))) := by
  obtain ⟨p1, p2, p3, p4, _⟩ := isT_iff.1 h1
  obtain ⟨r1, r2, r3, r4, _⟩ := isT_iff.1 h2
  have m3 := mul_bound (a := b) (b := d) (A := 1000000) (B := 1000000) (by omega) (by omega) (by omega) (by omega)
  exact spec_diAdd_ev a b c d t (by omega) (by omega) (by omega) (by omega) (by omega) (by omega) (by omega) ht ht'

/-! spec_AddTurns -/
theorem spec_AddTurns_ev (a b c d : Int) : Ev (fun k => spec_AddTurns.f k a b c d) (vAdd a b c d) := by
  unfold spec_AddTurns.f vAdd
  refine Ev.bind (spec_diGood_ev a b) ?_
  cases h1 : isT a b
  · exact Ev.neg (by decide) (Ev.now _)
  refine Ev.pos rfl ?_
  refine Ev.bind (spec_diGood_ev c d) ?_
  cases h2 : isT c d
  · exact Ev.neg (by decide) (Ev.now _)
  refine Ev.pos rfl ?_
  refine Ev.bind (spec_diAdd_T a b c d 1 h1 h2 (by omega) (by omega)) ?_
  rw [one_mul']
  exact Ev.now _

/-! impl_Turn_minus -/
theorem impl_Turn_minus_ev (a b c d : Int) (hb : 0 < b) (hd : 0 < d) (hm : b * d ≤ 1000000000000000000) (ha : -b ≤ a) (ha' : a ≤ b) (hc : -d ≤ c) (hc' : c ≤ d) : Ev (fun k => impl_Turn_minus.f k a b c d) (tn ((a : Rat) / b - (c : Rat) / d), td ((a : Rat) / b - (c : Rat) / d)) := by
  have m1 := mul_bound (a := a) (b := d) (A := b) (B := d) (by omega) (by omega) (by omega) (by omega)
  have m2 := mul_bound (a := c) (b := b) (A := d) (B := b) (by omega) (by omega) (by omega) (by omega)
  have m3 := Int.mul_pos hb hd
  rw [Int.mul_comm d b] at m2
  unfold impl_Turn_minus.f
  rw [wrap_id (x := a * d) (by omega) (by omega), wrap_id (x := c * b) (by omega) (by omega), wrap_id (x := b * d) (by omega) (by omega), wrap_id (by omega) (by omega)]
  rw [← q_sub hb hd]
  exact Ev.bind (impl_part_ev _ _ (by omega) (by omega) (by omega) (by omega)) (Ev.now _)
theorem impl_Turn_minus_fr (p q : Rat) (hm : td p * td q ≤ 1000000000000000000) : Ev (fun k => impl_Turn_minus.f k (tn p) (td p) (tn q) (td q)) (tn (p - q), td (p - q)) := by
  have h1 := tn_nonneg p
  have h2 := tn_lt p
  have h3 := tn_nonneg q
  have h4 := tn_lt q
  refine Ev.val (impl_Turn_minus_ev _ _ _ _ (td_pos p) (td_pos q) hm (by omega) (by omega) (by omega) (by omega)) ?_
  rw [tn_td, tn_td]
  exact tt_of_fr (fr_minus p q)

/-! impl_LessTurn -/
theorem impl_LessTurn_ev (a b c d : Int) : Ev (fun k => impl_LessTurn.f k a b c d) (vLess a b c d) := by
  unfold impl_LessTurn.f vLess
  refine Ev.bind (impl_areTurns_two a b c d) ?_
  cases h : isT a b && isT c d
  · exact Ev.neg (by decide) (Ev.now _)
  refine Ev.pos rfl ?_
  rw [Bool.and_eq_true] at h
  obtain ⟨p1, p2, p3, p4, _⟩ := isT_iff.1 h.1
  obtain ⟨r1, r2, r3, r4, _⟩ := isT_iff.1 h.2
  have m3 := mul_bound (a := b) (b := d) (A := 1000000) (B := 1000000) (by omega) (by omega) (by omega) (by omega)
  refine Ev.bind (impl_Turn_minus_ev a b c d (by omega) (by omega) (by omega) (by omega) (by omega) (by omega) (by omega)) ?_
  exact Ev.bind (impl_ifTurn_mk _) (Ev.now _)

/-! spec_LessTurn -/
theorem spec_LessTurn_ev (a b c d : Int) : Ev (fun k => spec_LessTurn.f k a b c d) (vLess a b c d) := by
  unfold spec_LessTurn.f vLess
  refine Ev.bind (spec_diGood_ev a b) ?_
  cases h1 : isT a b
  · exact Ev.neg (by decide) (Ev.now _)
  refine Ev.pos rfl ?_
  refine Ev.bind (spec_diGood_ev c d) ?_
  cases h2 : isT c d
  · exact Ev.neg (by decide) (Ev.now _)
  refine Ev.pos rfl ?_
  refine Ev.bind (spec_diAdd_T a b c d (-1) h1 h2 (by omega) (by omega)) ?_
  rw [add_neg_one_mul']
  exact Ev.now _

/-! cmp_isNaN_int -/
theorem cmp_isNaN_int_eq (a : Int) : cmp_isNaN_int.f a = some false := by unfold cmp_isNaN_int.f; simp

/-! cmp_Compare_int -/
theorem cmp_Compare_int_eq (a b : Int) : cmp_Compare_int.f a b = some (sg (a - b)) := by
  unfold cmp_Compare_int.f sg
  simp only [cmp_isNaN_int_eq, Option.bind_some, Bool.false_eq_true, if_false]
  by_cases h : a < b
  · rw [if_pos h, if_neg (by omega), if_pos (by omega)]
  · rw [if_neg h]
    by_cases h2 : a > b
    · rw [if_pos h2, if_pos (by omega)]
    · rw [if_neg h2, if_neg (by omega), if_neg (by omega)]

/-! impl_Turn_compare -/
theorem impl_Turn_compare_eq (a b c d : Int) (ha : isT a b = true) (hc : isT c d = true) : impl_Turn_compare.f a b c d = some (sg (a * d - c * b)) := by
  obtain ⟨p1, p2, p3, p4, _⟩ := isT_iff.1 ha
  obtain ⟨r1, r2, r3, r4, _⟩ := isT_iff.1 hc
  have m1 := mul_bound (a := a) (b := d) (A := 1000000) (B := 1000000) (by omega) (by omega) (by omega) (by omega)
  have m2 := mul_bound (a := c) (b := b) (A := 1000000) (B := 1000000) (by omega) (by omega) (by omega) (by omega)
  unfold impl_Turn_compare.f
  rw [wrap_id (x := a * d) (by omega) (by omega), wrap_id (x := c * b) (by omega) (by omega)]
  simp only [cmp_Compare_int_eq, Option.bind_some]

/-! impl_CompareTurns -/
theorem impl_CompareTurns_ev (a b c d : Int) : Ev (fun k => impl_CompareTurns.f k a b c d) (vCmp a b c d) := by
  unfold impl_CompareTurns.f vCmp
  refine Ev.bind (impl_areTurns_two a b c d) ?_
  cases h : isT a b && isT c d
  · exact Ev.neg (by decide) (Ev.now _)
  refine Ev.pos rfl ?_
  rw [Bool.and_eq_true] at h
  simp only [impl_Turn_compare_eq a b c d h.1 h.2, Option.bind_some]
  exact Ev.now _

/-! spec_l1Sign -/
theorem spec_l1Sign_eq (a : Int) : spec_l1Sign.f a = some (sg a) := by
  unfold spec_l1Sign.f sg
  split
  · rfl
  · split <;> rfl

/-! spec_diCompare -/
theorem spec_diCompare_eq (a b c d : Int) (ha : isT a b = true) (hc : isT c d = true) : spec_diCompare.f a b c d = some (sg (a * d - c * b)) := by
  obtain ⟨p1, p2, p3, p4, _⟩ := isT_iff.1 ha
  obtain ⟨r1, r2, r3, r4, _⟩ := isT_iff.1 hc
  have m1 := mul_bound (a := a) (b := d) (A := 1000000) (B := 1000000) (by omega) (by omega) (by omega) (by omega)
  have m2 := mul_bound (a := c) (b := b) (A := 1000000) (B := 1000000) (by omega) (by omega) (by omega) (by omega)
  unfold spec_diCompare.f
  rw [wrap_id (x := a * d) (by omega) (by omega), wrap_id (x := c * b) (by omega) (by omega), wrap_id (by omega) (by omega)]
  simp only [spec_l1Sign_eq, Option.bind_some]

/-! spec_CompareTurns -/
theorem spec_CompareTurns_ev (a b c d : Int) : Ev (fun k => spec_CompareTurns.f k a b c d) (vCmp a b c d) := by
  unfold spec_CompareTurns.f vCmp
  refine Ev.bind (spec_diGood_ev a b) ?_
  cases h1 : isT a b
  · exact Ev.neg (by decide) (Ev.now _)
  refine Ev.pos rfl ?_
  refine Ev.bind (spec_diGood_ev c d) ?_
  cases h2 : isT c d
  · exact Ev.neg (by decide) (Ev.now _)
  refine Ev.pos rfl ?_
  simp only [spec_diCompare_eq a b c d h1 h2, Option.bind_some]
  exact Ev.now _

/-! impl_Turn_times -/
theorem impl_Turn_times_ev (a b k : Int) (hb : 0 < b) (hb' : b ≤ 4000000000000000000) (h0 : -4000000000000000000 ≤ a * k) (h1 : a * k ≤ 4000000000000000000) : Ev (fun n => impl_Turn_times.f n a b k) (tn (k * ((a : Rat) / b)), td (k * ((a : Rat) / b))) := by
  unfold impl_Turn_times.f
  rw [wrap_id (by omega) (by omega), ← q_mul hb]
  exact Ev.bind (impl_part_ev _ _ hb hb' h0 h1) (Ev.now _)
theorem impl_Turn_times_fr (p : Rat) (k : Int) (hp : td p ≤ 10000000000) (h0 : -100000 ≤ k) (h1 : k ≤ 100000) : Ev (fun n => impl_Turn_times.f n (tn p) (td p) k) (tn (k * p), td (k * p)) := by
  have h2 := tn_nonneg p
  have h3 := tn_lt p
  have m1 := mul_bound (a := tn p) (b := k) (A := 10000000000) (B := 100000) (by omega) (by omega) h0 h1
  refine Ev.val (impl_Turn_times_ev _ _ k (td_pos p) (by omega) (by omega) (by omega)) ?_
  rw [tn_td]
  exact tt_of_fr (fr_mul_fr k p)
theorem impl_Turn_times_T (a b k : Int) (h : isT a b = true) (h0 : -100000 ≤ k) (h1 : k ≤ 100000) : Ev (fun n => impl_Turn_times.f n a b k) (tn (k * ((a : Rat) / b)), td (k * ((a : Rat) / b))) := by
  obtain ⟨p1, p2, p3, p4, _⟩ := isT_iff.1 h
  have m1 := mul_bound (a := a) (b := k) (A := 1000000) (B := 100000) (by omega) (by omega) h0 h1
  exact impl_Turn_times_ev a b k (by omega) (by omega) (by omega) (by omega)

/-! impl_Turn_mirror -/
theorem impl_Turn_mirror_fr (p : Rat) (hp : td p ≤ 10000000000) : Ev (fun n => impl_Turn_mirror.f n (tn p) (td p)) (tn (-p), td (-p)) := by
  unfold impl_Turn_mirror.f
  refine Ev.bind (impl_Turn_times_fr p (-1) hp (by omega) (by omega)) ?_
  rw [neg_one_mul']
  exact Ev.now _
theorem impl_Turn_mirror_T (a b : Int) (h : isT a b = true) : Ev (fun n => impl_Turn_mirror.f n a b) (tn (-((a : Rat) / b)), td (-((a : Rat) / b))) := by
  unfold impl_Turn_mirror.f
  refine Ev.bind (impl_Turn_times_T a b (-1) h (by omega) (by omega)) ?_
  rw [neg_one_mul']
  exact Ev.now _

/-! impl_MirrorTurn -/
theorem impl_MirrorTurn_ev (a b : Int) : Ev (fun k => impl_MirrorTurn.f k a b) (vMirror a b) := by
  unfold impl_MirrorTurn.f vMirror
  refine Ev.bind (impl_IsTurn_ev a b) ?_
  cases h1 : isT a b
  · exact Ev.neg (by decide) (Ev.now _)
  exact Ev.pos rfl (Ev.bind (impl_Turn_mirror_T a b h1) (Ev.now _))

/-! spec_diTimes -/
theorem spec_diTimes_ev (a b k : Int) (h : isT a b = true) (h0 : -100000 ≤ k) (h1 : k ≤ 100000) : Ev (fun n => spec_diTimes.f n a b k) (tn (k * ((a : Rat) / b)), td (k * ((a : Rat) / b))) := by
  obtain ⟨p1, p2, p3, p4, _⟩ := isT_iff.1 h
  have m1 := mul_bound (a := a) (b := k) (A := 1000000) (B := 100000) (by omega) (by omega) h0 h1
  unfold spec_diTimes.f
  rw [wrap_id (by omega) (by omega)]
  refine Ev.bind (spec_diMake_ev _ _ (by omega) (by omega) (by omega) (by omega)) ?_
  rw [q_mul (show 0 < b by omega), mk_of (Int.le_trans (td_mul_le (show 0 < b by omega)) p2)]
  exact Ev.now _
theorem spec_diTimes_fr (p : Rat) (k : Int) (hp : td p ≤ 1000000) (h0 : -100000 ≤ k) (h1 : k ≤ 100000) : Ev (fun n => spec_diTimes.f n (tn p) (td p) k) (tn (k * p), td (k * p)) := by
  refine Ev.val (spec_diTimes_ev (tn p) (td p) k (by rw [isT_tn]; simpa using hp) h0 h1) ?_
  rw [tn_td]
  exact tt_of_fr (fr_mul_fr k p)

/-! spec_diMirror -/
theorem spec_diMirror_fr (p : Rat) (hp : td p ≤ 1000000) : Ev (fun n => spec_diMirror.f n (tn p) (td p)) (tn (-p), td (-p)) := by
  unfold spec_diMirror.f
  refine Ev.bind (spec_diTimes_fr p (-1) hp (by omega) (by omega)) ?_
  rw [neg_one_mul']
  exact Ev.now _
theorem spec_diMirror_T (a b : Int) (h : isT a b = true) : Ev (fun n => spec_diMirror.f n a b) (tn (-((a : Rat) / b)), td (-((a : Rat) / b))) := by
  unfold spec_diMirror.f
  refine Ev.bind (spec_diTimes_ev a b (-1) h (by omega) (by omega)) ?_
  rw [neg_one_mul']
  exact Ev.now _

/-! spec_MirrorTurn -/
theorem spec_MirrorTurn_ev (a b : Int) : Ev (fun k => spec_MirrorTurn.f k a b) (vMirror a b) := by
  unfold spec_MirrorTurn.f vMirror
  refine Ev.bind (spec_diGood_ev a b) ?_
  cases h1 : isT a b
  · exact Ev.neg (by decide) (Ev.now _)
  exact Ev.pos rfl (Ev.bind (spec_diMirror_T a b h1) (Ev.now _))

/-! spec_IsTurn -/
theorem spec_IsTurn_ev (n d : Int) : Ev (fun k => spec_IsTurn.f k n d) (isT n d) := by
  unfold spec_IsTurn.f
  exact Ev.bind (spec_diGood_ev n d) (Ev.now _)

/-! impl_TimesTurn -/
theorem impl_TimesTurn_ev (a b n : Int) : Ev (fun k => impl_TimesTurn.f k a b n) (vTimesTurn a b n) := by
  unfold impl_TimesTurn.f vTimesTurn
  simp only [impl_within_eq, Option.bind_some]
  have no : Ev (fun k => impl_TimesTurn.j0 k n true a b) (0, 0, false) := by
    refine Ev.step (f := fun _ => some (0, 0, false)) (fun k => ?_) (Ev.now _)
    simp only [impl_TimesTurn.j0]; rfl
  refine Ev.bind (impl_IsTurn_ev a b) ?_
  cases h1 : isT a b
  · exact Ev.neg (by decide) no
  refine Ev.pos rfl ?_
  by_cases h2 : -10000 ≤ n ∧ n ≤ 10000
  · rw [show (!decide (-10000 ≤ n ∧ n ≤ 10000)) = false by simp [h2], if_pos ⟨rfl, h2⟩]
    obtain ⟨p1, p2, p3, p4, _⟩ := isT_iff.1 h1
    refine Ev.step (f := fun k => (impl_Turn_times.f k a b n).bind fun bt => ((impl_ifTurn.f k bt.1 bt.2).bind fun bt => (some (bt.1, bt.2.1, bt.2.2)))) (fun k => ?_) ?_
    · simp only [impl_TimesTurn.j0]; simp
    refine Ev.bind (impl_Turn_times_T a b n h1 (by omega) (by omega)) ?_
    refine Ev.bind (impl_ifTurn_mk _) ?_
    rw [mk_of (Int.le_trans (td_mul_le (show 0 < b by omega)) p2)]
    exact Ev.now _
  · rw [show (!decide (-10000 ≤ n ∧ n ≤ 10000)) = true by rw [decide_eq_false h2]; rfl, if_neg (fun h => h2 h.2)]
    exact no

/-! spec_TimesTurn -/
theorem spec_TimesTurn_ev (a b n : Int) : Ev (fun k => spec_TimesTurn.f k a b n) (vTimesTurn a b n) := by
  unfold spec_TimesTurn.f vTimesTurn
  simp only [spec_l1In_eq, Option.bind_some]
  refine Ev.bind (spec_diGood_ev a b) ?_
  cases h1 : isT a b
  · exact Ev.neg (by decide) (Ev.val (Ev.now _) (by simp))
  refine Ev.pos rfl ?_
  by_cases h2 : -10000 ≤ n ∧ n ≤ 10000
  · refine Ev.pos (by simpa using h2) ?_
    rw [if_pos ⟨rfl, h2⟩]
    exact Ev.bind (spec_diTimes_ev a b n h1 (by omega) (by omega)) (Ev.now _)
  · refine Ev.neg (by simpa using h2) ?_
    rw [if_neg (fun h => h2 h.2)]
    exact Ev.now _

/-! impl_PartOfTurn -/
theorem impl_PartOfTurn_ev (a b n : Int) : Ev (fun k => impl_PartOfTurn.f k a b n) (vPart a b n) := by
  unfold impl_PartOfTurn.f vPart
  simp only [impl_within_eq, Option.bind_some]
  have no : Ev (fun k => impl_PartOfTurn.j0 k n true a b) (0, 0, false) := by
    refine Ev.step (f := fun _ => some (0, 0, false)) (fun k => ?_) (Ev.now _)
    simp only [impl_PartOfTurn.j0]; rfl
  refine Ev.bind (impl_IsTurn_ev a b) ?_
  cases h1 : isT a b
  · exact Ev.neg (by decide) no
  refine Ev.pos rfl ?_
  by_cases h2 : 1 ≤ n ∧ n ≤ 10000
  · rw [show (!decide (1 ≤ n ∧ n ≤ 10000)) = false by simp [h2], if_pos ⟨rfl, h2⟩]
    obtain ⟨p1, p2, p3, p4, _⟩ := isT_iff.1 h1
    have m1 := mul_bound (a := b) (b := n) (A := 1000000) (B := 10000) (by omega) (by omega) (by omega) (by omega)
    have m2 := Int.mul_pos (show 0 < b by omega) (show 0 < n by omega)
    refine Ev.step (f := fun k => (impl_part.f k a (wrap64 (b * n))).bind fun bt => ((impl_ifTurn.f k bt.1 bt.2).bind fun bt => (some (bt.1, bt.2.1, bt.2.2)))) (fun k => ?_) ?_
    · simp only [impl_PartOfTurn.j0]; simp
    rw [wrap_id (by omega) (by omega), ← q_part (show 0 < b by omega) (show 0 < n by omega)]
    refine Ev.bind (impl_part_ev _ _ (by omega) (by omega) (by omega) (by omega)) ?_
    exact Ev.bind (impl_ifTurn_mk _) (Ev.now _)
  · rw [show (!decide (1 ≤ n ∧ n ≤ 10000)) = true by rw [decide_eq_false h2]; rfl, if_neg (fun h => h2 h.2)]
    exact no

/-! spec_PartOfTurn -/
theorem spec_PartOfTurn_ev (a b n : Int) : Ev (fun k => spec_PartOfTurn.f k a b n) (vPart a b n) := by
  unfold spec_PartOfTurn.f vPart
  simp only [spec_l1In_eq, Option.bind_some]
  refine Ev.bind (spec_diGood_ev a b) ?_
  cases h1 : isT a b
  · exact Ev.neg (by decide) (Ev.val (Ev.now _) (by simp))
  refine Ev.pos rfl ?_
  by_cases h2 : 1 ≤ n ∧ n ≤ 10000
  · refine Ev.pos (by simpa using h2) ?_
    rw [if_pos ⟨rfl, h2⟩]
    obtain ⟨p1, p2, p3, p4, _⟩ := isT_iff.1 h1
    have m1 := mul_bound (a := b) (b := n) (A := 1000000) (B := 10000) (by omega) (by omega) (by omega) (by omega)
    have m2 := Int.mul_pos (show 0 < b by omega) (show 0 < n by omega)
    rw [wrap_id (by omega) (by omega), ← q_part (show 0 < b by omega) (show 0 < n by omega)]
    exact Ev.bind (spec_diMake_ev _ _ (by omega) (by omega) (by omega) (by omega)) (Ev.now _)
  · refine Ev.neg (by simpa using h2) ?_
    rw [if_neg (fun h => h2 h.2)]
    exact Ev.now _

/-! impl_MakeTurn -/
theorem impl_MakeTurn_ev (n d : Int) : Ev (fun k => impl_MakeTurn.f k n d) (vMakeTurn n d) := by
  unfold impl_MakeTurn.f vMakeTurn
  simp only [impl_within_eq, Option.bind_some]
  have no : Ev (fun k => impl_MakeTurn.j0 k n d true) (0, 0, false) := by
    refine Ev.step (f := fun _ => some (0, 0, false)) (fun k => ?_) (Ev.now _)
    simp only [impl_MakeTurn.j0]; rfl
  by_cases h1 : -1000000000000 ≤ n ∧ n ≤ 1000000000000
  · refine Ev.pos (by simpa using h1) ?_
    by_cases h2 : 1 ≤ d ∧ d ≤ 1000000000000
    · rw [show (!decide (1 ≤ d ∧ d ≤ 1000000000000)) = false by simp [h2], if_pos ⟨h1, h2⟩]
      refine Ev.step (f := fun k => ((impl_part.f k n d).bind fun bt126 => ((impl_ifTurn.f k bt126.1 bt126.2).bind fun bt128 => (some (bt128.1, bt128.2.1, bt128.2.2))))) (fun k => ?_) ?_
      · simp only [impl_MakeTurn.j0]; simp
      refine Ev.bind (impl_part_ev n d (by omega) (by omega) (by omega) (by omega)) ?_
      exact Ev.bind (impl_ifTurn_mk _) (Ev.now _)
    · rw [show (!decide (1 ≤ d ∧ d ≤ 1000000000000)) = true by rw [decide_eq_false h2]; rfl, if_neg (fun h => h2 h.2)]
      exact no
  · refine Ev.neg (by simpa using h1) ?_
    rw [if_neg (fun h => h1 h.1)]
    exact no

/-! spec_MakeTurn -/
theorem spec_MakeTurn_ev (n d : Int) : Ev (fun k => spec_MakeTurn.f k n d) (vMakeTurn n d) := by
  unfold spec_MakeTurn.f vMakeTurn
  simp only [spec_l1In_eq, Option.bind_some]
  by_cases h1 : -1000000000000 ≤ n ∧ n ≤ 1000000000000
  · refine Ev.pos (by simpa using h1) ?_
    by_cases h2 : 1 ≤ d ∧ d ≤ 1000000000000
    · refine Ev.pos (by simpa using h2) ?_
      rw [if_pos ⟨h1, h2⟩]
      exact Ev.bind (spec_diMake_ev n d (by omega) (by omega) (by omega) (by omega)) (Ev.now _)
    · refine Ev.neg (by simpa using h2) ?_
      rw [if_neg (fun h => h2 h.2)]
      exact Ev.now _
  · refine Ev.neg (by simpa using h1) ?_
    rw [if_neg (fun h => h1 h.1)]
    exact Ev.now _

/-! laws_FnTurnsAddedOfAll -/
theorem ta_hid {P : Prop} (h : P) : P := h
theorem isT_mk (q : Rat) (h : td q ≤ 1000000) : isT (tn q) (td q) = true := by rw [isT_tn]; exact decide_eq_true h
theorem mk_ok {q : Rat} (h : (mk q).2.2 = true) : td q ≤ 1000000 := by
  unfold mk at h
  by_cases e : td q ≤ 1000000
  · exact e
  · rw [if_neg e] at h; cases h
theorem tn_fr {a b : Int} (q : Rat) (h : isT a b = true) (e : fr q = (a : Rat) / b) : tn q = a ∧ td q = b := by
  have h2 := isT_canon h
  have e2 : fr q = fr ((a : Rat) / b) := by rw [e, isT_fr h]
  have := tt_of_fr e2
  rw [Prod.mk.injEq] at this
  exact ⟨this.1.trans h2.1, this.2.trans h2.2⟩
theorem ta_j5 (p q : Int) : Ev (fun k => laws_FnTurnsAddedOfAll.j5 k p q (vMakeTurn p q).2.2 (vMakeTurn p q).1 (vMakeTurn p q).2.1) true := by
  refine Ev.step (f := fun k => laws_FnTurnsAddedOfAll.j5 (k + 1) p q (vMakeTurn p q).2.2 (vMakeTurn p q).1 (vMakeTurn p q).2.1) (fun k => rfl) ?_
  simp only [laws_FnTurnsAddedOfAll.j5]
  by_cases hr : (-1000000000000 ≤ p ∧ p ≤ 1000000000000) ∧ (1 ≤ q ∧ q ≤ 1000000000000)
  · have hv : vMakeTurn p q = mk ((p : Rat) / q) := by unfold vMakeTurn; rw [if_pos hr]
    rw [hv]
    by_cases hk : td ((p : Rat) / q) ≤ 1000000
    · rw [mk_of hk]
      simp only [if_true]
      have hq : 0 < q := by omega
      refine Ev.bind (impl_IsTurn_ev _ _) ?_
      rw [isT_mk _ hk]
      simp only [if_true]
      have hg := gcd_pos' (p % q) hq
      have hgd : (Int.gcd (p % q) q : Int) ∣ q := Int.gcd_dvd_right _ _
      have hgn : (Int.gcd (p % q) q : Int) ∣ p % q := Int.gcd_dvd_left _ _
      have e1 := td_div p q hq
      have e2 := tn_div p q hq
      obtain ⟨x, hx⟩ := hgd
      obtain ⟨y, hy⟩ := hgn
      generalize hG : (Int.gcd (p % q) q : Int) = g at *
      have hx2 : q / g = x := by rw [hx]; exact Int.mul_ediv_cancel_left _ (by omega)
      have hy2 : (p % q) / g = y := by rw [hy]; exact Int.mul_ediv_cancel_left _ (by omega)
      rw [e1, e2, hx2, hy2]
      have hx0 : 0 < x := by
        by_cases h : 0 < x
        · exact h
        · have := Int.mul_nonpos_of_nonneg_of_nonpos (Int.le_of_lt hg) (show x ≤ 0 by omega); omega
      have hm0 := Int.emod_nonneg p (show q ≠ 0 by omega)
      have hm1 := Int.emod_lt_of_pos p hq
      refine Ev.neg (by omega) (Ev.pos ?_ (Ev.neg (by omega) (Ev.pos ?_ (Ev.now _))))
      · rw [hx]; exact Int.tmod_eq_zero_of_dvd (Int.dvd_mul_left g x)
      · have ed : Int.tdiv q x = g := by rw [hx]; exact Int.mul_tdiv_cancel _ (by omega)
        rw [ed]
        have eyg : y * g = p % q := by rw [hy, Int.mul_comm]
        have hgq : g ≤ q := by rw [hx]; have := Int.mul_le_mul_of_nonneg_left (show 1 ≤ x by omega) (Int.le_of_lt hg); omega
        rw [wrap_id (x := g) (by omega) (by omega), eyg, wrap_id (x := p % q) (by omega) (by omega), wrap_id (x := p - p % q) (by omega) (by omega)]
        exact Int.tmod_eq_zero_of_dvd ⟨p / q, by have := Int.emod_add_mul_ediv p q; omega⟩
    · have : mk ((p : Rat) / q) = (0, 0, false) := if_neg hk
      rw [this]
      exact Ev.neg (by decide) (Ev.now _)
  · have hv : vMakeTurn p q = (0, 0, false) := by unfold vMakeTurn; rw [if_neg hr]
    rw [hv]
    exact Ev.neg (by decide) (Ev.now _)
theorem ta_j4 (m n u p q : Int) : Ev (fun k => laws_FnTurnsAddedOfAll.j4 k u p q (vPart m n u).2.2 (vMakeTurn p q).2.2 false m n (vPart m n u).1 (vPart m n u).2.1 (vMakeTurn p q).1 (vMakeTurn p q).2.1) true := by
  refine Ev.step (f := fun k => laws_FnTurnsAddedOfAll.j4 (k + 1) u p q (vPart m n u).2.2 (vMakeTurn p q).2.2 false m n (vPart m n u).1 (vPart m n u).2.1 (vMakeTurn p q).1 (vMakeTurn p q).2.1) (fun k => rfl) ?_
  simp only [laws_FnTurnsAddedOfAll.j4, Bool.false_eq_true, if_false]
  by_cases hr : isT m n = true ∧ (1 ≤ u ∧ u ≤ 10000)
  · have hv : vPart m n u = mk ((m : Rat) / n / u) := by unfold vPart; rw [if_pos hr]
    rw [hv]
    by_cases hk : td ((m : Rat) / n / u) ≤ 1000000
    · rw [mk_of hk]
      simp only [if_true]
      obtain ⟨hT, hu⟩ := hr
      obtain ⟨t1, t2, t3, t4, _⟩ := isT_iff.1 hT
      have hn0 : 0 < n := by omega
      have hu0 : 0 < u := by omega
      have hQ : (m : Rat) / n / u = (m : Rat) / ((n * u : Int) : Rat) := (q_part hn0 hu0).symm
      have hnu : n ≤ n * u := by have := Int.mul_le_mul_of_nonneg_left (show 1 ≤ u by omega) (Int.le_of_lt hn0); omega
      have hfr : fr ((m : Rat) / n / u) = (m : Rat) / n / u := by rw [hQ]; exact fr_canon t3 (by omega)
      have hB := tn_td ((m : Rat) / n / u)
      rw [hfr] at hB
      have hW := isT_mk _ hk
      have h1 := td_pos ((m : Rat) / n / u)
      have h2 := tn_nonneg ((m : Rat) / n / u)
      have h3 := tn_lt ((m : Rat) / n / u)
      generalize tn ((m : Rat) / n / u) = x at *
      generalize td ((m : Rat) / n / u) = y at *
      have hx : u * ((x : Rat) / y) = (m : Rat) / n := by
        rw [hB]
        have : (u : Rat) ≠ 0 := cast_ne hu0
        rw [Rat.mul_comm]; exact Rat.div_mul_cancel this
      have hV : vTimesTurn x y u = (m, n, true) := by
        unfold vTimesTurn
        rw [if_pos ⟨hW, by omega, by omega⟩, hx]
        have := isT_canon hT
        rw [this.1, this.2]
      refine Ev.bind (impl_TimesTurn_ev x y u) ?_
      rw [hV]
      simp only [if_true, beq_self_eq_true, Bool.not_true, Bool.or_self, Bool.false_eq_true, if_false]
      have b1 := mul_bound (a := x) (b := u) (A := 1000000) (B := 10000) (by omega) (by omega) (by omega) (by omega)
      have b2 := mul_bound (a := y) (b := u) (A := 1000000) (B := 10000) (by omega) (by omega) (by omega) (by omega)
      have hxu : x * u < y := by
        have hy : (0 : Rat) < (y : Rat) := cast_pos h1
        have e : ((x * u : Int) : Rat) = (m : Rat) / n * y := by
          rw [Rat.intCast_mul, ← hx]
          have := cast_ne h1
          rw [Rat.div_def]
          have h5 : (y : Rat)⁻¹ * y = 1 := Rat.inv_mul_cancel _ this
          grind
        have l : (m : Rat) / n < 1 := by rw [← isT_fr hT]; exact fr_lt _
        have : ((x * u : Int) : Rat) < (y : Rat) := by
          rw [e]
          have := Rat.mul_lt_mul_of_pos_right l hy
          simpa using this
        exact Rat.intCast_lt_intCast.1 this
      have hxu0 : 0 ≤ x * u := Int.mul_nonneg h2 (by omega)
      have hyu : y ≤ y * u := by have := Int.mul_le_mul_of_nonneg_left (show 1 ≤ u by omega) (Int.le_of_lt h1); omega
      have h0 : Int.tdiv (x * u) y = 0 := Int.tdiv_eq_zero_of_lt hxu0 hxu
      rw [wrap_id (x := x * u) (by omega) (by omega), wrap_id (x := y * u) (by omega) (by omega), h0]
      exact Ev.neg (by omega) (Ev.neg (by omega) (Ev.pos (by unfold wrap64; omega) (ta_j5 p q)))
    · have : mk ((m : Rat) / n / u) = (0, 0, false) := if_neg hk
      rw [this]
      exact Ev.neg (by decide) (ta_j5 p q)
  · have hv : vPart m n u = (0, 0, false) := by unfold vPart; rw [if_neg hr]
    rw [hv]
    exact Ev.neg (by decide) (ta_j5 p q)
theorem ta_j3 (m n u p q : Int) : Ev (fun k => laws_FnTurnsAddedOfAll.j3 k u p q m n) true := by
  refine Ev.step (f := fun k => laws_FnTurnsAddedOfAll.j3 (k + 1) u p q m n) (fun k => rfl) ?_
  simp only [laws_FnTurnsAddedOfAll.j3]
  refine Ev.bind (impl_TimesTurn_ev m n u) (Ev.bind (spec_TimesTurn_ev m n u) (Ev.bind (impl_PartOfTurn_ev m n u) (Ev.bind (spec_PartOfTurn_ev m n u) (Ev.bind (impl_MakeTurn_ev p q) (Ev.bind (spec_MakeTurn_ev p q) ?_)))))
  simp only [bne_self_eq_false, beq_self_eq_true, Bool.not_true, Bool.or_self, Bool.false_eq_true, if_false]
  exact ta_j4 m n u p q
theorem ta_j2 (a b m n u p q : Int) : Ev (fun k => laws_FnTurnsAddedOfAll.j2 k u p q (vMirror a b).2.2 a b m n (vMirror a b).1 (vMirror a b).2.1) true := by
  refine Ev.step (f := fun k => laws_FnTurnsAddedOfAll.j2 (k + 1) u p q (vMirror a b).2.2 a b m n (vMirror a b).1 (vMirror a b).2.1) (fun k => rfl) ?_
  simp only [laws_FnTurnsAddedOfAll.j2]
  by_cases hT : isT a b = true
  · have hv : vMirror a b = (tn (-((a : Rat) / b)), td (-((a : Rat) / b)), true) := by unfold vMirror; rw [if_pos hT]
    rw [hv]
    simp only [if_true]
    obtain ⟨t1, t2, t3, t4, _⟩ := isT_iff.1 hT
    have hc := isT_canon hT
    have hd : td (-((a : Rat) / b)) ≤ 1000000 := by rw [td_neg, hc.2]; omega
    have hW := isT_mk _ hd
    have hxy := tn_td (-((a : Rat) / b))
    generalize tn (-((a : Rat) / b)) = x at *
    generalize td (-((a : Rat) / b)) = y at *
    have hS : vAdd a b x y = (0, 1, true) := by
      unfold vAdd
      rw [hT, hW, if_pos (by decide), hxy]
      have e : fr ((a : Rat) / b + fr (-((a : Rat) / b))) = fr (((0 : Int) : Rat) / ((1 : Int) : Rat)) := by
        rw [fr_add_fr]; congr 1; grind
      have h0 := tt_of_fr e
      rw [(canon (n := 0) (d := 1) (by decide) (by decide) (by decide)).1, (canon (n := 0) (d := 1) (by decide) (by decide) (by decide)).2, Prod.mk.injEq] at h0
      unfold mk
      rw [h0.1, h0.2, if_pos (by decide)]
    have hM : vMirror x y = (a, b, true) := by
      unfold vMirror
      rw [if_pos hW, hxy]
      have e : fr (-fr (-((a : Rat) / b))) = (a : Rat) / b := by
        rw [fr_neg_fr, show -(-((a : Rat) / b)) = (a : Rat) / b by grind, isT_fr hT]
      obtain ⟨e1, e2⟩ := tn_fr _ hT e
      rw [e1, e2]
    refine Ev.bind (impl_AddTurns_ev a b x y) (Ev.bind (impl_MirrorTurn_ev x y) ?_)
    rw [hS, hM]
    simp only [if_true, beq_self_eq_true, Bool.not_true, Bool.or_self, Bool.false_eq_true, if_false]
    exact ta_j3 m n u p q
  · have hv : vMirror a b = (0, 0, false) := by unfold vMirror; rw [if_neg hT]
    rw [hv]
    exact Ev.neg (by decide) (ta_j3 m n u p q)
theorem ta_j1 (a b c d m n u p q : Int) : Ev (fun k => laws_FnTurnsAddedOfAll.j1 k u p q (vAdd a b c d).2.2 (vMirror a b).2.2 a b c d m n (vAdd a b c d).1 (vAdd a b c d).2.1 (vMirror a b).1 (vMirror a b).2.1) true := by
  refine Ev.step (f := fun k => laws_FnTurnsAddedOfAll.j1 (k + 1) u p q (vAdd a b c d).2.2 (vMirror a b).2.2 a b c d m n (vAdd a b c d).1 (vAdd a b c d).2.1 (vMirror a b).1 (vMirror a b).2.1) (fun k => rfl) ?_
  simp only [laws_FnTurnsAddedOfAll.j1]
  by_cases hT : (isT a b && isT c d) = true
  · have hv : vAdd a b c d = mk ((a : Rat) / b + (c : Rat) / d) := by unfold vAdd; rw [if_pos hT]
    rw [hv]
    by_cases hk : td ((a : Rat) / b + (c : Rat) / d) ≤ 1000000
    · rw [mk_of hk]
      simp only [if_true]
      rw [Bool.and_eq_true] at hT
      have hW := isT_mk _ hk
      have hxy := tn_td ((a : Rat) / b + (c : Rat) / d)
      generalize tn ((a : Rat) / b + (c : Rat) / d) = x at *
      generalize td ((a : Rat) / b + (c : Rat) / d) = y at *
      have hS : vLess x y c d = (a, b, true) := by
        unfold vLess
        rw [hW, hT.2, if_pos (by decide), hxy]
        have e : fr (fr ((a : Rat) / b + (c : Rat) / d) - (c : Rat) / d) = (a : Rat) / b := by
          rw [show fr ((a : Rat) / b + (c : Rat) / d) - (c : Rat) / d = fr ((a : Rat) / b + (c : Rat) / d) + (-((c : Rat) / d)) by grind, fr_fr_add, show (a : Rat) / b + (c : Rat) / d + (-((c : Rat) / d)) = (a : Rat) / b by grind, isT_fr hT.1]
        obtain ⟨e1, e2⟩ := tn_fr _ hT.1 e
        have := isT_iff.1 hT.1
        unfold mk
        rw [e1, e2, if_pos (by omega)]
      refine Ev.bind (impl_LessTurn_ev x y c d) (Ev.bind (impl_IsTurn_ev x y) ?_)
      rw [hS, hW]
      simp only [if_true, beq_self_eq_true, Bool.not_true, Bool.or_self, Bool.false_eq_true, if_false]
      exact ta_j2 a b m n u p q
    · have : mk ((a : Rat) / b + (c : Rat) / d) = (0, 0, false) := if_neg hk
      rw [this]
      exact Ev.neg (by decide) (ta_j2 a b m n u p q)
  · have hv : vAdd a b c d = (0, 0, false) := by unfold vAdd; rw [if_neg hT]
    rw [hv]
    exact Ev.neg (by decide) (ta_j2 a b m n u p q)
theorem ta_sg (x y : Int) : sg (x - y) = wrap64 (-(sg (y - x))) := by unfold sg wrap64; split <;> split <;> (try split) <;> (try split) <;> omega
theorem ta_eq {a b c d : Int} (h1 : isT a b = true) (h2 : isT c d = true) : (sg (a * d - c * b) == 0) = (a == c && (b == d)) := by
  obtain ⟨p1, p2, p3, p4, _⟩ := isT_iff.1 h1
  obtain ⟨r1, r2, r3, r4, _⟩ := isT_iff.1 h2
  rw [Bool.eq_iff_iff]
  simp only [beq_iff_eq, Bool.and_eq_true]
  constructor
  · intro e
    have e2 : a * d = c * b := by unfold sg at e; split at e <;> (try split at e) <;> omega
    have e3 : (a : Rat) / b = (c : Rat) / d := by
      have hb := cast_ne (show 0 < b by omega)
      have hd := cast_ne (show 0 < d by omega)
      have e4 : (a : Rat) * d = c * b := by rw [← Rat.intCast_mul, ← Rat.intCast_mul, e2]
      have i1 : (b : Rat) * (b : Rat)⁻¹ = 1 := Rat.mul_inv_cancel _ hb
      have i2 : (d : Rat) * (d : Rat)⁻¹ = 1 := Rat.mul_inv_cancel _ hd
      rw [Rat.div_def, Rat.div_def]
      have : (a : Rat) * (b : Rat)⁻¹ = (a : Rat) * d * ((b : Rat)⁻¹ * (d : Rat)⁻¹) := by grind
      rw [this, e4]
      grind
    have k1 := isT_canon h1
    have k2 := isT_canon h2
    rw [e3] at k1
    omega
  · rintro ⟨rfl, rfl⟩
    rw [Int.sub_self]; decide
theorem ta_add (a b c d : Int) : vAdd c d a b = vAdd a b c d := by
  unfold vAdd
  rw [Bool.and_comm, Rat.add_comm]
theorem ta_j0 (a b c d m n u p q : Int) : Ev (fun k => laws_FnTurnsAddedOfAll.j0 k u p q (vAdd a b c d).2.2 (vCmp a b c d).1 (vCmp a b c d).2 (vMirror a b).2.2 false a b c d m n (vAdd a b c d).1 (vAdd a b c d).2.1 (vMirror a b).1 (vMirror a b).2.1) true := by
  refine Ev.step (f := fun k => laws_FnTurnsAddedOfAll.j0 (k + 1) u p q (vAdd a b c d).2.2 (vCmp a b c d).1 (vCmp a b c d).2 (vMirror a b).2.2 false a b c d m n (vAdd a b c d).1 (vAdd a b c d).2.1 (vMirror a b).1 (vMirror a b).2.1) (fun k => rfl) ?_
  simp only [laws_FnTurnsAddedOfAll.j0, Bool.false_eq_true, if_false]
  by_cases hT : (isT a b && isT c d) = true
  · have hv : vCmp a b c d = (sg (a * d - c * b), true) := by unfold vCmp; rw [if_pos hT]
    have hw : vCmp c d a b = (sg (c * b - a * d), true) := by unfold vCmp; rw [Bool.and_comm, if_pos hT]
    rw [hv]
    simp only [if_true]
    refine Ev.bind (impl_CompareTurns_ev c d a b) (Ev.bind (impl_AddTurns_ev c d a b) ?_)
    rw [hw, ta_add, ← ta_sg]
    rw [Bool.and_eq_true] at hT
    simp only [ta_eq hT.1 hT.2, if_true, bne_self_eq_false, beq_self_eq_true, Bool.not_true, Bool.or_self, Bool.false_eq_true, if_false]
    exact ta_j1 a b c d m n u p q
  · have hv : vCmp a b c d = (0, false) := by unfold vCmp; rw [if_neg hT]
    rw [hv]
    exact Ev.neg (by decide) (ta_j1 a b c d m n u p q)
theorem FnTurnsAddedOfAll : laws_FnTurnsAddedOfAll.Pure := by
  intro a b c d m n u p q _ _ _ _ _ _ _ _ _
  apply Ev.rounds (g := fun k => laws_FnTurnsAddedOfAll.f k a b c d m n u p q)
  unfold laws_FnTurnsAddedOfAll.f
  refine Ev.bind (impl_AddTurns_ev a b c d) (Ev.bind (spec_AddTurns_ev a b c d) (Ev.bind (impl_LessTurn_ev a b c d) (Ev.bind (spec_LessTurn_ev a b c d) (Ev.bind (impl_CompareTurns_ev a b c d) (Ev.bind (spec_CompareTurns_ev a b c d) (Ev.bind (impl_MirrorTurn_ev a b) (Ev.bind (spec_MirrorTurn_ev a b) ?_)))))))
  simp only [bne_self_eq_false, beq_self_eq_true, Bool.not_true, Bool.or_self, Bool.false_eq_true, if_false]
  have key := ta_j0 a b c d m n u p q
  have hm : (vMirror a b).2.2 = isT a b := by unfold vMirror; cases isT a b <;> rfl
  have hc : (vCmp a b c d).2 = (isT a b && isT c d) := by unfold vCmp; cases isT a b && isT c d <;> rfl
  have ha : (vAdd a b c d).2.2 = true → (isT a b && isT c d) = true := by unfold vAdd; cases isT a b && isT c d <;> simp
  have hl : (vLess a b c d).2.2 = true → (isT a b && isT c d) = true := by unfold vLess; cases isT a b && isT c d <;> simp
  rw [hm, hc] at key
  rw [hm, hc]
  generalize (vAdd a b c d).2.2 = x at *
  generalize (vLess a b c d).2.2 = y at *
  refine Ev.pos trivial (Ev.bind (impl_IsTurn_ev a b) (Ev.neg (by simp) (Ev.bind (impl_IsTurn_ev a b) (Ev.bind (spec_IsTurn_ev a b) (Ev.neg (by simp) (Ev.bind (impl_IsTurn_ev a b) ?_))))))
  cases hA : isT a b
  · rw [hA] at key ha hl
    have hx : x = false := by cases x <;> simp_all
    have hy : y = false := by cases y <;> simp_all
    subst hx hy
    simpa using key
  · rw [hA] at key ha hl
    refine Ev.pos rfl (Ev.bind (impl_IsTurn_ev c d) (Ev.neg (by simp) ?_))
    cases hB : isT c d
    · rw [hB] at key ha hl
      have hx : x = false := by cases x <;> simp_all
      have hy : y = false := by cases y <;> simp_all
      subst hx hy
      simpa using key
    · rw [hB] at key
      cases x <;> cases y <;> simpa using key

end Go.Proofs.Ytpmldpfoiljmcaa.Pure
