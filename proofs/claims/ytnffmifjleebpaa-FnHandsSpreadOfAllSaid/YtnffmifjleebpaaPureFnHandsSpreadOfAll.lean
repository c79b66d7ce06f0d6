/- FnHandsSpreadOfAll of the program answers as the reference does, whatever is given: the pure part of the proof. No condition. -/
import Derived.Test.YtnffmifjleebpaaPFnHandsSpreadOfAllx0
import Derived.Test.YtnffmifjleebpaaPFnHandsSpreadOfAllx1
import Derived.Test.YtnffmifjleebpaaPFnHandsSpreadOfAllx2
import Derived.Test.YtnffmifjleebpaaPFnHandsSpreadOfAllx3
import Derived.Test.YtnffmifjleebpaaPFnHandsSpreadOfAllx4
import Derived.Test.YtnffmifjleebpaaPFnHandsSpreadOfAllx5
import Derived.Test.YtnffmifjleebpaaPFnHandsSpreadOfAllx6
import Derived.Test.YtnffmifjleebpaaPFnHandsSpreadOfAllx7
import Derived.Test.YtnffmifjleebpaaPFnHandsSpreadOfAllx8
import Derived.Test.YtnffmifjleebpaaPFnHandsSpreadOfAllx9
import Derived.Test.YtnffmifjleebpaaPFnHandsSpreadOfAllx10c
import Derived.Test.YtnffmifjleebpaaPFnHandsSpreadOfAllx10
import Derived.Test.YtnffmifjleebpaaMath
set_option linter.unusedVariables false
set_option linter.unusedSimpArgs false
namespace Go.Proofs.Ytnffmifjleebpaa.Pure
open Go.RowKit Go.Proofs.Ytnffmifjleebpaa.PFnHandsSpreadOfAll Go.Proofs.YtnffmifjleebpaaW.PrintWords Go.Proofs.YtnffmifjleebpaaW.PrintLast Go.Proofs.YtnffmifjleebpaaW.PrintMore Go.Proofs.Ytnffmifjleebpaa.Math

/-! impl_within -/
theorem impl_within_eq (a b c : Int) : impl_within.f a b c = some (decide (b ≤ a ∧ a ≤ c)) := by
  unfold impl_within.f
  by_cases h : a ≥ b
  · rw [if_pos h]; simp [show b ≤ a from h]
  · rw [if_neg h]; simp [show ¬ b ≤ a from h]

/-! impl_gcd -/
theorem impl_gcd_l0 : ∀ (n : Nat) (a b : Int), 0 ≤ a → a ≤ 9223372036854775807 → 0 ≤ b → b ≤ 9223372036854775807 → b < n → Ev (fun k => impl_gcd.l0 k a b) (Int.gcd a b : Int) := by
  intro n
  induction n with
  | zero => intro a b _ _ h1 _ h2; omega
  | succ n ih =>
    intro a b ha ha' hb hb' hn
    by_cases h : b = 0
    · subst h
      refine Ev.step (f := fun _ => some a) (fun k => ?_) ?_
      · simp only [impl_gcd.l0]
        rw [wrap_id (by omega) (by omega)]
        unfold mx; simp; omega
      · rw [gcd_zero ha]; exact Ev.now a
    · have h1 := tmod_range ha (show 0 < b by omega)
      refine Ev.step (f := fun k => impl_gcd.l0 k b (Int.tmod a b)) (fun k => ?_) ?_
      · simp only [impl_gcd.l0]
        rw [if_neg h]
      · rw [← gcd_step ha (show 0 < b by omega)]
        exact ih b _ (by omega) (by omega) (by omega) (by omega) (by omega)
theorem impl_gcd_ev (a b : Int) (ha : 0 ≤ a) (ha' : a ≤ 9223372036854775807) (hb : 0 ≤ b) (hb' : b ≤ 9223372036854775807) : Ev (fun k => impl_gcd.f k a b) (Int.gcd a b : Int) := by
  unfold impl_gcd.f
  exact impl_gcd_l0 (b.toNat + 1) a b ha ha' hb hb' (by omega)

/-! impl_IsTurn -/
theorem impl_IsTurn_ev (n d : Int) : Ev (fun k => impl_IsTurn.f k n d) (isT n d) := by
  unfold impl_IsTurn.f
  simp only [impl_within_eq, Option.bind_some]
  by_cases h : 1 ≤ d ∧ d ≤ 1000000
  · refine Ev.pos (by simpa using h) ?_
    rw [wrap_id (by omega) (by omega)]
    by_cases h2 : 0 ≤ n ∧ n ≤ d - 1
    · refine Ev.pos (by simpa using h2) ?_
      refine Ev.bind (impl_gcd_ev n d (by omega) (by omega) (by omega) (by omega)) ?_
      refine Ev.val (Ev.now _) ?_
      unfold isT
      rw [Bool.eq_iff_iff]; simp; omega
    · refine Ev.neg (by simpa using h2) ?_
      refine Ev.val (Ev.now _) ?_
      unfold isT
      rw [Bool.eq_iff_iff]; simp; omega
  · refine Ev.neg (by simpa using h) ?_
    refine Ev.val (Ev.now _) ?_
    unfold isT
    rw [Bool.eq_iff_iff]; simp; omega

/-! impl_isCoarse -/
theorem impl_isCoarse_ev (n d : Int) : Ev (fun k => impl_isCoarse.f k n d) (isC n d) := by
  unfold impl_isCoarse.f isC
  refine Ev.bind (impl_IsTurn_ev n d) ?_
  cases isT n d
  · exact Ev.val (Ev.now _) (by simp)
  · exact Ev.val (Ev.now _) (by simp)

/-! impl_IsHand -/
theorem impl_IsHand_ev (n d s : Int) : Ev (fun k => impl_IsHand.f k n d s) (isH n d s) := by
  unfold impl_IsHand.f isH
  refine Ev.bind (impl_isCoarse_ev n d) ?_
  simp only [impl_within_eq, Option.bind_some]
  cases isC n d
  · exact Ev.val (Ev.now _) (by simp)
  · exact Ev.val (Ev.now _) (by simp)

/-! impl_areHands_1 -/
theorem impl_areHands_1_ev (n d s : Int) : Ev (fun k => impl_areHands_1.f k n d s) (!isH n d s) := by
  unfold impl_areHands_1.f
  exact Ev.bind (impl_IsHand_ev n d s) (Ev.now _)

/-! impl_areHands -/
theorem impl_areHands_g : ∀ l : List S26, Ev (fun k => impl_areHands.g k l) (l.all fun x => isH x.f0.f0 x.f0.f1 x.f1)
  | [] => Ev.now _
  | x :: xs => by
    have e : (fun k => impl_areHands.g k (x :: xs)) = fun k => (impl_areHands_1.f k x.f0.f0 x.f0.f1 x.f1).bind fun b => if b = true then some false else impl_areHands.g k xs := by funext k; rfl
    rw [e]
    refine Ev.bind (impl_areHands_1_ev _ _ _) ?_
    rw [List.all_cons]
    cases isH x.f0.f0 x.f0.f1 x.f1
    · exact Ev.pos rfl (Ev.now _)
    · exact Ev.neg (by decide) (impl_areHands_g xs)
theorem impl_areHands_ev (l : List S26) (hl : l.length < 4611686018427387904) : Ev (fun k => impl_areHands.f k l) (l.all fun x => isH x.f0.f0 x.f0.f1 x.f1) := by
  unfold impl_areHands.f
  exact Ev.pos hl (impl_areHands_g l)
theorem impl_areHands_two (a b s c d t : Int) : Ev (fun k => impl_areHands.f k [(⟨(⟨a, b⟩ : S24), s⟩ : S26), (⟨(⟨c, d⟩ : S24), t⟩ : S26)]) (isH a b s && isH c d t) :=
  Ev.val (impl_areHands_ev _ (by simp)) (by simp)

/-! impl_floorDiv -/
theorem impl_floorDiv_eq (a b : Int) (hb : 0 < b) (hb' : b ≤ 4000000000000000000) (ha : -4000000000000000000 ≤ a) (ha' : a ≤ 4000000000000000000) : impl_floorDiv.f a b = some (a / b, a % b) := by
  obtain ⟨h1, h2, h3⟩ := floor_of_trunc a b hb
  obtain ⟨h4, h5⟩ := tdiv_bound a b hb
  have h8 := tmod_bound a b hb
  obtain ⟨h6, h7⟩ := ediv_bound a b hb
  unfold impl_floorDiv.f
  rw [if_neg (by omega)]
  by_cases h : Int.tmod a b < 0
  · rw [if_pos h]
    obtain ⟨e1, e2⟩ := h2 h
    rw [wrap_id (x := Int.tdiv a b) (by omega) (by omega), wrap_id (by omega) (by omega), wrap_id (by omega) (by omega), e1, e2]
  · rw [if_neg h]
    obtain ⟨e1, e2⟩ := h3 (by omega)
    rw [wrap_id (by omega) (by omega), e1, e2]

/-! impl_part -/
theorem impl_part_ev (n d : Int) (hd : 0 < d) (hd' : d ≤ 4000000000000000000) (hn : -4000000000000000000 ≤ n) (hn' : n ≤ 4000000000000000000) : Ev (fun k => impl_part.f k n d) (tn ((n : Rat) / d), td ((n : Rat) / d)) := by
  unfold impl_part.f
  rw [impl_floorDiv_eq n d hd hd' hn hn']
  simp only [Option.bind_some]
  have h0 := Int.emod_nonneg n (show d ≠ 0 by omega)
  have h1 := Int.emod_lt_of_pos n hd
  refine Ev.bind (impl_gcd_ev (n % d) d h0 (by omega) (by omega) (by omega)) ?_
  have hg := gcd_pos' (n % d) hd
  refine Ev.neg (by omega) ?_
  have e1 := Int.tdiv_eq_ediv_of_nonneg (b := (Int.gcd (n % d) d : Int)) h0
  have e2 := Int.tdiv_eq_ediv_of_nonneg (b := (Int.gcd (n % d) d : Int)) (show 0 ≤ d by omega)
  have b1 := ediv_le' h0 hg
  have b2 := ediv_le' (show 0 ≤ d by omega) hg
  rw [e1, e2, wrap_id (by omega) (by omega), wrap_id (by omega) (by omega), tn_div n d hd, td_div n d hd]
  exact Ev.now _

/-! impl_Turn_plus -/
theorem impl_Turn_plus_ev (a b c d : Int) (hb : 0 < b) (hd : 0 < d) (hm : b * d ≤ 1000000000000000000) (ha : -b ≤ a) (ha' : a ≤ b) (hc : -d ≤ c) (hc' : c ≤ d) : Ev (fun k => impl_Turn_plus.f k a b c d) (tn ((a : Rat) / b + (c : Rat) / d), td ((a : Rat) / b + (c : Rat) / d)) := by
  have m1 := mul_bound (a := a) (b := d) (A := b) (B := d) (by omega) (by omega) (by omega) (by omega)
  have m2 := mul_bound (a := c) (b := b) (A := d) (B := b) (by omega) (by omega) (by omega) (by omega)
  have m3 := Int.mul_pos hb hd
  rw [Int.mul_comm d b] at m2
  unfold impl_Turn_plus.f
  rw [wrap_id (x := a * d) (by omega) (by omega), wrap_id (x := c * b) (by omega) (by omega), wrap_id (x := b * d) (by omega) (by omega), wrap_id (by omega) (by omega)]
  rw [← q_add hb hd]
  exact Ev.bind (impl_part_ev _ _ (by omega) (by omega) (by omega) (by omega)) (Ev.now _)
theorem impl_Turn_plus_fr (p q : Rat) (hm : td p * td q ≤ 1000000000000000000) : Ev (fun k => impl_Turn_plus.f k (tn p) (td p) (tn q) (td q)) (tn (p + q), td (p + q)) := by
  have h1 := tn_nonneg p
  have h2 := tn_lt p
  have h3 := tn_nonneg q
  have h4 := tn_lt q
  refine Ev.val (impl_Turn_plus_ev _ _ _ _ (td_pos p) (td_pos q) hm (by omega) (by omega) (by omega) (by omega)) ?_
  rw [tn_td, tn_td]
  exact tt_of_fr (fr_plus p q)

/-! impl_Turn_times -/
theorem impl_Turn_times_ev (a b k : Int) (hb : 0 < b) (hb' : b ≤ 4000000000000000000) (h0 : -4000000000000000000 ≤ a * k) (h1 : a * k ≤ 4000000000000000000) : Ev (fun n => impl_Turn_times.f n a b k) (tn (k * ((a : Rat) / b)), td (k * ((a : Rat) / b))) := by
  unfold impl_Turn_times.f
  rw [wrap_id (by omega) (by omega), ← q_mul hb]
  exact Ev.bind (impl_part_ev _ _ hb hb' h0 h1) (Ev.now _)
theorem impl_Turn_times_fr (p : Rat) (k : Int) (hp : td p ≤ 10000000000) (h0 : -100000 ≤ k) (h1 : k ≤ 100000) : Ev (fun n => impl_Turn_times.f n (tn p) (td p) k) (tn (k * p), td (k * p)) := by
  have h2 := tn_nonneg p
  have h3 := tn_lt p
  have m1 := mul_bound (a := tn p) (b := k) (A := 10000000000) (B := 100000) (by omega) (by omega) h0 h1
  refine Ev.val (impl_Turn_times_ev _ _ k (td_pos p) (by omega) (by omega) (by omega)) ?_
  rw [tn_td]
  exact tt_of_fr (fr_mul_fr k p)
theorem impl_Turn_times_T (a b k : Int) (h : isT a b = true) (h0 : -100000 ≤ k) (h1 : k ≤ 100000) : Ev (fun n => impl_Turn_times.f n a b k) (tn (k * ((a : Rat) / b)), td (k * ((a : Rat) / b))) := by
  obtain ⟨p1, p2, p3, p4, _⟩ := isT_iff.1 h
  have m1 := mul_bound (a := a) (b := k) (A := 1000000) (B := 100000) (by omega) (by omega) h0 h1
  exact impl_Turn_times_ev a b k (by omega) (by omega) (by omega) (by omega)

/-! impl_Hand_at -/
theorem impl_Hand_at_ev (p q : Rat) (s : Int) (hp : td p * td (s * q) ≤ 1000000000000000000) (hq : td q ≤ 10000000000) (h0 : -100000 ≤ s) (h1 : s ≤ 100000) : Ev (fun k => impl_Hand_at.f k (tn p) (td p) s (tn q) (td q)) (tn (p + s * q), td (p + s * q)) := by
  unfold impl_Hand_at.f
  refine Ev.bind (impl_Turn_times_fr q s hq h0 h1) ?_
  exact Ev.bind (impl_Turn_plus_fr p (s * q) hp) (Ev.now _)
theorem impl_Hand_at_T (a b s c d : Int) (h1 : isT a b = true) (h2 : isT c d = true) (h0 : -1000 ≤ s) (h3 : s ≤ 1000) : Ev (fun k => impl_Hand_at.f k a b s c d) (tn ((a : Rat) / b + s * ((c : Rat) / d)), td ((a : Rat) / b + s * ((c : Rat) / d))) := by
  obtain ⟨e1, e2⟩ := isT_canon h1
  obtain ⟨e3, e4⟩ := isT_canon h2
  obtain ⟨p1, p2, p3, p4, _⟩ := isT_iff.1 h1
  obtain ⟨r1, r2, r3, r4, _⟩ := isT_iff.1 h2
  have hq : td ((s : Rat) * ((c : Rat) / d)) ≤ 1000000 := Int.le_trans (td_mul_le (show 0 < d by omega)) r2
  have hq' := td_pos ((s : Rat) * ((c : Rat) / d))
  have := impl_Hand_at_ev ((a : Rat) / b) ((c : Rat) / d) s (by
    have m3 := mul_bound (a := td ((a : Rat) / b)) (b := td ((s : Rat) * ((c : Rat) / d))) (A := 1000000) (B := 1000000) (by omega) (by omega) (by omega) (by omega)
    omega) (by omega) (by omega) (by omega)
  rwa [e1, e2, e3, e4] at this

/-! impl_areTurns_1 -/
theorem impl_areTurns_1_ev (n d : Int) : Ev (fun k => impl_areTurns_1.f k n d) (!isT n d) := by
  unfold impl_areTurns_1.f
  exact Ev.bind (impl_IsTurn_ev n d) (Ev.now _)

/-! impl_areTurns -/
theorem impl_areTurns_g : ∀ l : List S24, Ev (fun k => impl_areTurns.g k l) (l.all fun x => isT x.f0 x.f1)
  | [] => Ev.now _
  | x :: xs => by
    have e : (fun k => impl_areTurns.g k (x :: xs)) = fun k => (impl_areTurns_1.f k x.f0 x.f1).bind fun b => if b = true then some false else impl_areTurns.g k xs := by funext k; rfl
    rw [e]
    refine Ev.bind (impl_areTurns_1_ev _ _) ?_
    rw [List.all_cons]
    cases isT x.f0 x.f1
    · exact Ev.pos rfl (Ev.now _)
    · exact Ev.neg (by decide) (impl_areTurns_g xs)
theorem impl_areTurns_ev (l : List S24) (hl : l.length < 4611686018427387904) : Ev (fun k => impl_areTurns.f k l) (l.all fun x => isT x.f0 x.f1) := by
  unfold impl_areTurns.f
  exact Ev.pos hl (impl_areTurns_g l)
theorem impl_areTurns_two (a b c d : Int) : Ev (fun k => impl_areTurns.f k [(⟨a, b⟩ : S24), (⟨c, d⟩ : S24)]) (isT a b && isT c d) :=
  Ev.val (impl_areTurns_ev _ (by simp)) (by simp)

/-! impl_Turn_minus -/
theorem impl_Turn_minus_ev (a b c d : Int) (hb : 0 < b) (hd : 0 < d) (hm : b * d ≤ 1000000000000000000) (ha : -b ≤ a) (ha' : a ≤ b) (hc : -d ≤ c) (hc' : c ≤ d) : Ev (fun k => impl_Turn_minus.f k a b c d) (tn ((a : Rat) / b - (c : Rat) / d), td ((a : Rat) / b - (c : Rat) / d)) := by
  have m1 := mul_bound (a := a) (b := d) (A := b) (B := d) (by omega) (by omega) (by omega) (by omega)
  have m2 := mul_bound (a := c) (b := b) (A := d) (B := b) (by omega) (by omega) (by omega) (by omega)
  have m3 := Int.mul_pos hb hd
  rw [Int.mul_comm d b] at m2
  unfold impl_Turn_minus.f
  rw [wrap_id (x := a * d) (by omega) (by omega), wrap_id (x := c * b) (by omega) (by omega), wrap_id (x := b * d) (by omega) (by omega), wrap_id (by omega) (by omega)]
  rw [← q_sub hb hd]
  exact Ev.bind (impl_part_ev _ _ (by omega) (by omega) (by omega) (by omega)) (Ev.now _)
theorem impl_Turn_minus_fr (p q : Rat) (hm : td p * td q ≤ 1000000000000000000) : Ev (fun k => impl_Turn_minus.f k (tn p) (td p) (tn q) (td q)) (tn (p - q), td (p - q)) := by
  have h1 := tn_nonneg p
  have h2 := tn_lt p
  have h3 := tn_nonneg q
  have h4 := tn_lt q
  refine Ev.val (impl_Turn_minus_ev _ _ _ _ (td_pos p) (td_pos q) hm (by omega) (by omega) (by omega) (by omega)) ?_
  rw [tn_td, tn_td]
  exact tt_of_fr (fr_minus p q)

/-! h_lists -/
def pk (q : Rat) : S24 := ⟨tn q, td q⟩
/-- The first n of the parts whose s-fold is w, but for whole turns. -/
def rl (w : Rat) (s : Int) (n : Nat) : List S24 := (List.range n).map fun i => pk ((w + (((i : Nat) : Int) : Rat)) / (s : Rat))
theorem rl_succ (w : Rat) (s : Int) (n : Nat) : rl w s (n + 1) = rl w s n ++ [pk ((w + (((n : Nat) : Int) : Rat)) / (s : Rat))] := by
  unfold rl; rw [List.range_succ, List.map_append]; rfl
theorem rl_length (w : Rat) (s : Int) (n : Nat) : (rl w s n).length = n := by unfold rl; simp
def okR (w : Rat) (s : Int) (n : Nat) : Bool := (rl w s n).all fun x => isT x.f0 x.f1
theorem okR_iff {w : Rat} {s : Int} {n : Nat} : okR w s n = true ↔ ∀ i, i < n → td ((w + ((i : Int) : Rat)) / (s : Rat)) ≤ 1000000 := by
  unfold okR rl
  simp only [List.all_map, List.all_eq_true, List.mem_range, Function.comp, pk, isT_tn, decide_eq_true_eq]
theorem rl_get (w : Rat) (s : Int) (n : Nat) (i : Int) (h0 : 0 ≤ i) (h1 : i < n) : rd_T24 (rl w s n) i = pk ((w + (i : Rat)) / (s : Rat)) := by
  unfold rd_T24 rl
  rw [List.getD_eq_getElem?_getD, List.getElem?_map, List.getElem?_range (by omega)]
  simp only [Option.map_some, Option.getD_some]
  rw [show ((i.toNat : Nat) : Int) = i by omega]
def vRoots (w : Rat) (s : Int) : List S24 × Bool := if okR w s s.toNat = true then (rl w s s.toNat, true) else ([], false)
/-- The times at which a hand with the speed s has gone on by q. -/
def vTimesAt (q : Rat) (s : Int) : List S24 × Bool := if s < 0 then vRoots (fr (-q)) (-s) else vRoots (fr q) s
theorem vTimesAt_no {q : Rat} {s : Int} (hs : s ≠ 0) (hq : 1000000 < td q) : vTimesAt q s = ([], false) := by
  unfold vTimesAt vRoots
  by_cases h : s < 0
  · rw [if_pos h, if_neg]
    intro ho
    have h1 := okR_iff.1 ho 0 (by omega)
    have h2 := td_root (-q) (-s) 0 (by omega)
    rw [td_neg] at h2
    simp only [Int.cast_ofNat_Int] at h1 h2
    omega
  · rw [if_neg h, if_neg]
    intro ho
    have h1 := okR_iff.1 ho 0 (by omega)
    have h2 := td_root q s 0 (by omega)
    simp only [Int.cast_ofNat_Int] at h1 h2
    omega
theorem vRoots_len {w : Rat} {s : Int} (hs : 0 ≤ s) : (vRoots w s).1.length ≤ s := by
  unfold vRoots
  split
  · rw [rl_length]; omega
  · exact hs
theorem vTimesAt_len {q : Rat} {s : Int} (h0 : -1000 ≤ s) (h1 : s ≤ 1000) : (vTimesAt q s).1.length ≤ 1000 := by
  unfold vTimesAt
  split
  · have := vRoots_len (w := fr (-q)) (show 0 ≤ -s by omega); omega
  · have := vRoots_len (w := fr q) (show 0 ≤ s by omega); omega

/-! impl_ifTurns -/
theorem impl_ifTurns_ev (l : List S24) (b : Bool) (hl : l.length < 4611686018427387904) : Ev (fun k => impl_ifTurns.f k l b) (if (b && l.all fun x => isT x.f0 x.f1) = true then (l, true) else ([], false)) := by
  unfold impl_ifTurns.f
  cases b
  · exact Ev.neg (by decide) (Ev.now _)
  refine Ev.pos rfl ?_
  refine Ev.bind (impl_areTurns_ev l hl) ?_
  rw [Bool.true_and]
  split <;> exact Ev.now _
theorem impl_ifTurns_roots (w : Rat) (s : Int) (hs : s ≤ 100000) : Ev (fun k => impl_ifTurns.f k (rl w s s.toNat) (okR w s s.toNat)) (vRoots w s) := by
  refine Ev.val (impl_ifTurns_ev _ _ (by rw [rl_length]; omega)) ?_
  show (if (okR w s s.toNat && okR w s s.toNat) = true then _ else _) = _
  rw [Bool.and_self]; rfl

/-! h_gaps -/
/-! ### the gaps between hands -/
def gpOK (x : S24) : Bool := isT x.f0 x.f1
theorem gp_srt {x : S24} (h : gpOK x = true) : srt_ok x := by
  obtain ⟨h1, h2, h3, h4, h5⟩ := isT_iff.1 h
  exact ⟨h3, by omega, h1, h2, h5⟩
/-- where the hands stand -/
def gpQ (m n : Int) (x : S26) : Rat := (x.f0.f0 : Rat) / x.f0.f1 + x.f1 * ((m : Rat) / n)
def gpPlace (m n : Int) (x : S26) : S24 := ⟨tn (gpQ m n x), td (gpQ m n x)⟩
/-- what lies between neighbours -/
def gpD (p q : S24) : Rat := (p.f0 : Rat) / p.f1 - (q.f0 : Rat) / q.f1
def gpDiff (p q : S24) : S24 := ⟨tn (gpD p q), td (gpD p q)⟩
def gpNth (l : List S24) (i : Nat) : S24 := gpDiff (l.getD ((i + 1) % l.length) z24) (l.getD i z24)
def gpAll (l : List S24) : List S24 := (List.range l.length).map (gpNth l)
def gpGood (l : List S26) : Bool := l.all fun x => isH x.f0.f0 x.f0.f1 x.f1
def gpEnd (S : List S24) : List S24 × Bool := if ((gpAll S).all gpOK) = true then (gpAll S, true) else ([], false)
def gpMid (l : List S26) (m n : Int) : List S24 × Bool := if ((l.map (gpPlace m n)).all gpOK) = true then gpEnd ((l.map (gpPlace m n)).mergeSort srt_le) else ([], false)
def vGaps (l : List S26) (m n : Int) : List S24 × Bool :=
  if 1 ≤ l.length ∧ l.length ≤ 12 then if gpGood l = true then if isT m n = true then gpMid l m n else ([], false) else ([], false) else ([], false)
theorem gpAll_len (l : List S24) : (gpAll l).length = l.length := by unfold gpAll; simp
theorem gpEnd_len (S : List S24) : (gpEnd S).1.length ≤ S.length := by
  unfold gpEnd
  split
  · rw [gpAll_len]; exact Nat.le_refl _
  · exact Nat.zero_le _
theorem vGaps_len (l : List S26) (m n : Int) : (vGaps l m n).1.length ≤ 12 := by
  unfold vGaps gpMid
  split
  · rename_i h
    split
    · split
      · split
        · refine Nat.le_trans (gpEnd_len _) ?_
          rw [List.length_mergeSort, List.length_map]; exact h.2
        · simp
      · simp
    · simp
  · simp
theorem gp_rd (l : List S24) (i : Nat) : rd_T24 l (i : Int) = l.getD i z24 := by unfold rd_T24; rw [Int.toNat_natCast]
theorem gp_mod (i n : Nat) (hn : 0 < n) (hi : i < 2000000) : Int.tmod (wrap64 ((i : Int) + 1)) (n : Int) = (((i + 1) % n : Nat) : Int) := by
  rw [wrap_id (x := (i : Int) + 1) (by omega) (by omega), show (i : Int) + 1 = ((i + 1 : Nat) : Int) by omega]
  rfl
theorem gpAll_take (S : List S24) (i : Nat) (h : i < S.length) : (gpAll S).take (i + 1) = (gpAll S).take i ++ [gpNth S i] := by
  rw [List.take_add_one]
  unfold gpAll
  rw [List.getElem?_map, List.getElem?_range h]; rfl
/-! an insertion sort does the same -/
def gpIns (p : S24) : List S24 → List S24
  | [] => [p]
  | x :: xs => if srt_le x p = true then x :: gpIns p xs else p :: x :: xs
theorem gpIns_perm (p : S24) : ∀ l, (gpIns p l).Perm (p :: l)
  | [] => List.Perm.refl _
  | x :: xs => by
    unfold gpIns
    split
    · exact ((gpIns_perm p xs).cons x).trans (List.Perm.swap _ _ _)
    · exact List.Perm.refl _
theorem srt_le_iff (x y : S24) : srt_le x y = true ↔ x.f0 * y.f1 ≤ y.f0 * x.f1 := by
  unfold srt_le
  rw [Bool.not_eq_true', decide_eq_false_iff_not, Int.not_lt]
theorem srt_le_trans {x y z : S24} (hx : gpOK x = true) (hy : gpOK y = true) (hz : gpOK z = true) (h1 : srt_le x y = true) (h2 : srt_le y z = true) : srt_le x z = true := by
  rw [srt_le_iff] at *
  obtain ⟨a1, a2, a3, a4, _⟩ := isT_iff.1 hx
  obtain ⟨b1, b2, b3, b4, _⟩ := isT_iff.1 hy
  obtain ⟨c1, c2, c3, c4, _⟩ := isT_iff.1 hz
  exact srt_tr' (by omega) (by omega) (by omega) h1 h2
theorem srt_le_total (x y : S24) (h : ¬ srt_le x y = true) : srt_le y x = true := by
  rw [srt_le_iff] at *; omega
theorem srt_le_anti {x y : S24} (hx : gpOK x = true) (hy : gpOK y = true) (h1 : srt_le x y = true) (h2 : srt_le y x = true) : x = y := by
  rw [srt_le_iff] at *
  have := srt_one ⟨x, gp_srt hx⟩ ⟨y, gp_srt hy⟩ (by rw [srt_lt]; exact decide_eq_false (by simp only; omega)) (by rw [srt_lt]; exact decide_eq_false (by simp only; omega))
  exact congrArg Subtype.val this
theorem gpIns_mem {p y : S24} {l : List S24} (h : y ∈ gpIns p l) : y = p ∨ y ∈ l := by
  have := (gpIns_perm p l).mem_iff.1 h
  simpa using this
theorem gpIns_pair (p : S24) (hp : gpOK p = true) : ∀ (l : List S24), (∀ x ∈ l, gpOK x = true) → l.Pairwise (fun x y => srt_le x y = true) → (gpIns p l).Pairwise (fun x y => srt_le x y = true)
  | [], _, _ => by simp [gpIns]
  | x :: xs, h, hs => by
    rw [List.pairwise_cons] at hs
    unfold gpIns
    split
    · rename_i hc
      rw [List.pairwise_cons]
      refine ⟨fun y hy => ?_, gpIns_pair p hp xs (fun y hy => h y (List.mem_cons_of_mem _ hy)) hs.2⟩
      rcases gpIns_mem hy with rfl | hy
      · exact hc
      · exact hs.1 y hy
    · rename_i hc
      have hc' := srt_le_total _ _ hc
      rw [List.pairwise_cons, List.pairwise_cons]
      refine ⟨fun y hy => ?_, hs.1, hs.2⟩
      rcases List.mem_cons.1 hy with rfl | hy
      · exact hc'
      · exact srt_le_trans hp (h x List.mem_cons_self) (h y (List.mem_cons_of_mem _ hy)) hc' (hs.1 y hy)
def gpSort (l : List S24) : List S24 := l.foldl (fun acc p => gpIns p acc) []
theorem gpSort_snoc (l : List S24) (p : S24) : gpSort (l ++ [p]) = gpIns p (gpSort l) := by unfold gpSort; rw [List.foldl_append]; rfl
theorem gpFold_perm : ∀ (l acc : List S24), (l.foldl (fun acc p => gpIns p acc) acc).Perm (l ++ acc)
  | [], acc => List.Perm.refl _
  | p :: ps, acc => by
    rw [List.foldl_cons]
    refine (gpFold_perm ps (gpIns p acc)).trans ?_
    refine (List.Perm.append_left ps (gpIns_perm p acc)).trans ?_
    exact List.perm_middle
theorem gpSort_perm (l : List S24) : (gpSort l).Perm l := by have := gpFold_perm l []; rwa [List.append_nil] at this
theorem gpFold_pair : ∀ (l acc : List S24), (∀ x ∈ l, gpOK x = true) → (∀ x ∈ acc, gpOK x = true) → acc.Pairwise (fun x y => srt_le x y = true) → (l.foldl (fun acc p => gpIns p acc) acc).Pairwise (fun x y => srt_le x y = true)
  | [], acc, _, _, h => h
  | p :: ps, acc, h1, h2, h => by
    rw [List.foldl_cons]
    refine gpFold_pair ps _ (fun x hx => h1 x (List.mem_cons_of_mem _ hx)) (fun x hx => ?_) (gpIns_pair p (h1 p List.mem_cons_self) acc h2 h)
    rcases gpIns_mem hx with rfl | hx
    · exact h1 _ List.mem_cons_self
    · exact h2 x hx
theorem gpMerge_pair (l : List S24) (h : ∀ x ∈ l, srt_ok x) : (l.mergeSort srt_le).Pairwise (fun x y => srt_le x y = true) := by
  rw [← srt_merge l h, List.pairwise_map]
  have := List.pairwise_mergeSort (le := fun x y : SrtT => !(ltOf srt_cf) y x) (fun a b c h1 h2 => by
    simp only [Bool.not_eq_true'] at *
    exact srt_swo.ntrans _ _ _ h2 h1) (fun a b => by
    cases h1 : ltOf srt_cf b a
    · rfl
    · cases h2 : ltOf srt_cf a b
      · rfl
      · have := srt_swo.trans _ _ _ h1 h2
        rw [srt_swo.irrefl] at this; cases this) (srt_arr l h).toList
  refine this.imp (fun {a b} hab => ?_)
  rw [srt_lt] at hab
  exact hab
theorem gpSort_eq (l : List S24) (h : (l.all gpOK) = true) : gpSort l = l.mergeSort srt_le := by
  have h' : ∀ x ∈ l, gpOK x = true := List.all_eq_true.1 h
  refine List.Perm.eq_of_pairwise (le := fun x y => srt_le x y = true) (fun a b ha hb h1 h2 => srt_le_anti (h' a ((gpSort_perm l).mem_iff.1 ha)) (h' b ((List.mergeSort_perm l srt_le).mem_iff.1 hb)) h1 h2) (gpFold_pair l [] h' (fun x hx => by simp at hx) List.Pairwise.nil) (gpMerge_pair l (fun x hx => gp_srt (h' x hx))) ((gpSort_perm l).trans (List.mergeSort_perm l srt_le).symm)
theorem gpIns_at (p : S24) : ∀ (S : List S24) (j : Nat), j ≤ S.length → (∀ x ∈ S.take j, srt_le x p = true) → (∀ h : j < S.length, ¬ srt_le S[j] p = true) → gpIns p S = S.take j ++ [p] ++ S.drop j
  | [], j, hj, _, _ => by
    have : j = 0 := by simpa using hj
    subst this; rfl
  | x :: xs, 0, _, _, h => by
    have := h (by simp)
    unfold gpIns
    rw [if_neg (by simpa using this)]; rfl
  | x :: xs, j + 1, hj, h1, h2 => by
    unfold gpIns
    rw [if_pos (h1 x (by rw [List.take_succ_cons]; exact List.mem_cons_self))]
    rw [gpIns_at p xs j (by simpa using hj) (fun y hy => h1 y (by rw [List.take_succ_cons]; exact List.mem_cons_of_mem _ hy)) (fun h => by have := h2 (by simpa using h); simpa using this)]
    rw [List.take_succ_cons, List.drop_succ_cons]; rfl
theorem gpIns_len (p : S24) (l : List S24) : (gpIns p l).length = l.length + 1 := by rw [(gpIns_perm p l).length_eq]; rfl

/-! impl_GapsAt -/
theorem impl_GapsAt_l1 (S : List S24) (hS : ∀ x ∈ S, gpOK x = true) (hl : S.length ≤ 12) : ∀ (r i : Nat), S.length - i = r → i ≤ S.length → Ev (fun k => impl_GapsAt.l1 k S ((gpAll S).take i) S (S.length : Int) (i : Int)) (gpEnd S) := by
  intro r
  induction r with
  | zero =>
    intro i h0 h1
    have hi : i = S.length := by omega
    refine Ev.step (f := fun k => (impl_ifTurns.f k (gpAll S) true).bind fun bt => (some (bt.1, bt.2))) (fun k => ?_) ?_
    · simp only [impl_GapsAt.l1]
      rw [if_neg (by omega), hi, List.take_of_length_le (by rw [gpAll_len]; exact Nat.le_refl _)]
    · refine Ev.bind (impl_ifTurns_ev (gpAll S) true (by rw [gpAll_len]; omega)) ?_
      rw [Bool.true_and]
      exact Ev.now _
  | succ r ih =>
    intro i h0 h1
    have hlt : i < S.length := by omega
    have hm : (i + 1) % S.length < S.length := Nat.mod_lt _ (by omega)
    have q1 : gpOK (S.getD ((i + 1) % S.length) z24) = true := by rw [List.getD_eq_getElem?_getD, List.getElem?_eq_getElem hm]; exact hS _ (List.getElem_mem hm)
    have q2 : gpOK (S.getD i z24) = true := by rw [List.getD_eq_getElem?_getD, List.getElem?_eq_getElem hlt]; exact hS _ (List.getElem_mem hlt)
    obtain ⟨a1, a2, a3, a4, _⟩ := isT_iff.1 q1
    obtain ⟨b1, b2, b3, b4, _⟩ := isT_iff.1 q2
    have hb := mul_bound (a := (S.getD ((i + 1) % S.length) z24).f1) (b := (S.getD i z24).f1) (A := 1000000) (B := 1000000) (by omega) (by omega) (by omega) (by omega)
    have ih' := ih (i + 1) (by omega) (by omega)
    rw [gpAll_take S i hlt] at ih'
    have hacc : ((gpAll S).take i).length ≤ 12 := by rw [List.length_take, gpAll_len]; omega
    generalize (gpAll S).take i = acc at ih' hacc ⊢
    refine Ev.step (f := fun k => (impl_Turn_minus.f k (S.getD ((i + 1) % S.length) z24).f0 (S.getD ((i + 1) % S.length) z24).f1 (S.getD i z24).f0 (S.getD i z24).f1).bind fun bt => (if acc.length < 8796093022208 then (impl_GapsAt.l1 k S (acc ++ [⟨bt.1, bt.2⟩]) S (S.length : Int) ((i + 1 : Nat) : Int)) else none)) (fun k => ?_) ?_
    · simp only [impl_GapsAt.l1]
      rw [if_pos (by omega), if_pos (by omega), if_pos (by omega), if_neg (by omega), gp_mod i S.length (by omega) (by omega), if_pos (by omega), if_pos (by omega), gp_rd, gp_rd, wrap_id (x := (i : Int) + 1) (by omega) (by omega)]
      rfl
    · refine Ev.bind (impl_Turn_minus_ev _ _ _ _ (by omega) (by omega) (by omega) (by omega) (by omega) (by omega) (by omega)) ?_
      exact Ev.pos (by omega) ih'
theorem impl_GapsAt_l0 (l : List S26) (m n : Int) (hl : l.length ≤ 12) (hg : gpGood l = true) (ht : isT m n = true) : ∀ (r i : Nat), l.length - i = r → i ≤ l.length → Ev (fun k => impl_GapsAt.l0 k ((l.map (gpPlace m n)).take i) l (l.length : Int) (i : Int) m n) (gpMid l m n) := by
  intro r
  induction r with
  | zero =>
    intro i h0 h1
    have hi : i = l.length := by omega
    have hL : (l.map (gpPlace m n)).length = l.length := List.length_map _
    have e0 : (l.map (gpPlace m n)).take i = l.map (gpPlace m n) := List.take_of_length_le (by omega)
    rw [e0]
    unfold gpMid
    generalize l.map (gpPlace m n) = P at hL ⊢
    refine Ev.step (f := fun k => (impl_areTurns.f k P).bind fun t => (if t = true then ((impl_GapsAt_sort.f P).bind fun S => (impl_GapsAt.l1 k S [] S (P.length : Int) 0)) else (some ([], false)))) (fun k => ?_) ?_
    · simp only [impl_GapsAt.l0]
      rw [if_neg (by omega)]
    · refine Ev.bind (impl_areTurns_ev P (by omega)) ?_
      show Ev _ (if (P.all gpOK) = true then _ else _)
      by_cases hP : (P.all gpOK) = true
      · refine Ev.pos hP ?_
        rw [if_pos hP]
        have hP' : ∀ x ∈ P, gpOK x = true := List.all_eq_true.1 hP
        have hs : impl_GapsAt_sort.f P = some (P.mergeSort srt_le) := by
          unfold impl_GapsAt_sort.f
          rw [if_pos ⟨List.all_eq_true.2 (fun x hx => decide_eq_true (gp_srt (hP' x hx))), by omega⟩]
        rw [hs]
        simp only [Option.bind_some]
        have hL2 : (P.mergeSort srt_le).length = P.length := List.length_mergeSort _
        rw [← hL2]
        exact impl_GapsAt_l1 (P.mergeSort srt_le) (fun x hx => hP' x ((List.mergeSort_perm P srt_le).mem_iff.1 hx)) (by omega) _ 0 rfl (by omega)
      · refine Ev.neg hP ?_
        rw [if_neg hP]; exact Ev.now _
  | succ r ih =>
    intro i h0 h1
    have hlt : i < l.length := by omega
    have hr : rd_T26 l (i : Int) = l[i] := by unfold rd_T26; rw [List.getD_eq_getElem?_getD, show ((i : Int)).toNat = i from Int.toNat_natCast i, List.getElem?_eq_getElem hlt]; rfl
    have hh : isH l[i].f0.f0 l[i].f0.f1 l[i].f1 = true := List.all_eq_true.1 hg _ (List.getElem_mem hlt)
    obtain ⟨u1, u2⟩ := isH_speed hh
    have p0 := (isC_iff.1 (isH_iff.1 hh).1).1
    have ih' := ih (i + 1) (by omega) (by omega)
    have e1 : (l.map (gpPlace m n)).take (i + 1) = (l.map (gpPlace m n)).take i ++ [gpPlace m n l[i]] := by
      rw [List.take_add_one, List.getElem?_map, List.getElem?_eq_getElem hlt]; rfl
    rw [e1] at ih'
    have hacc : ((l.map (gpPlace m n)).take i).length ≤ 12 := by rw [List.length_take, List.length_map]; omega
    generalize (l.map (gpPlace m n)).take i = acc at ih' hacc ⊢
    refine Ev.step (f := fun k => (impl_Hand_at.f k l[i].f0.f0 l[i].f0.f1 l[i].f1 m n).bind fun bt => (if acc.length < 8796093022208 then (impl_GapsAt.l0 k (acc ++ [⟨bt.1, bt.2⟩]) l (l.length : Int) ((i + 1 : Nat) : Int) m n) else none)) (fun k => ?_) ?_
    · simp only [impl_GapsAt.l0]
      rw [if_pos (by omega), if_pos (by omega), if_pos (by omega), hr, wrap_id (x := (i : Int) + 1) (by omega) (by omega)]
      rfl
    · refine Ev.bind (impl_Hand_at_T _ _ _ m n p0 ht (by omega) (by omega)) ?_
      exact Ev.pos (by omega) ih'
theorem impl_GapsAt_ev (l : List S26) (m n : Int) (hlen : l.length ≤ 2000000) : Ev (fun k => impl_GapsAt.f k l m n) (vGaps l m n) := by
  unfold impl_GapsAt.f vGaps
  have no : Ev (fun k => impl_GapsAt.j0 k l true m n) ([], false) := by
    refine Ev.step (f := fun _ => some ([], false)) (fun k => ?_) (Ev.now _)
    simp only [impl_GapsAt.j0]; rfl
  rw [impl_within_eq]
  simp only [Option.bind_some]
  by_cases h1 : 1 ≤ l.length ∧ l.length ≤ 12
  · rw [if_pos h1]
    refine Ev.pos (by rw [decide_eq_true_iff]; omega) ?_
    refine Ev.bind (impl_areHands_ev l (by omega)) ?_
    by_cases h2 : gpGood l = true
    · rw [if_pos h2]
      refine Ev.pos h2 ?_
      refine Ev.bind (impl_IsTurn_ev m n) ?_
      cases h3 : isT m n
      · exact no
      · rw [if_pos rfl]
        refine Ev.step (f := fun k => impl_GapsAt.l0 k [] l (l.length : Int) 0 m n) (fun k => ?_) ?_
        · simp only [impl_GapsAt.j0]; rfl
        · exact impl_GapsAt_l0 l m n h1.2 h2 h3 _ 0 rfl (by omega)
    · rw [if_neg h2]
      exact Ev.neg h2 no
  · rw [if_neg h1]
    exact Ev.neg (by rw [decide_eq_true_iff]; omega) no

/-! spec_l1In -/
theorem spec_l1In_eq (a b c : Int) : spec_l1In.f a b c = some (decide (b ≤ a ∧ a ≤ c)) := by
  unfold spec_l1In.f
  by_cases h : a ≥ b
  · rw [if_pos h]; simp [show b ≤ a from h]
  · rw [if_neg h]; simp [show ¬ b ≤ a from h]

/-! spec_diCommon -/
theorem spec_diCommon_l0 : ∀ (n : Nat) (a b : Int), 0 ≤ a → 0 ≤ b → b < n → Ev (fun k => spec_diCommon.l0 k a b) (Int.gcd a b : Int) := by
  intro n
  induction n with
  | zero => intro a b _ h1 h2; omega
  | succ n ih =>
    intro a b ha hb hn
    by_cases h : b = 0
    · subst h
      refine Ev.step (f := fun _ => some a) (fun k => ?_) ?_
      · simp only [spec_diCommon.l0]
        rw [if_neg (by omega)]
      · rw [gcd_zero ha]; exact Ev.now a
    · have h1 := tmod_range ha (show 0 < b by omega)
      refine Ev.step (f := fun k => spec_diCommon.l0 k b (Int.tmod a b)) (fun k => ?_) ?_
      · simp only [spec_diCommon.l0]
        rw [if_pos (by omega), if_neg h]
      · rw [← gcd_step ha (show 0 < b by omega)]
        exact ih b _ (by omega) (by omega) (by omega)
theorem spec_diCommon_ev (a b : Int) (ha : 0 ≤ a) (hb : 0 ≤ b) : Ev (fun k => spec_diCommon.f k a b) (Int.gcd a b : Int) := by
  unfold spec_diCommon.f
  exact spec_diCommon_l0 (b.toNat + 1) a b ha hb (by omega)

/-! spec_diGood -/
theorem spec_diGood_ev (n d : Int) : Ev (fun k => spec_diGood.f k n d) (isT n d) := by
  unfold spec_diGood.f
  simp only [spec_l1In_eq, Option.bind_some]
  by_cases h : 1 ≤ d ∧ d ≤ 1000000
  · refine Ev.pos (by simpa using h) ?_
    rw [wrap_id (by omega) (by omega)]
    by_cases h2 : 0 ≤ n ∧ n ≤ d - 1
    · refine Ev.pos (by simpa using h2) ?_
      refine Ev.bind (spec_diCommon_ev n d (by omega) (by omega)) ?_
      refine Ev.val (Ev.now _) ?_
      unfold isT
      rw [Bool.eq_iff_iff]; simp; omega
    · refine Ev.neg (by simpa using h2) ?_
      refine Ev.val (Ev.now _) ?_
      unfold isT
      rw [Bool.eq_iff_iff]; simp; omega
  · refine Ev.neg (by simpa using h) ?_
    refine Ev.val (Ev.now _) ?_
    unfold isT
    rw [Bool.eq_iff_iff]; simp; omega

/-! spec_meGood -/
theorem spec_meGood_ev (n d s : Int) : Ev (fun k => spec_meGood.f k n d s) (isH n d s) := by
  unfold spec_meGood.f isH isC
  refine Ev.bind (spec_diGood_ev n d) ?_
  simp only [spec_l1In_eq, Option.bind_some]
  cases isT n d
  · exact Ev.val (Ev.now _) (by simp)
  · by_cases h : d ≤ 1000
    · refine Ev.pos rfl (Ev.pos h ?_)
      exact Ev.val (Ev.now _) (by simp [h])
    · refine Ev.pos rfl (Ev.neg h ?_)
      exact Ev.val (Ev.now _) (by simp [h])

/-! spec_diMake -/
theorem spec_diMake_ev (n d : Int) (hd : 0 < d) (hd' : d ≤ 4000000000000000000) (hn : -4000000000000000000 ≤ n) (hn' : n ≤ 4000000000000000000) : Ev (fun k => spec_diMake.f k n d) (mk ((n : Rat) / d)) := by
  unfold spec_diMake.f
  refine Ev.neg (by omega) ?_
  have h0 := Int.emod_nonneg n (show d ≠ 0 by omega)
  have h1 := Int.emod_lt_of_pos n hd
  obtain ⟨t1, t2⟩ := tmod_bound n d hd
  have e0 : Int.tmod (wrap64 (Int.tmod n d + d)) d = n % d := by
    rw [wrap_id (by omega) (by omega)]; exact tmod_tmod n d hd
  rw [e0]
  refine Ev.bind (spec_diCommon_ev (n % d) d h0 (by omega)) ?_
  have hg := gcd_pos' (n % d) hd
  refine Ev.neg (by omega) ?_
  have e1 := Int.tdiv_eq_ediv_of_nonneg (b := (Int.gcd (n % d) d : Int)) h0
  have e2 := Int.tdiv_eq_ediv_of_nonneg (b := (Int.gcd (n % d) d : Int)) (show 0 ≤ d by omega)
  have b1 := ediv_le' h0 hg
  have b2 := ediv_le' (show 0 ≤ d by omega) hg
  rw [e1, e2, wrap_id (by omega) (by omega), wrap_id (by omega) (by omega)]
  unfold mk
  rw [tn_div n d hd, td_div n d hd]
  by_cases h : d / (Int.gcd (n % d) d : Int) > 1000000
  · rw [if_pos h, if_neg (by omega)]; exact Ev.now _
  · rw [if_neg h, if_pos (by omega)]; exact Ev.now _

/-! spec_diAdd -/
theorem spec_diAdd_ev (a b c d t : Int) (hb : 0 < b) (hd : 0 < d) (hm : b * d ≤ 1000000000000000) (ha : -b ≤ a) (ha' : a ≤ b) (hc : -d ≤ c) (hc' : c ≤ d) (ht : -1000 ≤ t) (ht' : t ≤ 1000) : Ev (fun k => spec_diAdd.f k a b c d t) (mk ((a : Rat) / b + t * ((c : Rat) / d))) := by
  have m1 := mul_bound (a := a) (b := d) (A := b) (B := d) (by omega) (by omega) (by omega) (by omega)
  have m2 := mul_bound (a := t) (b := c) (A := 1000) (B := d) (by omega) (by omega) (by omega) (by omega)
  have m4 := mul_bound (a := t * c) (b := b) (A := 1000 * d) (B := b) (by omega) (by omega) (by omega) (by omega)
  have m3 := Int.mul_pos hb hd
  have m5 : d ≤ b * d := by have := Int.mul_le_mul_of_nonneg_right (show 1 ≤ b by omega) (show 0 ≤ d by omega); omega
  rw [Int.mul_assoc, Int.mul_comm d b] at m4
  unfold spec_diAdd.f
  rw [wrap_id (x := a * d) (by omega) (by omega), wrap_id (x := t * c) (by omega) (by omega), wrap_id (x := t * c * b) (by omega) (by omega), wrap_id (x := b * d) (by omega) (by omega), wrap_id (by omega) (by omega)]
  rw [← q_add_mul hb hd]
  exact Ev.bind (spec_diMake_ev _ _ (by omega) (by omega) (by omega) (by omega)) (Ev.now _)
theorem spec_diAdd_T (a b c d t : Int) (h1 : isT a b = true) (h2 : isT c d = true) (ht : -1000 ≤ t) (ht' : t ≤ 1000) : Ev (fun k => spec_diAdd.f k a b c d t) (mk ((a : Rat) / b + t * ((c : Rat) / d))) := by
  obtain ⟨p1, p2, p3, p4, _⟩ := isT_iff.1 h1
  obtain ⟨r1, r2, r3, r4, _⟩ := isT_iff.1 h2
  have m3 := mul_bound (a := b) (b := d) (A := 1000000) (B := 1000000) (by omega) (by omega) (by omega) (by omega)
  exact spec_diAdd_ev a b c d t (by omega) (by omega) (by omega) (by omega) (by omega) (by omega) (by omega) ht ht'

/-! spec_meAt -/
theorem spec_meAt_ev (a b s c d : Int) (h1 : isT a b = true) (h2 : isT c d = true) (h0 : -1000 ≤ s) (h3 : s ≤ 1000) : Ev (fun k => spec_meAt.f k a b s c d) (mk ((a : Rat) / b + s * ((c : Rat) / d))) := by
  unfold spec_meAt.f
  exact Ev.bind (spec_diAdd_T a b c d s h1 h2 h0 h3) (Ev.now _)

/-! spec_l1Sign -/
theorem spec_l1Sign_eq (a : Int) : spec_l1Sign.f a = some (sg a) := by
  unfold spec_l1Sign.f sg
  split
  · rfl
  · split <;> rfl

/-! spec_diCompare -/
theorem spec_diCompare_eq (a b c d : Int) (ha : isT a b = true) (hc : isT c d = true) : spec_diCompare.f a b c d = some (sg (a * d - c * b)) := by
  obtain ⟨p1, p2, p3, p4, _⟩ := isT_iff.1 ha
  obtain ⟨r1, r2, r3, r4, _⟩ := isT_iff.1 hc
  have m1 := mul_bound (a := a) (b := d) (A := 1000000) (B := 1000000) (by omega) (by omega) (by omega) (by omega)
  have m2 := mul_bound (a := c) (b := b) (A := 1000000) (B := 1000000) (by omega) (by omega) (by omega) (by omega)
  unfold spec_diCompare.f
  rw [wrap_id (x := a * d) (by omega) (by omega), wrap_id (x := c * b) (by omega) (by omega), wrap_id (by omega) (by omega)]
  simp only [spec_l1Sign_eq, Option.bind_some]

/-! spec_meGaps -/
theorem mk_ok {q : Rat} : (mk q).2.2 = decide (td q ≤ 1000000) := by unfold mk; split <;> simp [*]
theorem spec_meGaps_l2 (S : List S24) (hS : ∀ x ∈ S, gpOK x = true) (hl : S.length ≤ 12) : ∀ (r i : Nat), S.length - i = r → i ≤ S.length → (∀ x ∈ (gpAll S).take i, gpOK x = true) → Ev (fun k => spec_meGaps.l2 k S ((gpAll S).take i) (S.length : Int) (i : Int)) (gpEnd S) := by
  intro r
  induction r with
  | zero =>
    intro i h0 h1 hok
    have hi : i = S.length := by omega
    have e : (gpAll S).take i = gpAll S := List.take_of_length_le (by rw [gpAll_len]; omega)
    rw [e] at hok ⊢
    refine Ev.step (f := fun k => some (gpAll S, true)) (fun k => ?_) ?_
    · simp only [spec_meGaps.l2]
      rw [if_neg (by omega)]
    · unfold gpEnd
      rw [if_pos (List.all_eq_true.2 hok)]; exact Ev.now _
  | succ r ih =>
    intro i h0 h1 hok
    have hlt : i < S.length := by omega
    have hm : (i + 1) % S.length < S.length := Nat.mod_lt _ (by omega)
    have q1 : gpOK (S.getD ((i + 1) % S.length) z24) = true := by rw [List.getD_eq_getElem?_getD, List.getElem?_eq_getElem hm]; exact hS _ (List.getElem_mem hm)
    have q2 : gpOK (S.getD i z24) = true := by rw [List.getD_eq_getElem?_getD, List.getElem?_eq_getElem hlt]; exact hS _ (List.getElem_mem hlt)
    have ih' := ih (i + 1) (by omega) (by omega)
    have hx : gpNth S i = gpDiff (S.getD ((i + 1) % S.length) z24) (S.getD i z24) := rfl
    have hmem : gpNth S i ∈ gpAll S := by unfold gpAll; exact List.mem_map.2 ⟨i, List.mem_range.2 hlt, rfl⟩
    rw [gpAll_take S i hlt] at ih'
    have hacc : ((gpAll S).take i).length ≤ 12 := by rw [List.length_take, gpAll_len]; omega
    generalize (gpAll S).take i = acc at ih' hacc hok ⊢
    refine Ev.step (f := fun k => (spec_diAdd.f k (S.getD ((i + 1) % S.length) z24).f0 (S.getD ((i + 1) % S.length) z24).f1 (S.getD i z24).f0 (S.getD i z24).f1 (-1)).bind fun bt => (if bt.2.2 = true then (if acc.length + 1 < 8796093022208 then (spec_meGaps.l2 k S (acc ++ [⟨bt.1, bt.2.1⟩]) (S.length : Int) ((i + 1 : Nat) : Int)) else none) else some ([], false))) (fun k => ?_) ?_
    · simp only [spec_meGaps.l2]
      rw [if_pos (by omega), if_neg (by omega), gp_mod i S.length (by omega) (by omega), if_pos (by omega), if_pos (by omega), if_pos (by omega), if_pos (by omega), gp_rd, gp_rd, wrap_id (x := (i : Int) + 1) (by omega) (by omega)]
      rfl
    · refine Ev.bind (spec_diAdd_T _ _ _ _ (-1) q1 q2 (by omega) (by omega)) ?_
      rw [add_neg_one_mul']
      have hd : (gpNth S i) = ⟨tn (gpD (S.getD ((i + 1) % S.length) z24) (S.getD i z24)), td (gpD (S.getD ((i + 1) % S.length) z24) (S.getD i z24))⟩ := rfl
      rw [show ((S.getD ((i + 1) % S.length) z24).f0 : Rat) / (S.getD ((i + 1) % S.length) z24).f1 - ((S.getD i z24).f0 : Rat) / (S.getD i z24).f1 = gpD (S.getD ((i + 1) % S.length) z24) (S.getD i z24) from rfl]
      generalize gpD (S.getD ((i + 1) % S.length) z24) (S.getD i z24) = q at hd ⊢
      have ho : gpOK (gpNth S i) = decide (td q ≤ 1000000) := by rw [hd]; exact isT_tn q
      by_cases hq : td q ≤ 1000000
      · rw [mk_of hq]
        rw [hd] at ih'
        refine Ev.pos rfl (Ev.pos (by omega) (ih' (fun x hx => ?_)))
        rcases List.mem_append.1 hx with hx | hx
        · exact hok x hx
        · rw [List.mem_singleton.1 hx, ← hd, ho]; exact decide_eq_true hq
      · rw [show mk q = (0, 0, false) from if_neg hq]
        refine Ev.neg (by decide) ?_
        unfold gpEnd
        rw [if_neg (fun h => by have := List.all_eq_true.1 h _ hmem; rw [ho, decide_eq_true_iff] at this; exact hq this)]
        exact Ev.now _
theorem spec_meGaps_l1 (l : List S26) (m n p0 p1 : Int) (hp : isT p0 p1 = true) (S : List S24) (hS : ∀ x ∈ S, gpOK x = true) (hl : S.length ≤ 12) (i : Int) (hi : 0 ≤ i) (hi' : i ≤ 100) (v : List S24 × Bool) (hv : Ev (fun k => spec_meGaps.l0 k (gpIns ⟨p0, p1⟩ S) l (l.length : Int) (i + 1) m n) v) : ∀ (r j : Nat), S.length - j = r → j ≤ S.length → (∀ x ∈ S.take j, srt_le x ⟨p0, p1⟩ = true) → Ev (fun k => spec_meGaps.l1 k S (j : Int) l (l.length : Int) i m n p0 p1) v := by
  intro r
  induction r with
  | zero =>
    intro j h0 h1 hle
    have hj : j = S.length := by omega
    have e := gpIns_at ⟨p0, p1⟩ S j h1 hle (fun h => by omega)
    rw [e] at hv
    refine Ev.step (f := fun k => spec_meGaps.l0 k (S.take j ++ [⟨p0, p1⟩] ++ S.drop j) l (l.length : Int) (i + 1) m n) (fun k => ?_) hv
    simp only [spec_meGaps.l1]
    rw [if_neg (by omega)]
    simp only [Option.bind_some, List.nil_append]
    rw [Int.toNat_natCast]
    simp only [List.length_append, List.length_take, List.length_drop, List.length_nil, List.length_cons]
    repeat (first | rw [if_pos (by omega)] | rfl)
    rw [wrap_id (x := i + 1) (by omega) (by omega)]
  | succ r ih =>
    intro j h0 h1 hle
    have hlt : j < S.length := by omega
    have q2 : gpOK S[j] = true := hS _ (List.getElem_mem hlt)
    have hr : rd_T24 S (j : Int) = S[j] := by unfold rd_T24; rw [List.getD_eq_getElem?_getD, show ((j : Int)).toNat = j from Int.toNat_natCast j, List.getElem?_eq_getElem hlt]; rfl
    have hsg : (sg (S[j].f0 * p1 - p0 * S[j].f1) ≤ 0) ↔ srt_le S[j] ⟨p0, p1⟩ = true := by
      rw [srt_le_iff]
      show _ ↔ S[j].f0 * p1 ≤ p0 * S[j].f1
      unfold sg
      split
      · constructor <;> intro h <;> omega
      · split
        · constructor <;> intro h <;> omega
        · constructor <;> intro h <;> omega
    by_cases hc : srt_le S[j] ⟨p0, p1⟩ = true
    · refine Ev.step (f := fun k => spec_meGaps.l1 k S ((j + 1 : Nat) : Int) l (l.length : Int) i m n p0 p1) (fun k => ?_) (ih (j + 1) (by omega) (by omega) (fun x hx => ?_))
      · simp only [spec_meGaps.l1]
        rw [if_pos (by omega), if_pos (by omega), hr, spec_diCompare_eq _ _ _ _ q2 hp]
        simp only [Option.bind_some]
        rw [if_pos (hsg.2 hc), wrap_id (x := (j : Int) + 1) (by omega) (by omega)]
        rfl
      · rw [List.take_add_one, List.getElem?_eq_getElem hlt] at hx
        rcases List.mem_append.1 hx with hx | hx
        · exact hle x hx
        · rw [show x = S[j] by simpa using hx]; exact hc
    · have e := gpIns_at ⟨p0, p1⟩ S j h1 hle (fun h => hc)
      rw [e] at hv
      refine Ev.step (f := fun k => spec_meGaps.l0 k (S.take j ++ [⟨p0, p1⟩] ++ S.drop j) l (l.length : Int) (i + 1) m n) (fun k => ?_) hv
      simp only [spec_meGaps.l1]
      rw [if_pos (by omega), if_pos (by omega), hr, spec_diCompare_eq _ _ _ _ q2 hp]
      simp only [Option.bind_some, List.nil_append]
      rw [if_neg (fun h => hc (hsg.1 h))]
      rw [Int.toNat_natCast]
      simp only [List.length_append, List.length_take, List.length_drop, List.length_nil, List.length_cons]
      repeat (first | rw [if_pos (by omega)] | rfl)
      rw [wrap_id (x := i + 1) (by omega) (by omega)]
theorem gp_sortlen (P : List S24) : (gpSort P).length = P.length := (gpSort_perm P).length_eq
def gpSpec (l : List S26) (m n : Int) : List S24 × Bool := if gpGood l = true then gpMid l m n else ([], false)
theorem spec_meGaps_l0 (l : List S26) (m n : Int) (hl : l.length ≤ 12) (ht : isT m n = true) : ∀ (r i : Nat), l.length - i = r → i ≤ l.length → (∀ x ∈ l.take i, isH x.f0.f0 x.f0.f1 x.f1 = true) → (∀ x ∈ (l.map (gpPlace m n)).take i, gpOK x = true) → Ev (fun k => spec_meGaps.l0 k (gpSort ((l.map (gpPlace m n)).take i)) l (l.length : Int) (i : Int) m n) (gpSpec l m n) := by
  intro r
  induction r with
  | zero =>
    intro i h0 h1 hg hok
    have hi : i = l.length := by omega
    rw [List.take_of_length_le (by omega)] at hg
    rw [List.take_of_length_le (by rw [List.length_map]; omega)] at hok ⊢
    have hP : ((l.map (gpPlace m n)).all gpOK) = true := List.all_eq_true.2 hok
    unfold gpSpec gpMid
    rw [if_pos (show gpGood l = true from List.all_eq_true.2 hg), if_pos hP, ← gpSort_eq _ hP]
    have hS : ∀ x ∈ gpSort (l.map (gpPlace m n)), gpOK x = true := fun x hx => hok x ((gpSort_perm _).mem_iff.1 hx)
    have hL : (gpSort (l.map (gpPlace m n))).length ≤ 12 := by rw [gp_sortlen, List.length_map]; exact hl
    generalize gpSort (l.map (gpPlace m n)) = S at hS hL ⊢
    refine Ev.step (f := fun k => spec_meGaps.l2 k S [] (S.length : Int) 0) (fun k => ?_) ?_
    · simp only [spec_meGaps.l0]
      rw [if_neg (by omega)]
    · exact spec_meGaps_l2 S hS hL _ 0 rfl (by omega) (fun x hx => by simp at hx)
  | succ r ih =>
    intro i h0 h1 hg hok
    have hlt : i < l.length := by omega
    have hr : rd_T26 l (i : Int) = l[i] := by unfold rd_T26; rw [List.getD_eq_getElem?_getD, show ((i : Int)).toNat = i from Int.toNat_natCast i, List.getElem?_eq_getElem hlt]; rfl
    have ih' := ih (i + 1) (by omega) (by omega)
    have e1 : (l.map (gpPlace m n)).take (i + 1) = (l.map (gpPlace m n)).take i ++ [gpPlace m n l[i]] := by
      rw [List.take_add_one, List.getElem?_map, List.getElem?_eq_getElem hlt]; rfl
    have e2 : l.take (i + 1) = l.take i ++ [l[i]] := by rw [List.take_add_one, List.getElem?_eq_getElem hlt]; rfl
    have hmP : gpPlace m n l[i] ∈ l.map (gpPlace m n) := List.mem_map.2 ⟨_, List.getElem_mem hlt, rfl⟩
    rw [e1, e2, gpSort_snoc] at ih'
    have hS : ∀ x ∈ gpSort ((l.map (gpPlace m n)).take i), gpOK x = true := fun x hx => hok x ((gpSort_perm _).mem_iff.1 hx)
    have hL : (gpSort ((l.map (gpPlace m n)).take i)).length ≤ 12 := by rw [gp_sortlen, List.length_take, List.length_map]; omega
    generalize gpSort ((l.map (gpPlace m n)).take i) = S at ih' hS hL ⊢
    refine Ev.step (f := fun k => (spec_meGood.f k l[i].f0.f0 l[i].f0.f1 l[i].f1).bind fun t => (if t = true then ((spec_meAt.f k l[i].f0.f0 l[i].f0.f1 l[i].f1 m n).bind fun bt => (if bt.2.2 = true then (spec_meGaps.l1 k S 0 l (l.length : Int) (i : Int) m n bt.1 bt.2.1) else (some ([], false)))) else (some ([], false)))) (fun k => ?_) ?_
    · simp only [spec_meGaps.l0]
      rw [if_pos (by omega), if_pos (by omega), if_pos (by omega), hr]
    · refine Ev.bind (spec_meGood_ev _ _ _) ?_
      by_cases hh : isH l[i].f0.f0 l[i].f0.f1 l[i].f1 = true
      · refine Ev.pos hh ?_
        obtain ⟨u1, u2⟩ := isH_speed hh
        have p0 := (isC_iff.1 (isH_iff.1 hh).1).1
        refine Ev.bind (spec_meAt_ev _ _ _ m n p0 ht (by omega) (by omega)) ?_
        have hd : gpPlace m n l[i] = ⟨tn (gpQ m n l[i]), td (gpQ m n l[i])⟩ := rfl
        rw [show ((l[i].f0.f0 : Rat) / l[i].f0.f1 + l[i].f1 * ((m : Rat) / n)) = gpQ m n l[i] from rfl]
        generalize gpQ m n l[i] = q at hd ⊢
        have ho : gpOK (gpPlace m n l[i]) = decide (td q ≤ 1000000) := by rw [hd]; exact isT_tn q
        by_cases hq : td q ≤ 1000000
        · rw [mk_of hq]
          refine Ev.pos rfl ?_
          have ho' : gpOK (gpPlace m n l[i]) = true := by rw [ho]; exact decide_eq_true hq
          have ih2 := ih' (fun x hx => by
            rcases List.mem_append.1 hx with hx | hx
            · exact hg x hx
            · rw [List.mem_singleton.1 hx]; exact hh) (fun x hx => by
            rcases List.mem_append.1 hx with hx | hx
            · exact hok x hx
            · rw [List.mem_singleton.1 hx]; exact ho')
          rw [hd] at ih2
          rw [hd] at ho'
          exact spec_meGaps_l1 l m n (tn q) (td q) ho' S hS hL (i : Int) (by omega) (by omega) _ ih2 _ 0 rfl (by omega) (fun x hx => by simp at hx)
        · rw [show mk q = (0, 0, false) from if_neg hq]
          refine Ev.neg (by decide) ?_
          unfold gpSpec gpMid
          rw [if_neg (show ¬ ((l.map (gpPlace m n)).all gpOK) = true from fun h => by have := List.all_eq_true.1 h _ hmP; rw [ho, decide_eq_true_iff] at this; exact hq this)]
          rw [ite_self]; exact Ev.now _
      · refine Ev.neg hh ?_
        unfold gpSpec
        rw [if_neg (show ¬ gpGood l = true from fun h => hh (List.all_eq_true.1 h _ (List.getElem_mem hlt)))]
        exact Ev.now _
theorem spec_meGaps_ev (l : List S26) (m n : Int) (hlen : l.length ≤ 2000000) : Ev (fun k => spec_meGaps.f k l m n) (vGaps l m n) := by
  unfold spec_meGaps.f vGaps
  have no : Ev (fun k => spec_meGaps.j0 k l true m n) ([], false) := by
    refine Ev.step (f := fun _ => some ([], false)) (fun k => ?_) (Ev.now _)
    simp only [spec_meGaps.j0]; rfl
  rw [spec_l1In_eq]
  simp only [Option.bind_some]
  by_cases h1 : 1 ≤ l.length ∧ l.length ≤ 12
  · rw [if_pos h1]
    refine Ev.pos (by rw [decide_eq_true_iff]; omega) ?_
    refine Ev.bind (spec_diGood_ev m n) ?_
    cases h3 : isT m n
    · simp only [Bool.false_eq_true, if_false, ite_self]; exact no
    · rw [if_pos rfl]
      refine Ev.step (f := fun k => spec_meGaps.l0 k [] l (l.length : Int) 0 m n) (fun k => ?_) ?_
      · simp only [spec_meGaps.j0]; rfl
      · exact spec_meGaps_l0 l m n h1.2 h3 _ 0 rfl (by omega) (fun x hx => by simp at hx) (fun x hx => by simp at hx)
  · rw [if_neg h1]
    exact Ev.neg (by rw [decide_eq_true_iff]; omega) no

/-! spec_GapsAt -/
theorem spec_GapsAt_ev (l : List S26) (m n : Int) (hlen : l.length ≤ 2000000) : Ev (fun k => spec_GapsAt.f k l m n) (vGaps l m n) := by
  unfold spec_GapsAt.f
  exact Ev.bind (spec_meGaps_ev l m n hlen) (Ev.now _)

/-! h_spread -/
def spBad (g : List S24) (x : S24) : Bool := (!(x.f0 == (rd_T24 g 0).f0) || (!(x.f1 == (rd_T24 g 0).f1))) || (decide (x.f0 = 0) && decide ((g.length : Int) > 1))
def spV (g : List S24) : Bool × Bool := (!(g.any (spBad g)), true)
def vSpread (l : List S26) (m n : Int) : Bool × Bool := if (vGaps l m n).2 = true then spV (vGaps l m n).1 else (false, false)
theorem sp_bad {g : List S24} {x : S24} (hx : x ∈ g) (h : spBad g x = true) : spV g = (false, true) := by
  unfold spV
  rw [List.any_eq_true.2 ⟨x, hx, h⟩]; rfl
theorem sp_good {g : List S24} (h : ∀ x ∈ g, spBad g x = false) : spV g = (true, true) := by
  unfold spV
  rw [show g.any (spBad g) = false from by rw [List.any_eq_false]; intro x hx; rw [h x hx]; decide]; rfl

/-! impl_AreSpread -/
theorem impl_AreSpread_l0 (g : List S24) (hl : g.length ≤ 12) : ∀ (r i : Nat), g.length - i = r → i ≤ g.length → (∀ x ∈ g.take i, spBad g x = false) → Ev (fun k => impl_AreSpread.l0 k g g (g.length : Int) (i : Int)) (spV g) := by
  intro r
  induction r with
  | zero =>
    intro i h0 h1 hok
    rw [List.take_of_length_le (by omega)] at hok
    refine Ev.step (f := fun k => some (true, true)) (fun k => ?_) ?_
    · simp only [impl_AreSpread.l0]
      rw [if_neg (by omega)]
    · rw [sp_good hok]; exact Ev.now _
  | succ r ih =>
    intro i h0 h1 hok
    have hlt : i < g.length := by omega
    have hr : rd_T24 g (i : Int) = g[i] := by unfold rd_T24; rw [List.getD_eq_getElem?_getD, show ((i : Int)).toNat = i from Int.toNat_natCast i, List.getElem?_eq_getElem hlt]; rfl
    have hm := List.getElem_mem hlt
    have next : spBad g g[i] = false → Ev (fun k => impl_AreSpread.l0 k g g (g.length : Int) ((i + 1 : Nat) : Int)) (spV g) := fun hb => ih (i + 1) (by omega) (by omega) (fun x hx => by
      rw [List.take_add_one, List.getElem?_eq_getElem hlt] at hx
      rcases List.mem_append.1 hx with hx | hx
      · exact hok x hx
      · rw [show x = g[i] by simpa using hx]; exact hb)
    have e0 : (i : Int) + 1 = ((i + 1 : Nat) : Int) := by omega
    by_cases h2 : (!(g[i].f0 == (rd_T24 g 0).f0) || (!(g[i].f1 == (rd_T24 g 0).f1))) = true
    · refine Ev.step (f := fun k => some (false, true)) (fun k => ?_) ?_
      · simp only [impl_AreSpread.l0]
        rw [if_pos (by omega), if_pos (by omega), if_pos (by omega), if_pos (by omega), hr, if_pos h2]
      · rw [sp_bad hm (by unfold spBad; rw [h2]; rfl)]; exact Ev.now _
    · have h2' := Bool.eq_false_iff.mpr h2
      by_cases h3 : g[i].f0 = 0
      · by_cases h4 : (g.length : Int) > 1
        · refine Ev.step (f := fun k => some (false, true)) (fun k => ?_) ?_
          · simp only [impl_AreSpread.l0]
            rw [if_pos (by omega), if_pos (by omega), if_pos (by omega), if_pos (by omega), hr, if_neg h2, if_pos h3, if_pos h4]
          · rw [sp_bad hm (by unfold spBad; rw [h2', decide_eq_true h3, decide_eq_true h4]; rfl)]; exact Ev.now _
        · refine Ev.step (f := fun k => impl_AreSpread.l0 k g g (g.length : Int) ((i + 1 : Nat) : Int)) (fun k => ?_) (next (by unfold spBad; rw [h2', decide_eq_true h3, decide_eq_false h4]; rfl))
          simp only [impl_AreSpread.l0]
          rw [if_pos (by omega), if_pos (by omega), if_pos (by omega), if_pos (by omega), hr, if_neg h2, if_pos h3, if_neg h4, wrap_id (x := (i : Int) + 1) (by omega) (by omega), e0]
      · refine Ev.step (f := fun k => impl_AreSpread.l0 k g g (g.length : Int) ((i + 1 : Nat) : Int)) (fun k => ?_) (next (by unfold spBad; rw [h2', decide_eq_false h3]; rfl))
        simp only [impl_AreSpread.l0]
        rw [if_pos (by omega), if_pos (by omega), if_pos (by omega), if_pos (by omega), hr, if_neg h2, wrap_id (x := (i : Int) + 1) (by omega) (by omega), e0]
        rw [if_neg h3]
theorem impl_AreSpread_ev (l : List S26) (m n : Int) (hlen : l.length ≤ 2000000) : Ev (fun k => impl_AreSpread.f k l m n) (vSpread l m n) := by
  unfold impl_AreSpread.f vSpread
  have hl := vGaps_len l m n
  refine Ev.bind (impl_GapsAt_ev l m n hlen) ?_
  by_cases h : (vGaps l m n).2 = true
  · refine Ev.pos h ?_
    rw [if_pos h]
    exact impl_AreSpread_l0 _ hl _ 0 rfl (by omega) (fun x hx => by simp at hx)
  · refine Ev.neg h ?_
    rw [if_neg h]; exact Ev.now _

/-! spec_AreSpread -/
theorem spec_AreSpread_l0 (g : List S24) (hl : g.length ≤ 12) : ∀ (r i : Nat), g.length - i = r → i ≤ g.length → (∀ x ∈ g.take i, spBad g x = false) → Ev (fun k => spec_AreSpread.l0 k g g (g.length : Int) (i : Int)) (spV g) := by
  intro r
  induction r with
  | zero =>
    intro i h0 h1 hok
    rw [List.take_of_length_le (by omega)] at hok
    refine Ev.step (f := fun k => some (true, true)) (fun k => ?_) ?_
    · simp only [spec_AreSpread.l0]
      rw [if_neg (by omega)]
    · rw [sp_good hok]; exact Ev.now _
  | succ r ih =>
    intro i h0 h1 hok
    have hlt : i < g.length := by omega
    have hr : rd_T24 g (i : Int) = g[i] := by unfold rd_T24; rw [List.getD_eq_getElem?_getD, show ((i : Int)).toNat = i from Int.toNat_natCast i, List.getElem?_eq_getElem hlt]; rfl
    have hm := List.getElem_mem hlt
    have next : spBad g g[i] = false → Ev (fun k => spec_AreSpread.l0 k g g (g.length : Int) ((i + 1 : Nat) : Int)) (spV g) := fun hb => ih (i + 1) (by omega) (by omega) (fun x hx => by
      rw [List.take_add_one, List.getElem?_eq_getElem hlt] at hx
      rcases List.mem_append.1 hx with hx | hx
      · exact hok x hx
      · rw [show x = g[i] by simpa using hx]; exact hb)
    have e0 : (i : Int) + 1 = ((i + 1 : Nat) : Int) := by omega
    by_cases h2 : (!(g[i].f0 == (rd_T24 g 0).f0) || (!(g[i].f1 == (rd_T24 g 0).f1))) = true
    · refine Ev.step (f := fun k => some (false, true)) (fun k => ?_) ?_
      · simp only [spec_AreSpread.l0]
        rw [if_pos (by omega), if_pos (by omega), if_pos (by omega), if_pos (by omega), hr, if_pos h2]
      · rw [sp_bad hm (by unfold spBad; rw [h2]; rfl)]; exact Ev.now _
    · have h2' := Bool.eq_false_iff.mpr h2
      by_cases h3 : g[i].f0 = 0
      · by_cases h4 : (g.length : Int) > 1
        · refine Ev.step (f := fun k => some (false, true)) (fun k => ?_) ?_
          · simp only [spec_AreSpread.l0]
            rw [if_pos (by omega), if_pos (by omega), if_pos (by omega), if_pos (by omega), hr, if_neg h2, if_pos h4, if_pos h3]
          · rw [sp_bad hm (by unfold spBad; rw [h2', decide_eq_true h3, decide_eq_true h4]; rfl)]; exact Ev.now _
        · refine Ev.step (f := fun k => spec_AreSpread.l0 k g g (g.length : Int) ((i + 1 : Nat) : Int)) (fun k => ?_) (next (by unfold spBad; rw [h2', decide_eq_true h3, decide_eq_false h4]; rfl))
          simp only [spec_AreSpread.l0]
          rw [if_pos (by omega), if_pos (by omega), if_pos (by omega), if_pos (by omega), hr, if_neg h2, if_neg h4, wrap_id (x := (i : Int) + 1) (by omega) (by omega), e0]
      · refine Ev.step (f := fun k => spec_AreSpread.l0 k g g (g.length : Int) ((i + 1 : Nat) : Int)) (fun k => ?_) (next (by unfold spBad; rw [h2', decide_eq_false h3]; rfl))
        simp only [spec_AreSpread.l0]
        rw [if_pos (by omega), if_pos (by omega), if_pos (by omega), if_pos (by omega), hr, if_neg h2, wrap_id (x := (i : Int) + 1) (by omega) (by omega), e0]
        rw [if_neg h3, ite_self]
theorem spec_AreSpread_ev (l : List S26) (m n : Int) (hlen : l.length ≤ 2000000) : Ev (fun k => spec_AreSpread.f k l m n) (vSpread l m n) := by
  unfold spec_AreSpread.f vSpread
  have hl := vGaps_len l m n
  refine Ev.bind (spec_meGaps_ev l m n hlen) ?_
  by_cases h : (vGaps l m n).2 = true
  · refine Ev.pos h ?_
    rw [if_pos h]
    exact spec_AreSpread_l0 _ hl _ 0 rfl (by omega) (fun x hx => by simp at hx)
  · refine Ev.neg h ?_
    rw [if_neg h]; exact Ev.now _

/-! laws_kTurns -/
theorem laws_kTurns_l0 (l : List S24) (hl : l.length ≤ 100000) : ∀ (n i : Nat), l.length - i = n → i ≤ l.length → Ev (fun k => laws_kTurns.l0 k l l (l.length : Int) i) true := by
  intro n
  induction n with
  | zero =>
    intro i h0 h1
    refine Ev.step (f := fun k => some true) (fun k => ?_) (Ev.now _)
    simp only [laws_kTurns.l0]; rw [if_neg (by omega)]
  | succ n ih =>
    intro i h0 h1
    refine Ev.step (f := fun k => laws_kTurns.l0 k l l (l.length : Int) ((i + 1 : Nat) : Int)) (fun k => ?_) (ih (i + 1) (by omega) (by omega))
    simp only [laws_kTurns.l0]
    rw [if_pos (by omega), if_pos (by omega), if_pos (by omega), if_pos (by omega), if_neg (by simp), wrap_id (by omega) (by omega)]
    rfl
theorem laws_kTurns_self (l : List S24) (hl : l.length ≤ 100000) : Ev (fun k => laws_kTurns.f k l l) true := by
  unfold laws_kTurns.f
  exact Ev.pos rfl (laws_kTurns_l0 l hl l.length 0 (by omega) (by omega))

/-! impl_ifTurn -/
theorem impl_ifTurn_ev (n d : Int) : Ev (fun k => impl_ifTurn.f k n d) (if isT n d = true then (n, d, true) else (0, 0, false)) := by
  unfold impl_ifTurn.f
  refine Ev.bind (impl_IsTurn_ev n d) ?_
  split <;> exact Ev.now _
theorem impl_ifTurn_mk (q : Rat) : Ev (fun k => impl_ifTurn.f k (tn q) (td q)) (mk q) := by
  refine Ev.val (impl_ifTurn_ev _ _) ?_
  unfold mk
  rw [isT_tn]
  simp

/-! impl_AddTurns -/
theorem impl_AddTurns_ev (a b c d : Int) : Ev (fun k => impl_AddTurns.f k a b c d) (vAdd a b c d) := by
  unfold impl_AddTurns.f vAdd
  refine Ev.bind (impl_areTurns_two a b c d) ?_
  cases h : isT a b && isT c d
  · exact Ev.neg (by decide) (Ev.now _)
  refine Ev.pos rfl ?_
  rw [Bool.and_eq_true] at h
  obtain ⟨p1, p2, p3, p4, _⟩ := isT_iff.1 h.1
  obtain ⟨r1, r2, r3, r4, _⟩ := isT_iff.1 h.2
  have m3 := mul_bound (a := b) (b := d) (A := 1000000) (B := 1000000) (by omega) (by omega) (by omega) (by omega)
  refine Ev.bind (impl_Turn_plus_ev a b c d (by omega) (by omega) (by omega) (by omega) (by omega) (by omega) (by omega)) ?_
  exact Ev.bind (impl_ifTurn_mk _) (Ev.now _)

/-! impl_isDial -/
theorem impl_isDial_eq (h : Int) : impl_isDial.f h = some (isD h) := by
  unfold impl_isDial.f isD; simp only [impl_within_eq, Option.bind_some]

/-! h_dialhands -/
def vDialHands (h : Int) : List S26 × Bool := if isD h = true then ([⟨⟨0, 1⟩, 1⟩, ⟨⟨0, 1⟩, h⟩], true) else ([], false)
theorem vDialHands_len (h : Int) : (vDialHands h).1.length ≤ 1000 := by unfold vDialHands; split <;> simp

/-! impl_HandsOfDial -/
theorem impl_HandsOfDial_eq (h : Int) : impl_HandsOfDial.f h = some (vDialHands h) := by
  unfold impl_HandsOfDial.f vDialHands
  simp only [impl_isDial_eq, Option.bind_some]
  split <;> rfl

/-! spec_diHours -/
theorem spec_diHours_eq (h : Int) : spec_diHours.f h = some (isD h) := by
  unfold spec_diHours.f isD; simp only [spec_l1In_eq, Option.bind_some]

/-! spec_HandsOfDial -/
theorem spec_HandsOfDial_eq (h : Int) : spec_HandsOfDial.f h = some (vDialHands h) := by
  unfold spec_HandsOfDial.f vDialHands
  simp only [spec_diHours_eq, Option.bind_some]
  split <;> rfl

/-! laws_kHands -/
theorem laws_kHands_l0 (l : List S26) (hl : l.length ≤ 100000) : ∀ (n i : Nat), l.length - i = n → i ≤ l.length → Ev (fun k => laws_kHands.l0 k l l (l.length : Int) i) true := by
  intro n
  induction n with
  | zero =>
    intro i h0 h1
    refine Ev.step (f := fun k => some true) (fun k => ?_) (Ev.now _)
    simp only [laws_kHands.l0]; rw [if_neg (by omega)]
  | succ n ih =>
    intro i h0 h1
    refine Ev.step (f := fun k => laws_kHands.l0 k l l (l.length : Int) ((i + 1 : Nat) : Int)) (fun k => ?_) (ih (i + 1) (by omega) (by omega))
    simp only [laws_kHands.l0]
    rw [if_pos (by omega), if_pos (by omega), if_pos (by omega), if_pos (by omega), if_neg (by simp), wrap_id (by omega) (by omega)]
    rfl
theorem laws_kHands_self (l : List S26) (hl : l.length ≤ 100000) : Ev (fun k => laws_kHands.f k l l) true := by
  unfold laws_kHands.f
  exact Ev.pos rfl (laws_kHands_l0 l hl l.length 0 (by omega) (by omega))

/-! impl_CountMeets -/
theorem impl_CountMeets_ev (a b s c d t : Int) : Ev (fun k => impl_CountMeets.f k a b s c d t) (vCount a b s c d t) := by
  unfold impl_CountMeets.f vCount vAsked
  refine Ev.bind (impl_areHands_two a b s c d t) ?_
  cases h : isH a b s && isH c d t
  · exact Ev.neg (by decide) (Ev.now _)
  refine Ev.pos rfl ?_
  rw [Bool.and_eq_true] at h
  obtain ⟨h1, h2⟩ := isH_speed h.1
  obtain ⟨h3, h4⟩ := isH_speed h.2
  by_cases hs : s = t
  · exact Ev.pos hs (Ev.val (Ev.now _) (by simp [hs]))
  · refine Ev.neg hs (Ev.val (Ev.now _) ?_)
    rw [wrap_id (by omega) (by omega), wrap_id (by omega) (by omega)]
    simp only [Bool.true_and, bne_iff_ne, ne_eq, hs, not_false_eq_true, if_true]
    unfold mx ab
    congr 1
    split <;> split <;> omega

/-! impl_TimeOf -/
theorem impl_TimeOf_ev (h a b c : Int) : Ev (fun k => impl_TimeOf.f k h a b c) (vTimeOf h a b c) := by
  unfold impl_TimeOf.f vTimeOf
  simp only [impl_isDial_eq, impl_within_eq, Option.bind_some]
  cases hd : isD h
  · exact Ev.neg (by decide) (Ev.val (Ev.now _) (by simp))
  refine Ev.pos rfl ?_
  obtain ⟨q1, q2⟩ := isD_iff.1 hd
  rw [wrap_id (x := h - 1) (by omega) (by omega)]
  by_cases h1 : 0 ≤ a ∧ a ≤ h - 1
  · refine Ev.pos (by simpa using h1) ?_
    by_cases h2 : 0 ≤ b ∧ b ≤ 59
    · refine Ev.pos (by simpa using h2) ?_
      by_cases h3 : 0 ≤ c ∧ c ≤ 59
      · refine Ev.pos (by simpa using h3) ?_
        rw [wrap_id (x := a * 3600) (by omega) (by omega), wrap_id (x := b * 60) (by omega) (by omega), wrap_id (x := a * 3600 + b * 60) (by omega) (by omega), wrap_id (x := a * 3600 + b * 60 + c) (by omega) (by omega), wrap_id (x := h * 3600) (by omega) (by omega)]
        refine Ev.bind (impl_part_ev _ _ (by omega) (by omega) (by omega) (by omega)) ?_
        rw [if_pos ⟨rfl, h1, h2, h3⟩]
        exact Ev.now _
      · refine Ev.neg (by simpa using h3) ?_
        rw [if_neg (fun h => h3 h.2.2.2)]
        exact Ev.now _
    · refine Ev.neg (by simpa using h2) ?_
      rw [if_neg (fun h => h2 h.2.2.1)]
      exact Ev.now _
  · refine Ev.neg (by simpa using h1) ?_
    rw [if_neg (fun h => h1 h.2.1)]
    exact Ev.now _

/-! impl_HandAt -/
theorem impl_HandAt_ev (a b s c d : Int) : Ev (fun k => impl_HandAt.f k a b s c d) (vHandAt a b s c d) := by
  unfold impl_HandAt.f vHandAt
  have no : Ev (fun k => impl_HandAt.j0 k true a b s c d) (0, 0, false) := by
    refine Ev.step (f := fun _ => some (0, 0, false)) (fun k => ?_) (Ev.now _)
    simp only [impl_HandAt.j0]; rfl
  refine Ev.bind (impl_IsHand_ev a b s) ?_
  cases h1 : isH a b s
  · exact Ev.neg (by decide) no
  refine Ev.pos rfl ?_
  refine Ev.bind (impl_IsTurn_ev c d) ?_
  cases h2 : isT c d
  · exact no
  have ht := (isC_iff.1 (isH_iff.1 h1).1).1
  obtain ⟨s1, s2⟩ := isH_speed h1
  refine Ev.step (f := fun k => (impl_Hand_at.f k a b s c d).bind fun bt => ((impl_ifTurn.f k bt.1 bt.2).bind fun bt => (some (bt.1, bt.2.1, bt.2.2)))) (fun k => ?_) ?_
  · simp only [impl_HandAt.j0]; simp
  refine Ev.bind (impl_Hand_at_T a b s c d ht h2 (by omega) (by omega)) ?_
  exact Ev.bind (impl_ifTurn_mk _) (Ev.now _)

/-! impl_isTime -/
theorem impl_isTime_ev (h n d : Int) : Ev (fun k => impl_isTime.f k h n d) (isD h && isT n d) := by
  unfold impl_isTime.f
  simp only [impl_isDial_eq, Option.bind_some]
  cases isD h
  · exact Ev.neg (by decide) (Ev.now _)
  · exact Ev.pos rfl (Ev.bind (impl_IsTurn_ev n d) (Ev.now _))

/-! impl_LongHand -/
theorem impl_LongHand_ev (h a b : Int) : Ev (fun k => impl_LongHand.f k h a b) (vLong h a b) := by
  unfold impl_LongHand.f vLong
  refine Ev.bind (impl_isTime_ev h a b) ?_
  cases e : isD h && isT a b
  · exact Ev.neg (by decide) (Ev.now _)
  refine Ev.pos rfl ?_
  rw [Bool.and_eq_true] at e
  obtain ⟨q1, q2⟩ := isD_iff.1 e.1
  exact Ev.bind (impl_Turn_times_T a b h e.2 (by omega) (by omega)) (Ev.now _)

/-! spec_IsHand -/
theorem spec_IsHand_ev (n d s : Int) : Ev (fun k => spec_IsHand.f k n d s) (isH n d s) := by
  unfold spec_IsHand.f
  exact Ev.bind (spec_meGood_ev n d s) (Ev.now _)

/-! h_ahead -/
/-- The times at which one hand is ahead of another by m / n. -/
def vAheadT (a b s c d t m n : Int) : List S24 × Bool := if vAsked a b s c d t = true then vTimesAt ((m : Rat) / n - fr ((a : Rat) / b - (c : Rat) / d)) (s - t) else ([], false)
theorem vAheadT_len (a b s c d t m n : Int) : (vAheadT a b s c d t m n).1.length ≤ 1000 := by
  unfold vAheadT
  split
  · rename_i h
    unfold vAsked at h
    simp only [Bool.and_eq_true] at h
    obtain ⟨u1, u2⟩ := isH_speed h.1.1
    obtain ⟨u3, u4⟩ := isH_speed h.1.2
    exact vTimesAt_len (by omega) (by omega)
  · simp

/-! h_first -/
def vFirst (a b s c d t : Int) : Int × Int × Bool := if (vAheadT a b s c d t 0 1).2 = true then ((rd_T24 (vAheadT a b s c d t 0 1).1 0).f0, (rd_T24 (vAheadT a b s c d t 0 1).1 0).f1, true) else (0, 0, false)
theorem vRoots_ok {w : Rat} {s : Int} (h : (vRoots w s).2 = true) : okR w s s.toNat = true ∧ (vRoots w s).1 = rl w s s.toNat := by
  unfold vRoots at h ⊢
  split at h
  · rename_i e; rw [if_pos e]; exact ⟨e, rfl⟩
  · cases h
theorem vAheadT_pos {a b s c d t m n : Int} (h : (vAheadT a b s c d t m n).2 = true) : 0 < ((vAheadT a b s c d t m n).1.length : Int) := by
  unfold vAheadT at h ⊢
  split at h
  · rename_i e
    rw [if_pos e]
    unfold vAsked at e
    simp only [Bool.and_eq_true, bne_iff_ne, ne_eq] at e
    unfold vTimesAt at h ⊢
    split at h
    · rename_i hs
      rw [if_pos hs, (vRoots_ok h).2, rl_length]; omega
    · rename_i hs
      rw [if_neg hs, (vRoots_ok h).2, rl_length]; omega
  · cases h

/-! h_place -/
def vPlaceT (a b s c d : Int) : List S24 × Bool := if isH a b s = true then if isC c d = true then if s = 0 then ([], false) else vTimesAt ((c : Rat) / d - (a : Rat) / b) s else ([], false) else ([], false)
theorem vPlaceT_len (a b s c d : Int) : (vPlaceT a b s c d).1.length ≤ 1000 := by
  unfold vPlaceT
  split
  · rename_i h
    obtain ⟨u1, u2⟩ := isH_speed h
    split
    · split
      · simp
      · exact vTimesAt_len (by omega) (by omega)
    · simp
  · simp

/-! h_three -/
/-- whether the third hand stands where the first one stands -/
def thP (a b s m n u : Int) (x : S24) : Bool := decide (fr (((a : Rat) / b - (m : Rat) / n) + ((s - u : Int) : Rat) * ((x.f0 : Rat) / x.f1)) = 0)
theorem fr_zero_iff (p q : Rat) : fr p = fr q ↔ fr (p - q) = 0 := by
  constructor
  · intro h
    obtain ⟨z1, e1⟩ := fr_exists p
    obtain ⟨z2, e2⟩ := fr_exists q
    have e : p - q = 0 + ((z1 - z2 : Int) : Rat) := by rw [e1, e2, h, Rat.intCast_sub]; grind
    rw [e, fr_add_int]
    unfold fr; rw [show (0 : Rat).floor = 0 by decide]; grind
  · intro h
    obtain ⟨z, e⟩ := fr_exists (p - q)
    rw [h] at e
    have e2 : p = q + (z : Rat) := by grind
    rw [e2, fr_add_int]
theorem tn_zero_iff (q : Rat) : tn q = 0 ↔ fr q = 0 := by unfold tn; exact Rat.num_eq_zero
theorem th_same (a b s m n u : Int) (x : S24) : (tn ((a : Rat) / b + s * ((x.f0 : Rat) / x.f1)) = tn ((m : Rat) / n + u * ((x.f0 : Rat) / x.f1)) ∧ td ((a : Rat) / b + s * ((x.f0 : Rat) / x.f1)) = td ((m : Rat) / n + u * ((x.f0 : Rat) / x.f1))) ↔ thP a b s m n u x = true := by
  unfold thP
  rw [decide_eq_true_iff]
  have e : ((a : Rat) / b - (m : Rat) / n) + ((s - u : Int) : Rat) * ((x.f0 : Rat) / x.f1) = ((a : Rat) / b + s * ((x.f0 : Rat) / x.f1)) - ((m : Rat) / n + u * ((x.f0 : Rat) / x.f1)) := by rw [Rat.intCast_sub]; grind
  rw [e, ← fr_zero_iff]
  constructor
  · rintro ⟨h1, h2⟩; exact fr_of_eq h1 h2
  · intro h; have := tt_of_fr h; exact ⟨congrArg Prod.fst this, congrArg Prod.snd this⟩
def vThree (a b s c d t m n u : Int) : List S24 × Bool := if (vAheadT a b s c d t 0 1).2 = true then if isH m n u = true then ((vAheadT a b s c d t 0 1).1.filter (thP a b s m n u), true) else ([], false) else ([], false)
theorem vThree_len (a b s c d t m n u : Int) : (vThree a b s c d t m n u).1.length ≤ 1000 := by
  have h := vAheadT_len a b s c d t 0 1
  unfold vThree
  split
  · split
    · exact Nat.le_trans (List.length_filter_le _ _) h
    · simp
  · simp
theorem vAheadT_hands {a b s c d t m n : Int} (h : (vAheadT a b s c d t m n).2 = true) : isH a b s = true ∧ isH c d t = true := by
  unfold vAheadT vAsked at h
  split at h
  · rename_i e; simp at e; exact ⟨by simp [e.1], by simp [e.1]⟩
  · cases h

/-! h_rise -/
/-! ### times that rise -/
def ltT (x y : S24) : Prop := x.f0 * y.f1 < y.f0 * x.f1
theorem lt_of_rat {p q : Rat} (h0 : 0 ≤ p) (h : p < q) (h1 : q < 1) : tn p * td q < tn q * td p := by
  have hp : fr p = p := fr_of_range h0 (by grind)
  have hq : fr q = q := fr_of_range (by grind) h1
  have e1 := tn_td p
  have e2 := tn_td q
  rw [hp] at e1
  rw [hq] at e2
  have k1 : (0 : Rat) < (td p : Rat) := cast_pos (td_pos p)
  have k2 : (0 : Rat) < (td q : Rat) := cast_pos (td_pos q)
  have h2 : (tn p : Rat) / (td p : Rat) < (tn q : Rat) / (td q : Rat) := by rw [e1, e2]; exact h
  rw [Rat.div_lt_iff k1] at h2
  have h3 := Rat.mul_lt_mul_of_pos_right h2 k2
  have nz2 : (td q : Rat) ≠ 0 := cast_ne (td_pos q)
  have h4 : (tn q : Rat) / (td q : Rat) * (td p : Rat) * (td q : Rat) = ((tn q * td p : Int) : Rat) := by
    rw [Rat.intCast_mul, Rat.div_def]
    have := Rat.inv_mul_cancel _ nz2
    grind
  rw [h4, ← Rat.intCast_mul] at h3
  exact Rat.intCast_lt_intCast.1 h3
theorem rd_el (l : List S24) (i : Nat) (h : i < l.length) : rd_T24 l (i : Int) = l[i] := by
  unfold rd_T24
  rw [Int.toNat_natCast, List.getD_eq_getElem?_getD, List.getElem?_eq_getElem h]; rfl
theorem rd_mem (l : List S24) (i : Nat) (h : i < l.length) : rd_T24 l (i : Int) ∈ l := by
  rw [rd_el l i h]; exact List.getElem_mem h
theorem rl_pair {w : Rat} {s : Int} (h0 : 0 ≤ w) (h1 : w < 1) (hs : 0 < s) (n : Nat) (hn : (n : Int) ≤ s) : (rl w s n).Pairwise ltT := by
  unfold rl
  rw [List.pairwise_map]
  refine List.Pairwise.imp_of_mem (fun {i j} hi hj hij => ?_) (List.pairwise_lt_range (n := n))
  unfold ltT pk
  have hj' := List.mem_range.1 hj
  have k := cast_pos hs
  have c1 : ((i : Int) : Rat) + 1 ≤ ((j : Int) : Rat) := by
    have := Rat.intCast_le_intCast.2 (show ((i : Int) + 1) ≤ (j : Int) by omega)
    rw [Rat.intCast_add] at this; exact this
  have c2 : ((j : Int) : Rat) + 1 ≤ (s : Rat) := by
    have := Rat.intCast_le_intCast.2 (show ((j : Int) + 1) ≤ s by omega)
    rw [Rat.intCast_add] at this; exact this
  have c3 : (0 : Rat) ≤ ((i : Int) : Rat) := by
    have := Rat.intCast_le_intCast.2 (show (0 : Int) ≤ (i : Int) by omega)
    simpa using this
  refine lt_of_rat ?_ ?_ ?_
  · rw [Rat.div_def]; exact Rat.mul_nonneg (by grind) (Rat.le_of_lt (Rat.inv_pos.2 k))
  · rw [Rat.div_def, Rat.div_def]; exact Rat.mul_lt_mul_of_pos_right (by grind) (Rat.inv_pos.2 k)
  · rw [Rat.div_lt_iff k]; grind
theorem roots_facts {w : Rat} {s : Int} (hs : 0 < s) (h0 : 0 ≤ w) (h1 : w < 1) (h : (vRoots w s).2 = true) : (vRoots w s).1.Pairwise ltT ∧ ((vRoots w s).1.length : Int) = s ∧ ∀ x ∈ (vRoots w s).1, isT x.f0 x.f1 = true ∧ fr (s * ((x.f0 : Rat) / x.f1)) = w := by
  obtain ⟨ho, he⟩ := vRoots_ok h
  rw [he]
  refine ⟨rl_pair h0 h1 hs _ (by omega), by rw [rl_length]; omega, fun x hx => ⟨?_, ?_⟩⟩
  · exact (List.all_eq_true.1 ho) x hx
  · unfold rl at hx
    obtain ⟨i, _, rfl⟩ := List.mem_map.1 hx
    unfold pk
    simp only
    rw [tn_td, fr_mul_fr]
    have nz2 := cast_ne hs
    have e : (s : Rat) * ((w + (((i : Nat) : Int) : Rat)) / (s : Rat)) = w + (((i : Nat) : Int) : Rat) := by
      rw [Rat.mul_comm]; exact Rat.div_mul_cancel nz2
    rw [e, fr_add_int]
    exact fr_of_range h0 h1
theorem times_facts {q : Rat} {s : Int} (hs : s ≠ 0) (h : (vTimesAt q s).2 = true) : (vTimesAt q s).1.Pairwise ltT ∧ ((vTimesAt q s).1.length : Int) = ab s ∧ ∀ x ∈ (vTimesAt q s).1, isT x.f0 x.f1 = true ∧ fr (s * ((x.f0 : Rat) / x.f1)) = fr q := by
  unfold vTimesAt at h ⊢
  unfold ab
  split at h
  · rename_i hn
    rw [if_pos hn, if_pos hn]
    obtain ⟨h1, h2, h3⟩ := roots_facts (show 0 < -s by omega) (fr_nonneg _) (fr_lt _) h
    refine ⟨h1, h2, fun x hx => ⟨(h3 x hx).1, ?_⟩⟩
    have e := (h3 x hx).2
    have e2 : fr (-(fr (((-s : Int) : Rat) * ((x.f0 : Rat) / x.f1)))) = fr (-(fr (-q))) := by rw [e]
    rw [fr_neg_fr, fr_neg_fr, Rat.intCast_neg] at e2
    rw [show -(-q) = q by grind, show -(-(s : Rat) * ((x.f0 : Rat) / x.f1)) = (s : Rat) * ((x.f0 : Rat) / x.f1) by grind] at e2
    exact e2
  · rename_i hn
    rw [if_neg hn, if_neg hn]
    exact roots_facts (show 0 < s by omega) (fr_nonneg _) (fr_lt _) h
theorem ahT_facts {a b s c d t m n : Int} (h : (vAheadT a b s c d t m n).2 = true) : (isH a b s = true ∧ isH c d t = true) ∧ (vAheadT a b s c d t m n).1.Pairwise ltT ∧ ((vAheadT a b s c d t m n).1.length : Int) = ab (s - t) ∧ ∀ x ∈ (vAheadT a b s c d t m n).1, isT x.f0 x.f1 = true ∧ fr (((s - t : Int) : Rat) * ((x.f0 : Rat) / x.f1)) = fr ((m : Rat) / n - fr ((a : Rat) / b - (c : Rat) / d)) := by
  refine ⟨vAheadT_hands h, ?_⟩
  unfold vAheadT at h ⊢
  split at h
  · rename_i e
    rw [if_pos e]
    unfold vAsked at e
    simp only [Bool.and_eq_true, bne_iff_ne, ne_eq] at e
    exact times_facts (by omega) h
  · cases h
theorem place_facts {a b s c d : Int} (h : (vPlaceT a b s c d).2 = true) : (isH a b s = true ∧ isC c d = true) ∧ (vPlaceT a b s c d).1.Pairwise ltT ∧ ((vPlaceT a b s c d).1.length : Int) = ab s ∧ ∀ x ∈ (vPlaceT a b s c d).1, isT x.f0 x.f1 = true ∧ fr (s * ((x.f0 : Rat) / x.f1)) = fr ((c : Rat) / d - (a : Rat) / b) := by
  unfold vPlaceT at h ⊢
  split at h
  · rename_i e1
    split at h
    · rename_i e2
      split at h
      · cases h
      · rename_i e3
        rw [if_pos e1, if_pos e2, if_neg e3]
        exact ⟨⟨e1, e2⟩, times_facts e3 h⟩
    · cases h
  · cases h
theorem mk_turn {m n : Int} (h : isT m n = true) : mk ((m : Rat) / n) = (m, n, true) := by
  obtain ⟨e1, e2⟩ := isT_canon h
  have := isT_iff.1 h
  unfold mk
  rw [e1, e2, if_pos (by omega)]
/-- what is ahead then -/
theorem fr_back (D S M : Rat) (h : fr S = fr (M - fr D)) : fr (D + S) = fr M := by
  rw [← fr_add_fr, h, fr_add_fr]
  obtain ⟨z, hz⟩ := fr_exists D
  exact fr_eq_of _ _ z (by rw (occs := .pos [1]) [hz]; grind)
theorem ahead_back {a b s c d t m n u v : Int} (h1 : isH a b s = true) (h2 : isH c d t = true) (hx : isT u v = true) (hm : isT m n = true) (e : fr (((s - t : Int) : Rat) * ((u : Rat) / v)) = fr ((m : Rat) / n - fr ((a : Rat) / b - (c : Rat) / d))) : vAheadAt a b s c d t u v = (m, n, true) := by
  unfold vAheadAt
  rw [h1, h2, if_pos (by decide), if_pos hx, mk_of_fr (fr_back _ _ _ e), mk_turn hm]
theorem ahead_half {a b s c d t u v : Int} (h1 : isH a b s = true) (h2 : isH c d t = true) (hx : isT u v = true) (e : fr (((s - t : Int) : Rat) * ((u : Rat) / v)) = fr (((1 : Int) : Rat) / ((2 : Int) : Rat) - fr ((a : Rat) / b - (c : Rat) / d))) : vAheadAt c d t a b s u v = (1, 2, true) := by
  unfold vAheadAt
  rw [h1, h2, if_pos (by decide), if_pos hx, ← mk_turn (show isT 1 2 = true by decide)]
  refine mk_of_fr ?_
  have k := fr_back _ _ _ e
  have k2 : fr (-(fr ((a : Rat) / b - (c : Rat) / d + ((s - t : Int) : Rat) * ((u : Rat) / v)))) = fr (-(fr (((1 : Int) : Rat) / ((2 : Int) : Rat)))) := by rw [k]
  rw [fr_neg_fr, fr_neg_fr] at k2
  have k3 : (c : Rat) / d - (a : Rat) / b + ((t - s : Int) : Rat) * ((u : Rat) / v) = -((a : Rat) / b - (c : Rat) / d + ((s - t : Int) : Rat) * ((u : Rat) / v)) := by
    rw [Rat.intCast_sub, Rat.intCast_sub]; grind
  rw [k3, k2]
  exact fr_eq_of _ _ (-1) (by
    have e1 : ((1 : Int) : Rat) = 1 := rfl
    have e2 : ((2 : Int) : Rat) = 2 := rfl
    have e3 : ((-1 : Int) : Rat) = -1 := rfl
    rw [e1, e2, e3]; grind)
theorem hand_back {a b s c d u v : Int} (h1 : isH a b s = true) (h2 : isT c d = true) (hx : isT u v = true) (e : fr (s * ((u : Rat) / v)) = fr ((c : Rat) / d - (a : Rat) / b)) : vHandAt a b s u v = (c, d, true) := by
  unfold vHandAt
  rw [if_pos h1, if_pos hx, ← mk_turn h2]
  refine mk_of_fr ?_
  rw [← fr_add_fr, e, fr_add_fr]
  congr 1; grind

/-! h_sum -/
/-! ### the gaps' sum -/
theorem hs_isT (q : Rat) (h : td q ≤ 1000000) : isT (tn q) (td q) = true := by rw [isT_tn]; exact decide_eq_true h
def smP (S : List S24) (i : Nat) : Rat := ((S.getD i z24).f0 : Rat) / (S.getD i z24).f1
theorem smP_ok {S : List S24} (h : ∀ x ∈ S, gpOK x = true) (i : Nat) (hi : i < S.length) : isT (S.getD i z24).f0 (S.getD i z24).f1 = true := by
  have e : S.getD i z24 = S[i] := by rw [List.getD_eq_getElem?_getD, List.getElem?_eq_getElem hi]; rfl
  rw [e]; exact h _ (List.getElem_mem hi)
/-- a gap, but for whole turns -/
theorem smGap (S : List S24) (i : Nat) : (((gpNth S i).f0 : Rat) / (gpNth S i).f1) = fr (smP S ((i + 1) % S.length) - smP S i) := by
  unfold gpNth gpDiff
  rw [tn_td]; rfl
theorem sm_rd (S : List S24) (i : Nat) (hi : i < S.length) : rd_T24 (gpAll S) (i : Int) = gpNth S i := by
  unfold rd_T24 gpAll
  rw [Int.toNat_natCast, List.getD_eq_getElem?_getD, List.getElem?_map, List.getElem?_range hi]; rfl
theorem smMod {i n : Nat} (h : i < n) : i % n = i := Nat.mod_eq_of_lt h
/-- the sum of the first i gaps: what lies between the first place and place i -/
def smS (S : List S24) (i : Nat) : Rat := smP S (i % S.length) - smP S 0
theorem smStep (S : List S24) (i : Nat) (hi : i < S.length) : fr (fr (smS S i) + (((gpNth S i).f0 : Rat) / (gpNth S i).f1)) = fr (smS S (i + 1)) := by
  rw [smGap, fr_plus]
  unfold smS
  rw [smMod hi]
  congr 1; grind
theorem smAdd (S : List S24) (i : Nat) (hi : i < S.length) (h1 : td (smS S i) ≤ 1000000) (h2 : isT (gpNth S i).f0 (gpNth S i).f1 = true) : vAdd (tn (smS S i)) (td (smS S i)) (gpNth S i).f0 (gpNth S i).f1 = mk (smS S (i + 1)) := by
  unfold vAdd
  rw [isT_tn, h2, decide_eq_true h1, if_pos (by decide), tn_td]
  exact mk_of_fr (smStep S i hi)
theorem smEnd (S : List S24) : tn (smS S S.length) = 0 := by
  unfold smS
  rw [Nat.mod_self, show smP S 0 - smP S 0 = ((0 : Int) : Rat) / ((1 : Int) : Rat) by grind]
  exact (canon (n := 0) (d := 1) (by decide) (by decide) (by decide)).1
theorem smBegin (S : List S24) : tn (smS S 0) = 0 ∧ td (smS S 0) = 1 := by
  unfold smS
  rw [Nat.zero_mod, show smP S 0 - smP S 0 = ((0 : Int) : Rat) / ((1 : Int) : Rat) by grind]
  exact canon (n := 0) (d := 1) (by decide) (by decide) (by decide)
theorem smP_range {S : List S24} (h : ∀ x ∈ S, gpOK x = true) (i : Nat) (hi : i < S.length) : 0 ≤ smP S i ∧ smP S i < 1 := by
  have t := smP_ok h i hi
  have e := isT_fr t
  unfold smP
  rw [← e]
  exact ⟨fr_nonneg _, fr_lt _⟩
theorem smP_le {S : List S24} (h : ∀ x ∈ S, gpOK x = true) (hp : S.Pairwise (fun x y => srt_le x y = true)) (i j : Nat) (hij : i < j) (hj : j < S.length) : smP S i ≤ smP S j := by
  have e := (List.pairwise_iff_getElem.1 hp) i j (by omega) hj hij
  have ei : S.getD i z24 = S[i] := by rw [List.getD_eq_getElem?_getD, List.getElem?_eq_getElem (by omega)]; rfl
  have ej : S.getD j z24 = S[j] := by rw [List.getD_eq_getElem?_getD, List.getElem?_eq_getElem hj]; rfl
  rw [← ei, ← ej, srt_le_iff] at e
  obtain ⟨a1, a2, a3, a4, _⟩ := isT_iff.1 (smP_ok h i (by omega))
  obtain ⟨b1, b2, b3, b4, _⟩ := isT_iff.1 (smP_ok h j hj)
  unfold smP
  generalize (S.getD i z24).f0 = a at *
  generalize (S.getD i z24).f1 = b at *
  generalize (S.getD j z24).f0 = c at *
  generalize (S.getD j z24).f1 = d at *
  have kb := cast_pos (show 0 < b by omega)
  have kd := cast_pos (show 0 < d by omega)
  have nd := cast_ne (show 0 < d by omega)
  have nb := cast_ne (show 0 < b by omega)
  have e1 : (a : Rat) * d ≤ c * b := by rw [← Rat.intCast_mul, ← Rat.intCast_mul]; exact Rat.intCast_le_intCast.2 e
  have i1 : (0 : Rat) ≤ (b : Rat)⁻¹ * (d : Rat)⁻¹ := Rat.mul_nonneg (Rat.le_of_lt (Rat.inv_pos.2 kb)) (Rat.le_of_lt (Rat.inv_pos.2 kd))
  have e2 := Rat.mul_le_mul_of_nonneg_right e1 i1
  have l1 : (a : Rat) * d * ((b : Rat)⁻¹ * (d : Rat)⁻¹) = (a : Rat) / b := by
    rw [Rat.div_def]; have := Rat.mul_inv_cancel _ nd; grind
  have l2 : (c : Rat) * b * ((b : Rat)⁻¹ * (d : Rat)⁻¹) = (c : Rat) / d := by
    rw [Rat.div_def]; have := Rat.mul_inv_cancel _ nb; grind
  rw [l1, l2] at e2; exact e2
/-- equal gaps that are no nothing are each the n-th part of a turn -/
theorem smEven {S : List S24} (h : ∀ x ∈ S, gpOK x = true) (hp : S.Pairwise (fun x y => srt_le x y = true)) (hn : 1 < S.length) (q : Rat) (hq : q ≠ 0) (hg : ∀ i, i < S.length → fr (smP S ((i + 1) % S.length) - smP S i) = q) : q = ((1 : Int) : Rat) / (((S.length : Nat) : Int) : Rat) := by
  have step : ∀ i, i + 1 < S.length → smP S (i + 1) = smP S i + q := by
    intro i hi
    have e := hg i (by omega)
    rw [smMod hi] at e
    have r1 := smP_range h i (by omega)
    have r2 := smP_range h (i + 1) hi
    have l := smP_le h hp i (i + 1) (by omega) hi
    rw [fr_of_range (by grind) (by grind)] at e
    grind
  have all : ∀ i : Nat, i < S.length → smP S i = smP S 0 + (((i : Nat) : Int) : Rat) * q := by
    intro i
    induction i with
    | zero => intro _; have : (((0 : Nat) : Int) : Rat) = 0 := rfl; rw [this]; grind
    | succ i ih =>
      intro hi
      rw [step i hi, ih (by omega)]
      have : (((i + 1 : Nat) : Int) : Rat) = (((i : Nat) : Int) : Rat) + 1 := by
        rw [show ((i + 1 : Nat) : Int) = (i : Int) + 1 by omega, Rat.intCast_add]; rfl
      rw [this]; grind
  have hl := hg (S.length - 1) (by omega)
  rw [show S.length - 1 + 1 = S.length by omega, Nat.mod_self] at hl
  have ea := all (S.length - 1) (by omega)
  have r0 := smP_range h 0 (by omega)
  have r1 := smP_range h (S.length - 1) (by omega)
  have le := smP_le h hp 0 (S.length - 1) (by omega) (by omega)
  have ne : smP S 0 ≠ smP S (S.length - 1) := by
    intro e
    rw [← e, show smP S 0 - smP S 0 = 0 by grind, fr_of_range (by grind) (by grind)] at hl
    exact hq hl.symm
  have lt : smP S 0 < smP S (S.length - 1) := by grind
  have e1 : fr (smP S 0 - smP S (S.length - 1)) = fr (smP S 0 - smP S (S.length - 1) + ((1 : Int) : Rat)) := (fr_add_int _ _).symm
  have c1 : ((1 : Int) : Rat) = 1 := rfl
  rw [e1, c1, fr_of_range (by grind) (by grind)] at hl
  have cn : (((S.length - 1 : Nat) : Int) : Rat) = (((S.length : Nat) : Int) : Rat) - 1 := by
    rw [show ((S.length - 1 : Nat) : Int) = (S.length : Int) - 1 by omega, Rat.intCast_sub]; rfl
  rw [cn] at ea
  have nn : (((S.length : Nat) : Int) : Rat) ≠ 0 := cast_ne (by omega)
  have fin : (((S.length : Nat) : Int) : Rat) * q = 1 := by grind
  rw [c1, Rat.div_def, Rat.one_mul]
  have := Rat.mul_inv_cancel _ nn
  grind

/-! laws_FnHandsSpreadOfAll -/
theorem hs_end (a b c : Int) : Ev (fun k => (impl_IsHand.f k a b c).bind fun t1 => ((spec_IsHand.f k a b c).bind fun t2 => (some (t1 == t2)))) true := by
  refine Ev.bind (impl_IsHand_ev a b c) (Ev.bind (spec_IsHand_ev a b c) (Ev.val (Ev.now _) (by simp)))
def hsL (h : Int) : List S26 := [⟨⟨0, 1⟩, 1⟩, ⟨⟨0, 1⟩, h⟩]
theorem hs_l1 (h a b c : Int) (hD : isD h = true) : ∀ (n i : Nat), h.toNat - i = n → Ev (fun k => laws_FnHandsSpreadOfAll.l1 k h (hsL h) i a b c) true := by
  obtain ⟨d1, d2⟩ := isD_iff.1 hD
  intro n
  induction n with
  | zero =>
    intro i h0
    refine Ev.step (fun k => ?_) (hs_end a b c)
    simp only [laws_FnHandsSpreadOfAll.l1]; rw [if_neg (by omega)]
  | succ n ih =>
    intro i h0
    refine Ev.step (f := fun k => laws_FnHandsSpreadOfAll.l1 (k + 1) h (hsL h) i a b c) (fun k => rfl) ?_
    simp only [laws_FnHandsSpreadOfAll.l1]
    refine Ev.pos (by omega) ?_
    refine Ev.bind (impl_TimeOf_ev h i 20 0) ?_
    have hv : vTimeOf h i 20 0 = (tn (qTime h i 20 0), td (qTime h i 20 0), true) := by
      unfold vTimeOf; rw [if_pos ⟨hD, by omega, by omega, by omega⟩]
    have hq : td (qTime h i 20 0) ≤ 1000000 := by
      have := td_div_le ((i : Int) * 3600 + 20 * 60 + 0) (h * 3600) (by omega)
      unfold qTime; omega
    rw [hv]
    generalize qTime h i 20 0 = q at *
    have hT := hs_isT q hq
    have e1 : vHandAt 0 1 1 (tn q) (td q) = (tn q, td q, true) := by
      unfold vHandAt
      rw [if_pos (by decide), if_pos hT, tn_td, ← mk_of hq]
      refine mk_of_fr ?_
      have c0 : ((0 : Int) : Rat) = 0 := rfl
      have c1 : ((1 : Int) : Rat) = 1 := rfl
      have z : fr (fr q + 0) = fr (q + 0) := fr_fr_add q 0
      rw [c0, c1, show (0 : Rat) / 1 + 1 * fr q = fr q + 0 by grind, z, show q + 0 = q by grind]
    have hH : isH 0 1 h = true := by
      rw [isH_iff]; exact ⟨by decide, by omega, by omega⟩
    have e2 : vHandAt 0 1 h (tn q) (td q) = vLong h (tn q) (td q) := by
      have hd : td ((h : Rat) * ((tn q : Rat) / (td q : Rat))) ≤ 1000000 := Int.le_trans (td_mul_le (td_pos q)) hq
      unfold vHandAt vLong
      rw [if_pos hH, if_pos hT, hD, hT, if_pos (by decide), ← mk_of hd]
      have c0 : ((0 : Int) : Rat) = 0 := rfl
      have c1 : ((1 : Int) : Rat) = 1 := rfl
      congr 1
      rw [c0, c1]; grind
    have e3 : (vLong h (tn q) (td q)).2.2 = true := by unfold vLong; rw [hD, hT]; rfl
    have r0 : rd_T26 (hsL h) 0 = ⟨⟨0, 1⟩, 1⟩ := rfl
    have r1 : rd_T26 (hsL h) 1 = ⟨⟨0, 1⟩, h⟩ := rfl
    have l2 : ((hsL h).length : Int) = 2 := rfl
    rw [r0, r1, l2]
    refine Ev.pos (by omega) ?_
    refine Ev.bind (impl_HandAt_ev 0 1 1 (tn q) (td q)) ?_
    refine Ev.pos (by omega) ?_
    refine Ev.bind (impl_HandAt_ev 0 1 h (tn q) (td q)) ?_
    refine Ev.bind (impl_LongHand_ev h (tn q) (td q)) ?_
    rw [e1, e2]
    refine Ev.pos rfl (Ev.pos rfl (Ev.neg (by simp) (Ev.pos e3 (Ev.pos e3 (Ev.neg (by simp) ?_)))))
    rw [wrap_id (x := (i : Int) + 1) (by omega) (by omega)]
    exact ih (i + 1) (by omega)
theorem hs_j2 (h a b c : Int) : Ev (fun k => laws_FnHandsSpreadOfAll.j2 k h a b c) true := by
  refine Ev.step (f := fun k => laws_FnHandsSpreadOfAll.j2 (k + 1) h a b c) (fun k => rfl) ?_
  simp only [laws_FnHandsSpreadOfAll.j2, impl_HandsOfDial_eq, spec_HandsOfDial_eq, Option.bind_some, bne_self_eq_false, Bool.false_eq_true, if_false]
  have hlen := vDialHands_len h
  refine Ev.bind (laws_kHands_self _ (by omega)) ?_
  refine Ev.step (f := fun k => laws_FnHandsSpreadOfAll.j3 (k + 1) h (vDialHands h).1 (vDialHands h).2 (!true) a b c) (fun k => rfl) ?_
  simp only [laws_FnHandsSpreadOfAll.j3, Bool.not_true, Bool.false_eq_true, if_false]
  by_cases hD : isD h = true
  · have hv : vDialHands h = (hsL h, true) := by unfold vDialHands hsL; rw [if_pos hD]
    obtain ⟨d1, d2⟩ := isD_iff.1 hD
    rw [hv]
    have r0 : rd_T26 (hsL h) 0 = ⟨⟨0, 1⟩, 1⟩ := rfl
    have r1 : rd_T26 (hsL h) 1 = ⟨⟨0, 1⟩, h⟩ := rfl
    have l2 : ((hsL h).length : Int) = 2 := rfl
    refine Ev.pos rfl ?_
    simp only [r0, r1, l2]
    refine Ev.pos trivial (Ev.pos (by omega) (Ev.pos (by omega) ?_))
    refine Ev.bind (impl_CountMeets_ev 0 1 1 0 1 h) ?_
    have hc : vCount 0 1 1 0 1 h = (h - 1, true) := by
      have hH : isH 0 1 h = true := by rw [isH_iff]; exact ⟨by decide, by omega, by omega⟩
      unfold vCount vAsked ab
      rw [show isH 0 1 1 = true by decide, hH, if_pos (by simp; omega), if_pos (by omega)]
      congr 1; omega
    rw [hc]
    refine Ev.pos rfl ?_
    rw [wrap_id (x := h - 1) (by omega) (by omega)]
    simp only [bne_self_eq_false]
    refine Ev.step (f := fun k => laws_FnHandsSpreadOfAll.j4 (k + 1) h (hsL h) false a b c) (fun k => rfl) ?_
    simp only [laws_FnHandsSpreadOfAll.j4, Bool.false_eq_true, if_false]
    exact hs_l1 h a b c hD _ 0 rfl
  · have hv : vDialHands h = ([], false) := by unfold vDialHands; rw [if_neg hD]
    rw [hv]
    exact Ev.neg (by decide) (hs_end a b c)
theorem gaps_facts {l : List S26} {m n : Int} (h : (vGaps l m n).2 = true) : ∃ S : List S24, (vGaps l m n).1 = gpAll S ∧ S.length = l.length ∧ 1 ≤ l.length ∧ (∀ x ∈ S, gpOK x = true) ∧ S.Pairwise (fun x y => srt_le x y = true) ∧ (∀ x ∈ gpAll S, gpOK x = true) := by
  unfold vGaps at h ⊢
  split at h
  · rename_i c1
    rw [if_pos c1]
    split at h
    · rename_i c2
      rw [if_pos c2]
      split at h
      · rename_i c3
        rw [if_pos c3]
        unfold gpMid at h ⊢
        split at h
        · rename_i c4
          rw [if_pos c4]
          unfold gpEnd at h ⊢
          split at h
          · rename_i c5
            rw [if_pos c5]
            have hP : ∀ x ∈ l.map (gpPlace m n), gpOK x = true := List.all_eq_true.1 c4
            refine ⟨_, rfl, by rw [List.length_mergeSort, List.length_map], c1.1, fun x hx => hP x ((List.mergeSort_perm _ srt_le).mem_iff.1 hx), gpMerge_pair _ (fun x hx => gp_srt (hP x hx)), List.all_eq_true.1 c5⟩
          · cases h
        · cases h
      · cases h
    · cases h
  · cases h
def hsEq (g : List S24) (x : S24) : Bool := x.f0 == (rd_T24 g 0).f0 && (x.f1 == (rd_T24 g 0).f1)
theorem hs_mem {S : List S24} (hn : 1 ≤ S.length) {x : S24} (he : (spV (gpAll S)).1 = true) (hx : x ∈ gpAll S) : x = rd_T24 (gpAll S) 0 ∧ (x.f0 ≠ 0 ∨ S.length = 1) := by
  unfold spV at he
  simp only [Bool.not_eq_true', List.any_eq_false] at he
  have := he x hx
  unfold spBad at this
  rw [gpAll_len] at this
  simp only [Bool.or_eq_true, Bool.not_eq_true', Bool.and_eq_true, decide_eq_true_eq, not_or, not_and, beq_eq_false_iff_ne, ne_eq, Decidable.not_not] at this
  obtain ⟨⟨e0, e1⟩, e2⟩ := this
  refine ⟨?_, ?_⟩
  · cases x; simp only at e0 e1; rw [e0, e1]
  · by_cases z : x.f0 = 0
    · right; have := e2 z; omega
    · left; exact z
theorem hs_B {S : List S24} (h2 : S.length = 1) : (spV (gpAll S)).1 = true := by
  unfold spV
  simp only [Bool.not_eq_true', List.any_eq_false]
  intro x hx
  have e : x = rd_T24 (gpAll S) 0 := by
    obtain ⟨i, hi, rfl⟩ := List.getElem_of_mem hx
    rw [gpAll_len] at hi
    have : i = 0 := by omega
    subst this
    rw [show (0 : Int) = ((0 : Nat) : Int) from rfl, rd_el _ 0 (by rw [gpAll_len]; omega)]
  unfold spBad
  rw [gpAll_len, ← e, h2]; simp
theorem hs_D {S : List S24} (hg : ∀ x ∈ gpAll S, gpOK x = true) (hn : 1 ≤ S.length) : (spV (gpAll S)).1 = ((gpAll S).all (hsEq (gpAll S)) && (decide (S.length = 1) || decide ((rd_T24 (gpAll S) 0).f0 > 0))) := by
  rw [Bool.eq_iff_iff, Bool.and_eq_true, Bool.or_eq_true, decide_eq_true_iff, decide_eq_true_iff, List.all_eq_true]
  have hm : rd_T24 (gpAll S) 0 ∈ gpAll S := rd_mem _ 0 (by rw [gpAll_len]; omega)
  have hT := isT_iff.1 (hg _ hm)
  constructor
  · intro he
    refine ⟨fun x hx => ?_, ?_⟩
    · unfold hsEq; rw [(hs_mem hn he hx).1]; simp
    · rcases (hs_mem hn he hm).2 with z | z
      · right; omega
      · left; exact z
  · rintro ⟨ha, hb⟩
    unfold spV
    simp only [Bool.not_eq_true', List.any_eq_false]
    intro x hx
    have e := ha x hx
    unfold hsEq at e
    rw [Bool.and_eq_true, beq_iff_eq, beq_iff_eq] at e
    unfold spBad
    rw [gpAll_len, e.1, e.2]
    simp only [beq_self_eq_true, Bool.not_true, Bool.or_self, Bool.false_or, Bool.and_eq_true, decide_eq_true_eq, not_and]
    intro z
    rcases hb with hb | hb <;> omega
section
variable {S : List S24} (h1 : ∀ x ∈ S, gpOK x = true) (hp : S.Pairwise (fun x y => srt_le x y = true)) (hg : ∀ x ∈ gpAll S, gpOK x = true) (hn : 1 ≤ S.length)
include h1 hp hg hn
theorem hs_A (he : (spV (gpAll S)).1 = true) (h2 : 1 < S.length) : (rd_T24 (gpAll S) 0).f0 = 1 ∧ (rd_T24 (gpAll S) 0).f1 = (S.length : Int) := by
  have hr : ∀ i : Nat, i < S.length → gpNth S i = rd_T24 (gpAll S) 0 ∧ (gpNth S i).f0 ≠ 0 := by
    intro i hi
    have m : gpNth S i ∈ gpAll S := by rw [← sm_rd S i hi]; exact rd_mem _ i (by rw [gpAll_len]; exact hi)
    obtain ⟨e, z⟩ := hs_mem hn he m
    exact ⟨e, by rcases z with z | z; exact z; omega⟩
  have r0 := hr 0 (by omega)
  have hT : isT (rd_T24 (gpAll S) 0).f0 (rd_T24 (gpAll S) 0).f1 = true := hg _ (rd_mem _ 0 (by rw [gpAll_len]; omega))
  have e0 := r0.2
  rw [r0.1] at e0
  obtain ⟨t1, t2, t3, t4, _⟩ := isT_iff.1 hT
  have key := smEven h1 hp h2 (((rd_T24 (gpAll S) 0).f0 : Rat) / (rd_T24 (gpAll S) 0).f1) (by
    intro z
    have k := cast_ne (show 0 < (rd_T24 (gpAll S) 0).f1 by omega)
    have : ((rd_T24 (gpAll S) 0).f0 : Rat) = 0 := by
      have := Rat.div_mul_cancel (a := ((rd_T24 (gpAll S) 0).f0 : Rat)) k
      rw [z] at this; grind
    exact e0 (Rat.intCast_eq_zero_iff.1 this)) (fun i hi => by rw [← smGap, (hr i hi).1])
  have c := isT_canon hT
  have c2 := canon (n := 1) (d := (S.length : Int)) (by decide) (by omega) (by simp)
  rw [key] at c
  exact ⟨c.1.symm.trans c2.1, c.2.symm.trans c2.2⟩
theorem hs_brk (h a b c : Int) : Ev (fun k => if (spV (gpAll S)).1 = true then (if (S.length : Int) > 1 then (if 0 < ((gpAll S).length : Int) then (if (!((rd_T24 (gpAll S) 0).f0 == 1) || (!((rd_T24 (gpAll S) 0).f1 == (S.length : Int)))) = true then (some false) else (if (S.length : Int) = 1 then (laws_FnHandsSpreadOfAll.j2 k h a b c) else (laws_FnHandsSpreadOfAll.j2 k h a b c))) else none) else (if (S.length : Int) = 1 then (laws_FnHandsSpreadOfAll.j2 k h a b c) else (laws_FnHandsSpreadOfAll.j2 k h a b c))) else (if (S.length : Int) = 1 then (some false) else (laws_FnHandsSpreadOfAll.j2 k h a b c))) true := by
  have N := hs_j2 h a b c
  by_cases he : (spV (gpAll S)).1 = true
  · refine Ev.pos he ?_
    by_cases h2 : (S.length : Int) > 1
    · obtain ⟨a1, a2⟩ := hs_A h1 hp hg hn he (by omega)
      exact Ev.pos h2 (Ev.pos (by rw [gpAll_len]; omega) (Ev.neg (by rw [a1, a2]; simp) (Ev.neg (by omega) N)))
    · exact Ev.neg h2 (Ev.pos (by omega) N)
  · refine Ev.neg he (Ev.neg (fun z => he (hs_B (by omega))) N)
theorem hs_brk2 (h a b c : Int) : Ev (fun k => if (spV (gpAll S)).1 = true then (if (S.length : Int) > 1 then (if (!((rd_T24 (gpAll S) 0).f0 == 1) || (!((rd_T24 (gpAll S) 0).f1 == (S.length : Int)))) = true then (some false) else (if (S.length : Int) = 1 then (laws_FnHandsSpreadOfAll.j2 k h a b c) else (laws_FnHandsSpreadOfAll.j2 k h a b c))) else (if (S.length : Int) = 1 then (laws_FnHandsSpreadOfAll.j2 k h a b c) else (laws_FnHandsSpreadOfAll.j2 k h a b c))) else (if (S.length : Int) = 1 then (some false) else (laws_FnHandsSpreadOfAll.j2 k h a b c))) true := by
  have N := hs_j2 h a b c
  by_cases he : (spV (gpAll S)).1 = true
  · refine Ev.pos he ?_
    by_cases h2 : (S.length : Int) > 1
    · obtain ⟨a1, a2⟩ := hs_A h1 hp hg hn he (by omega)
      exact Ev.pos h2 (Ev.neg (by rw [a1, a2]; simp) (Ev.neg (by omega) N))
    · exact Ev.neg h2 (Ev.pos (by omega) N)
  · refine Ev.neg he (Ev.neg (fun z => he (hs_B (by omega))) N)
theorem hs_l0 (hL : S.length ≤ 100000) (h a b c : Int) : ∀ (r i : Nat), S.length - i = r → i ≤ S.length → td (smS S i) ≤ 1000000 → Ev (fun k => laws_FnHandsSpreadOfAll.l0 k h (gpAll S) (spV (gpAll S)).1 (S.length : Int) true (((gpAll S).take i).all (hsEq (gpAll S))) (gpAll S) ((gpAll S).length : Int) i a b c (tn (smS S i)) (td (smS S i))) true := by
  intro r
  induction r with
  | zero =>
    intro i h0 hi ht
    have ei : i = S.length := by omega
    subst ei
    refine Ev.step (f := fun k => laws_FnHandsSpreadOfAll.l0 (k + 1) h (gpAll S) (spV (gpAll S)).1 (S.length : Int) true (((gpAll S).take S.length).all (hsEq (gpAll S))) (gpAll S) ((gpAll S).length : Int) (S.length : Nat) a b c (tn (smS S S.length)) (td (smS S S.length))) (fun k => rfl) ?_
    simp only [laws_FnHandsSpreadOfAll.l0]
    have N := hs_j2 h a b c
    have D := hs_D hg hn
    have lg := gpAll_len S
    rw [show (gpAll S).take S.length = gpAll S by rw [← lg]; exact List.take_length]
    generalize hsm : (gpAll S).all (hsEq (gpAll S)) = same at *
    refine Ev.neg (by omega) (Ev.pos trivial (Ev.pos (smEnd S) ?_))
    by_cases he : (spV (gpAll S)).1 = true
    · rw [he] at D
      have D' := D.symm
      rw [Bool.and_eq_true, Bool.or_eq_true, decide_eq_true_iff, decide_eq_true_iff] at D'
      obtain ⟨d1, d2⟩ := D'
      subst d1
      refine Ev.pos he ?_
      by_cases h2 : (S.length : Int) > 1
      · obtain ⟨a1, a2⟩ := hs_A h1 hp hg hn he (by omega)
        exact Ev.pos h2 (Ev.pos (by omega) (Ev.neg (by rw [a1, a2]; simp) (Ev.neg (by omega) (Ev.pos rfl (Ev.neg (by rw [he, a1]; decide) N)))))
      · exact Ev.neg h2 (Ev.pos (by omega) (Ev.pos rfl (Ev.neg (by rw [he]; decide) N)))
    · have n1 : ¬ (S.length : Int) = 1 := fun z => he (hs_B (by omega))
      have hf := Bool.eq_false_iff.mpr he
      rw [hf] at D
      refine Ev.neg he (Ev.neg n1 ?_)
      cases same
      · exact Ev.neg (by decide) (Ev.neg (by rw [hf]; decide) N)
      · have : decide ((rd_T24 (gpAll S) 0).f0 > 0) = false := by
          rw [Bool.true_and, decide_eq_false (by omega), Bool.false_or] at D
          exact D.symm
        exact Ev.pos rfl (Ev.pos (by omega) (Ev.neg (by rw [hf, this]; decide) N))
  | succ r ih =>
    intro i h0 hi ht
    have hlt : i < S.length := by omega
    have lg := gpAll_len S
    have hgT : isT (gpNth S i).f0 (gpNth S i).f1 = true := by
      have : gpNth S i ∈ gpAll S := by rw [← sm_rd S i hlt]; exact rd_mem _ i (by rw [lg]; exact hlt)
      exact hg _ this
    refine Ev.step (f := fun k => laws_FnHandsSpreadOfAll.l0 (k + 1) h (gpAll S) (spV (gpAll S)).1 (S.length : Int) true (((gpAll S).take i).all (hsEq (gpAll S))) (gpAll S) ((gpAll S).length : Int) (i : Nat) a b c (tn (smS S i)) (td (smS S i))) (fun k => rfl) ?_
    simp only [laws_FnHandsSpreadOfAll.l0]
    refine Ev.pos (by omega) (Ev.pos (by omega) (Ev.pos (by omega) ?_))
    rw [sm_rd S i hlt]
    refine Ev.bind (impl_AddTurns_ev _ _ _ _) ?_
    rw [smAdd S i hlt ht hgT, wrap_id (x := (i : Int) + 1) (by omega) (by omega)]
    have hsame : ((gpAll S).take (i + 1)).all (hsEq (gpAll S)) = (((gpAll S).take i).all (hsEq (gpAll S)) && hsEq (gpAll S) (gpNth S i)) := by
      rw [gpAll_take S i hlt, List.all_append]; simp
    refine Ev.pos trivial ?_
    by_cases hk : td (smS S (i + 1)) ≤ 1000000
    · have next := ih (i + 1) (by omega) (by omega) hk
      rw [mk_of hk]
      cases hs : ((gpAll S).take i).all (hsEq (gpAll S))
      · rw [hsame, hs] at next
        exact Ev.neg (by decide) (Ev.pos rfl next)
      · rw [hsame, hs] at next
        exact Ev.pos rfl (Ev.pos (by omega) (Ev.pos rfl next))
    · have e : mk (smS S (i + 1)) = (0, 0, false) := if_neg hk
      rw [e]
      cases hs : ((gpAll S).take i).all (hsEq (gpAll S))
      · exact Ev.neg (by decide) (Ev.neg (by decide) (hs_brk h1 hp hg hn h a b c))
      · exact Ev.pos rfl (Ev.pos (by omega) (Ev.neg (by decide) (hs_brk2 h1 hp hg hn h a b c)))
end
theorem FnHandsSpreadOfAll : laws_FnHandsSpreadOfAll.Pure := by
  intro l m n h a b c hs_ _ _ _ _ _ _ _ _
  apply Ev.rounds (g := fun k => laws_FnHandsSpreadOfAll.f k l m n h a b c)
  unfold laws_FnHandsSpreadOfAll.f
  by_cases hbig : (l.length : Int) > 10000
  · exact Ev.pos hbig (Ev.now _)
  refine Ev.neg hbig ?_
  refine Ev.bind (impl_GapsAt_ev l m n (by omega)) (Ev.bind (spec_GapsAt_ev l m n (by omega)) (Ev.bind (impl_AreSpread_ev l m n (by omega)) (Ev.bind (spec_AreSpread_ev l m n (by omega)) ?_)))
  simp only [bne_self_eq_false, Bool.false_eq_true, if_false]
  have hlen := vGaps_len l m n
  refine Ev.bind (laws_kTurns_self _ (by omega)) ?_
  have hone : (vSpread l m n).2 = (vGaps l m n).2 := by
    unfold vSpread
    cases e : (vGaps l m n).2
    · rfl
    · rfl
  simp only [if_true, hone, bne_self_eq_false]
  refine Ev.step (f := fun k => laws_FnHandsSpreadOfAll.j0 (k + 1) l h (vGaps l m n).1 (vGaps l m n).2 (vSpread l m n).1 false a b c) (fun k => rfl) ?_
  simp only [laws_FnHandsSpreadOfAll.j0, Bool.false_eq_true, if_false]
  by_cases ok : (vGaps l m n).2 = true
  · refine Ev.pos ok ?_
    have hv : (vSpread l m n).1 = (spV (vGaps l m n).1).1 := by unfold vSpread; rw [if_pos ok]
    obtain ⟨S, e, e1, e2, e3, e4, e5⟩ := gaps_facts ok
    rw [hv, e]
    have lg := gpAll_len S
    refine Ev.pos (by rw [lg, e1]) ?_
    rw [← e1]
    have key := hs_l0 e3 e4 e5 (by omega) (by omega) h a b c _ 0 rfl (Nat.zero_le _) (by have := (smBegin S).2; omega)
    rw [(smBegin S).1, (smBegin S).2] at key
    exact key
  · exact Ev.neg ok (hs_j2 h a b c)

end Go.Proofs.Ytnffmifjleebpaa.Pure
