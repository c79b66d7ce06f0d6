/- FnHandsAheadOfAll of the program answers as the reference does, whatever is given: the pure part of the proof. No condition. -/
import Derived.Test.YtcoembcafgelkaaPFnHandsAheadOfAllx0
import Derived.Test.YtcoembcafgelkaaPFnHandsAheadOfAllx1
import Derived.Test.YtcoembcafgelkaaPFnHandsAheadOfAllx2
import Derived.Test.YtcoembcafgelkaaPFnHandsAheadOfAllx3
import Derived.Test.YtcoembcafgelkaaPFnHandsAheadOfAllx4
import Derived.Test.YtcoembcafgelkaaPFnHandsAheadOfAllx5
import Derived.Test.YtcoembcafgelkaaPFnHandsAheadOfAllx6
import Derived.Test.YtcoembcafgelkaaPFnHandsAheadOfAllx7
import Derived.Test.YtcoembcafgelkaaPFnHandsAheadOfAllx8
import Derived.Test.YtcoembcafgelkaaPFnHandsAheadOfAllx9
import Derived.Test.YtcoembcafgelkaaPFnHandsAheadOfAllx10
import Derived.Test.YtcoembcafgelkaaPFnHandsAheadOfAllx11
import Derived.Test.YtcoembcafgelkaaPFnHandsAheadOfAllx12
import Derived.Test.YtcoembcafgelkaaPFnHandsAheadOfAllx13
import Derived.Test.YtcoembcafgelkaaPFnHandsAheadOfAllx14c
import Derived.Test.YtcoembcafgelkaaPFnHandsAheadOfAllx14
import Derived.Test.YtcoembcafgelkaaMath
set_option linter.unusedVariables false
set_option linter.unusedSimpArgs false
namespace Go.Proofs.Ytcoembcafgelkaa.Pure
open Go.RowKit Go.Proofs.Ytcoembcafgelkaa.PFnHandsAheadOfAll Go.Proofs.YtcoembcafgelkaaW.PrintWords Go.Proofs.YtcoembcafgelkaaW.PrintLast Go.Proofs.YtcoembcafgelkaaW.PrintMore Go.Proofs.Ytcoembcafgelkaa.Math

/-! impl_within -/
theorem impl_within_eq (a b c : Int) : impl_within.f a b c = some (decide (b ≤ a ∧ a ≤ c)) := by
  unfold impl_within.f
  by_cases h : a ≥ b
  · rw [if_pos h]; simp [show b ≤ a from h]
  · rw [if_neg h]; simp [show ¬ b ≤ a from h]

/-! impl_gcd -/
theorem impl_gcd_l0 : ∀ (n : Nat) (a b : Int), 0 ≤ a → a ≤ 9223372036854775807 → 0 ≤ b → b ≤ 9223372036854775807 → b < n → Ev (fun k => impl_gcd.l0 k a b) (Int.gcd a b : Int) := by
  intro n
  induction n with
  | zero => intro a b _ _ h1 _ h2; omega
  | succ n ih =>
    intro a b ha ha' hb hb' hn
    by_cases h : b = 0
    · subst h
      refine Ev.step (f := fun _ => some a) (fun k => ?_) ?_
      · simp only [impl_gcd.l0]
        rw [wrap_id (by omega) (by omega)]
        unfold mx; simp; omega
      · rw [gcd_zero ha]; exact Ev.now a
    · have h1 := tmod_range ha (show 0 < b by omega)
      refine Ev.step (f := fun k => impl_gcd.l0 k b (Int.tmod a b)) (fun k => ?_) ?_
      · simp only [impl_gcd.l0]
        rw [if_neg h]
      · rw [← gcd_step ha (show 0 < b by omega)]
        exact ih b _ (by omega) (by omega) (by omega) (by omega) (by omega)
theorem impl_gcd_ev (a b : Int) (ha : 0 ≤ a) (ha' : a ≤ 9223372036854775807) (hb : 0 ≤ b) (hb' : b ≤ 9223372036854775807) : Ev (fun k => impl_gcd.f k a b) (Int.gcd a b : Int) := by
  unfold impl_gcd.f
  exact impl_gcd_l0 (b.toNat + 1) a b ha ha' hb hb' (by omega)

/-! impl_IsTurn -/
theorem impl_IsTurn_ev (n d : Int) : Ev (fun k => impl_IsTurn.f k n d) (isT n d) := by
  unfold impl_IsTurn.f
  simp only [impl_within_eq, Option.bind_some]
  by_cases h : 1 ≤ d ∧ d ≤ 1000000
  · refine Ev.pos (by simpa using h) ?_
    rw [wrap_id (by omega) (by omega)]
    by_cases h2 : 0 ≤ n ∧ n ≤ d - 1
    · refine Ev.pos (by simpa using h2) ?_
      refine Ev.bind (impl_gcd_ev n d (by omega) (by omega) (by omega) (by omega)) ?_
      refine Ev.val (Ev.now _) ?_
      unfold isT
      rw [Bool.eq_iff_iff]; simp; omega
    · refine Ev.neg (by simpa using h2) ?_
      refine Ev.val (Ev.now _) ?_
      unfold isT
      rw [Bool.eq_iff_iff]; simp; omega
  · refine Ev.neg (by simpa using h) ?_
    refine Ev.val (Ev.now _) ?_
    unfold isT
    rw [Bool.eq_iff_iff]; simp; omega

/-! impl_isCoarse -/
theorem impl_isCoarse_ev (n d : Int) : Ev (fun k => impl_isCoarse.f k n d) (isC n d) := by
  unfold impl_isCoarse.f isC
  refine Ev.bind (impl_IsTurn_ev n d) ?_
  cases isT n d
  · exact Ev.val (Ev.now _) (by simp)
  · exact Ev.val (Ev.now _) (by simp)

/-! impl_IsHand -/
theorem impl_IsHand_ev (n d s : Int) : Ev (fun k => impl_IsHand.f k n d s) (isH n d s) := by
  unfold impl_IsHand.f isH
  refine Ev.bind (impl_isCoarse_ev n d) ?_
  simp only [impl_within_eq, Option.bind_some]
  cases isC n d
  · exact Ev.val (Ev.now _) (by simp)
  · exact Ev.val (Ev.now _) (by simp)

/-! impl_areHands_1 -/
theorem impl_areHands_1_ev (n d s : Int) : Ev (fun k => impl_areHands_1.f k n d s) (!isH n d s) := by
  unfold impl_areHands_1.f
  exact Ev.bind (impl_IsHand_ev n d s) (Ev.now _)

/-! impl_areHands -/
theorem impl_areHands_g : ∀ l : List S25, Ev (fun k => impl_areHands.g k l) (l.all fun x => isH x.f0.f0 x.f0.f1 x.f1)
  | [] => Ev.now _
  | x :: xs => by
    have e : (fun k => impl_areHands.g k (x :: xs)) = fun k => (impl_areHands_1.f k x.f0.f0 x.f0.f1 x.f1).bind fun b => if b = true then some false else impl_areHands.g k xs := by funext k; rfl
    rw [e]
    refine Ev.bind (impl_areHands_1_ev _ _ _) ?_
    rw [List.all_cons]
    cases isH x.f0.f0 x.f0.f1 x.f1
    · exact Ev.pos rfl (Ev.now _)
    · exact Ev.neg (by decide) (impl_areHands_g xs)
theorem impl_areHands_ev (l : List S25) (hl : l.length < 4611686018427387904) : Ev (fun k => impl_areHands.f k l) (l.all fun x => isH x.f0.f0 x.f0.f1 x.f1) := by
  unfold impl_areHands.f
  exact Ev.pos hl (impl_areHands_g l)
theorem impl_areHands_two (a b s c d t : Int) : Ev (fun k => impl_areHands.f k [(⟨(⟨a, b⟩ : S23), s⟩ : S25), (⟨(⟨c, d⟩ : S23), t⟩ : S25)]) (isH a b s && isH c d t) :=
  Ev.val (impl_areHands_ev _ (by simp)) (by simp)

/-! impl_floorDiv -/
theorem impl_floorDiv_eq (a b : Int) (hb : 0 < b) (hb' : b ≤ 4000000000000000000) (ha : -4000000000000000000 ≤ a) (ha' : a ≤ 4000000000000000000) : impl_floorDiv.f a b = some (a / b, a % b) := by
  obtain ⟨h1, h2, h3⟩ := floor_of_trunc a b hb
  obtain ⟨h4, h5⟩ := tdiv_bound a b hb
  have h8 := tmod_bound a b hb
  obtain ⟨h6, h7⟩ := ediv_bound a b hb
  unfold impl_floorDiv.f
  rw [if_neg (by omega)]
  by_cases h : Int.tmod a b < 0
  · rw [if_pos h]
    obtain ⟨e1, e2⟩ := h2 h
    rw [wrap_id (x := Int.tdiv a b) (by omega) (by omega), wrap_id (by omega) (by omega), wrap_id (by omega) (by omega), e1, e2]
  · rw [if_neg h]
    obtain ⟨e1, e2⟩ := h3 (by omega)
    rw [wrap_id (by omega) (by omega), e1, e2]

/-! impl_part -/
theorem impl_part_ev (n d : Int) (hd : 0 < d) (hd' : d ≤ 4000000000000000000) (hn : -4000000000000000000 ≤ n) (hn' : n ≤ 4000000000000000000) : Ev (fun k => impl_part.f k n d) (tn ((n : Rat) / d), td ((n : Rat) / d)) := by
  unfold impl_part.f
  rw [impl_floorDiv_eq n d hd hd' hn hn']
  simp only [Option.bind_some]
  have h0 := Int.emod_nonneg n (show d ≠ 0 by omega)
  have h1 := Int.emod_lt_of_pos n hd
  refine Ev.bind (impl_gcd_ev (n % d) d h0 (by omega) (by omega) (by omega)) ?_
  have hg := gcd_pos' (n % d) hd
  refine Ev.neg (by omega) ?_
  have e1 := Int.tdiv_eq_ediv_of_nonneg (b := (Int.gcd (n % d) d : Int)) h0
  have e2 := Int.tdiv_eq_ediv_of_nonneg (b := (Int.gcd (n % d) d : Int)) (show 0 ≤ d by omega)
  have b1 := ediv_le' h0 hg
  have b2 := ediv_le' (show 0 ≤ d by omega) hg
  rw [e1, e2, wrap_id (by omega) (by omega), wrap_id (by omega) (by omega), tn_div n d hd, td_div n d hd]
  exact Ev.now _

/-! impl_Turn_minus -/
theorem impl_Turn_minus_ev (a b c d : Int) (hb : 0 < b) (hd : 0 < d) (hm : b * d ≤ 1000000000000000000) (ha : -b ≤ a) (ha' : a ≤ b) (hc : -d ≤ c) (hc' : c ≤ d) : Ev (fun k => impl_Turn_minus.f k a b c d) (tn ((a : Rat) / b - (c : Rat) / d), td ((a : Rat) / b - (c : Rat) / d)) := by
  have m1 := mul_bound (a := a) (b := d) (A := b) (B := d) (by omega) (by omega) (by omega) (by omega)
  have m2 := mul_bound (a := c) (b := b) (A := d) (B := b) (by omega) (by omega) (by omega) (by omega)
  have m3 := Int.mul_pos hb hd
  rw [Int.mul_comm d b] at m2
  unfold impl_Turn_minus.f
  rw [wrap_id (x := a * d) (by omega) (by omega), wrap_id (x := c * b) (by omega) (by omega), wrap_id (x := b * d) (by omega) (by omega), wrap_id (by omega) (by omega)]
  rw [← q_sub hb hd]
  exact Ev.bind (impl_part_ev _ _ (by omega) (by omega) (by omega) (by omega)) (Ev.now _)
theorem impl_Turn_minus_fr (p q : Rat) (hm : td p * td q ≤ 1000000000000000000) : Ev (fun k => impl_Turn_minus.f k (tn p) (td p) (tn q) (td q)) (tn (p - q), td (p - q)) := by
  have h1 := tn_nonneg p
  have h2 := tn_lt p
  have h3 := tn_nonneg q
  have h4 := tn_lt q
  refine Ev.val (impl_Turn_minus_ev _ _ _ _ (td_pos p) (td_pos q) hm (by omega) (by omega) (by omega) (by omega)) ?_
  rw [tn_td, tn_td]
  exact tt_of_fr (fr_minus p q)

/-! impl_relative -/
theorem impl_relative_ev (a b s c d t : Int) (h1 : isH a b s = true) (h2 : isH c d t = true) : Ev (fun k => impl_relative.f k a b s c d t) (tn ((a : Rat) / b - (c : Rat) / d), td ((a : Rat) / b - (c : Rat) / d), s - t) := by
  obtain ⟨u1, u2⟩ := isH_speed h1
  obtain ⟨u3, u4⟩ := isH_speed h2
  obtain ⟨p0, p5⟩ := isC_iff.1 (isH_iff.1 h1).1
  obtain ⟨r0, r5⟩ := isC_iff.1 (isH_iff.1 h2).1
  obtain ⟨p1, p2, p3, p4, _⟩ := isT_iff.1 p0
  obtain ⟨r1, r2, r3, r4, _⟩ := isT_iff.1 r0
  have m3 := mul_bound (a := b) (b := d) (A := 1000) (B := 1000) (by omega) (by omega) (by omega) (by omega)
  unfold impl_relative.f
  rw [wrap_id (x := s - t) (by omega) (by omega)]
  exact Ev.bind (impl_Turn_minus_ev a b c d (by omega) (by omega) (by omega) (by omega) (by omega) (by omega) (by omega)) (Ev.now _)

/-! impl_Turn_times -/
theorem impl_Turn_times_ev (a b k : Int) (hb : 0 < b) (hb' : b ≤ 4000000000000000000) (h0 : -4000000000000000000 ≤ a * k) (h1 : a * k ≤ 4000000000000000000) : Ev (fun n => impl_Turn_times.f n a b k) (tn (k * ((a : Rat) / b)), td (k * ((a : Rat) / b))) := by
  unfold impl_Turn_times.f
  rw [wrap_id (by omega) (by omega), ← q_mul hb]
  exact Ev.bind (impl_part_ev _ _ hb hb' h0 h1) (Ev.now _)
theorem impl_Turn_times_fr (p : Rat) (k : Int) (hp : td p ≤ 10000000000) (h0 : -100000 ≤ k) (h1 : k ≤ 100000) : Ev (fun n => impl_Turn_times.f n (tn p) (td p) k) (tn (k * p), td (k * p)) := by
  have h2 := tn_nonneg p
  have h3 := tn_lt p
  have m1 := mul_bound (a := tn p) (b := k) (A := 10000000000) (B := 100000) (by omega) (by omega) h0 h1
  refine Ev.val (impl_Turn_times_ev _ _ k (td_pos p) (by omega) (by omega) (by omega)) ?_
  rw [tn_td]
  exact tt_of_fr (fr_mul_fr k p)
theorem impl_Turn_times_T (a b k : Int) (h : isT a b = true) (h0 : -100000 ≤ k) (h1 : k ≤ 100000) : Ev (fun n => impl_Turn_times.f n a b k) (tn (k * ((a : Rat) / b)), td (k * ((a : Rat) / b))) := by
  obtain ⟨p1, p2, p3, p4, _⟩ := isT_iff.1 h
  have m1 := mul_bound (a := a) (b := k) (A := 1000000) (B := 100000) (by omega) (by omega) h0 h1
  exact impl_Turn_times_ev a b k (by omega) (by omega) (by omega) (by omega)

/-! impl_Turn_mirror -/
theorem impl_Turn_mirror_fr (p : Rat) (hp : td p ≤ 10000000000) : Ev (fun n => impl_Turn_mirror.f n (tn p) (td p)) (tn (-p), td (-p)) := by
  unfold impl_Turn_mirror.f
  refine Ev.bind (impl_Turn_times_fr p (-1) hp (by omega) (by omega)) ?_
  rw [neg_one_mul']
  exact Ev.now _
theorem impl_Turn_mirror_T (a b : Int) (h : isT a b = true) : Ev (fun n => impl_Turn_mirror.f n a b) (tn (-((a : Rat) / b)), td (-((a : Rat) / b))) := by
  unfold impl_Turn_mirror.f
  refine Ev.bind (impl_Turn_times_T a b (-1) h (by omega) (by omega)) ?_
  rw [neg_one_mul']
  exact Ev.now _

/-! impl_areTurns_1 -/
theorem impl_areTurns_1_ev (n d : Int) : Ev (fun k => impl_areTurns_1.f k n d) (!isT n d) := by
  unfold impl_areTurns_1.f
  exact Ev.bind (impl_IsTurn_ev n d) (Ev.now _)

/-! impl_areTurns -/
theorem impl_areTurns_g : ∀ l : List S23, Ev (fun k => impl_areTurns.g k l) (l.all fun x => isT x.f0 x.f1)
  | [] => Ev.now _
  | x :: xs => by
    have e : (fun k => impl_areTurns.g k (x :: xs)) = fun k => (impl_areTurns_1.f k x.f0 x.f1).bind fun b => if b = true then some false else impl_areTurns.g k xs := by funext k; rfl
    rw [e]
    refine Ev.bind (impl_areTurns_1_ev _ _) ?_
    rw [List.all_cons]
    cases isT x.f0 x.f1
    · exact Ev.pos rfl (Ev.now _)
    · exact Ev.neg (by decide) (impl_areTurns_g xs)
theorem impl_areTurns_ev (l : List S23) (hl : l.length < 4611686018427387904) : Ev (fun k => impl_areTurns.f k l) (l.all fun x => isT x.f0 x.f1) := by
  unfold impl_areTurns.f
  exact Ev.pos hl (impl_areTurns_g l)
theorem impl_areTurns_two (a b c d : Int) : Ev (fun k => impl_areTurns.f k [(⟨a, b⟩ : S23), (⟨c, d⟩ : S23)]) (isT a b && isT c d) :=
  Ev.val (impl_areTurns_ev _ (by simp)) (by simp)

/-! h_lists -/
def pk (q : Rat) : S23 := ⟨tn q, td q⟩
/-- The first n of the parts whose s-fold is w, but for whole turns. -/
def rl (w : Rat) (s : Int) (n : Nat) : List S23 := (List.range n).map fun i => pk ((w + (((i : Nat) : Int) : Rat)) / (s : Rat))
theorem rl_succ (w : Rat) (s : Int) (n : Nat) : rl w s (n + 1) = rl w s n ++ [pk ((w + (((n : Nat) : Int) : Rat)) / (s : Rat))] := by
  unfold rl; rw [List.range_succ, List.map_append]; rfl
theorem rl_length (w : Rat) (s : Int) (n : Nat) : (rl w s n).length = n := by unfold rl; simp
def okR (w : Rat) (s : Int) (n : Nat) : Bool := (rl w s n).all fun x => isT x.f0 x.f1
theorem okR_iff {w : Rat} {s : Int} {n : Nat} : okR w s n = true ↔ ∀ i, i < n → td ((w + ((i : Int) : Rat)) / (s : Rat)) ≤ 1000000 := by
  unfold okR rl
  simp only [List.all_map, List.all_eq_true, List.mem_range, Function.comp, pk, isT_tn, decide_eq_true_eq]
theorem rl_get (w : Rat) (s : Int) (n : Nat) (i : Int) (h0 : 0 ≤ i) (h1 : i < n) : rd_T23 (rl w s n) i = pk ((w + (i : Rat)) / (s : Rat)) := by
  unfold rd_T23 rl
  rw [List.getD_eq_getElem?_getD, List.getElem?_map, List.getElem?_range (by omega)]
  simp only [Option.map_some, Option.getD_some]
  rw [show ((i.toNat : Nat) : Int) = i by omega]
def vRoots (w : Rat) (s : Int) : List S23 × Bool := if okR w s s.toNat = true then (rl w s s.toNat, true) else ([], false)
/-- The times at which a hand with the speed s has gone on by q. -/
def vTimesAt (q : Rat) (s : Int) : List S23 × Bool := if s < 0 then vRoots (fr (-q)) (-s) else vRoots (fr q) s
theorem vTimesAt_no {q : Rat} {s : Int} (hs : s ≠ 0) (hq : 1000000 < td q) : vTimesAt q s = ([], false) := by
  unfold vTimesAt vRoots
  by_cases h : s < 0
  · rw [if_pos h, if_neg]
    intro ho
    have h1 := okR_iff.1 ho 0 (by omega)
    have h2 := td_root (-q) (-s) 0 (by omega)
    rw [td_neg] at h2
    simp only [Int.cast_ofNat_Int] at h1 h2
    omega
  · rw [if_neg h, if_neg]
    intro ho
    have h1 := okR_iff.1 ho 0 (by omega)
    have h2 := td_root q s 0 (by omega)
    simp only [Int.cast_ofNat_Int] at h1 h2
    omega
theorem vRoots_len {w : Rat} {s : Int} (hs : 0 ≤ s) : (vRoots w s).1.length ≤ s := by
  unfold vRoots
  split
  · rw [rl_length]; omega
  · exact hs
theorem vTimesAt_len {q : Rat} {s : Int} (h0 : -1000 ≤ s) (h1 : s ≤ 1000) : (vTimesAt q s).1.length ≤ 1000 := by
  unfold vTimesAt
  split
  · have := vRoots_len (w := fr (-q)) (show 0 ≤ -s by omega); omega
  · have := vRoots_len (w := fr q) (show 0 ≤ s by omega); omega

/-! impl_ifTurns -/
theorem impl_ifTurns_ev (l : List S23) (b : Bool) (hl : l.length < 4611686018427387904) : Ev (fun k => impl_ifTurns.f k l b) (if (b && l.all fun x => isT x.f0 x.f1) = true then (l, true) else ([], false)) := by
  unfold impl_ifTurns.f
  cases b
  · exact Ev.neg (by decide) (Ev.now _)
  refine Ev.pos rfl ?_
  refine Ev.bind (impl_areTurns_ev l hl) ?_
  rw [Bool.true_and]
  split <;> exact Ev.now _
theorem impl_ifTurns_roots (w : Rat) (s : Int) (hs : s ≤ 100000) : Ev (fun k => impl_ifTurns.f k (rl w s s.toNat) (okR w s s.toNat)) (vRoots w s) := by
  refine Ev.val (impl_ifTurns_ev _ _ (by rw [rl_length]; omega)) ?_
  show (if (okR w s s.toNat && okR w s s.toNat) = true then _ else _) = _
  rw [Bool.and_self]; rfl

/-! impl_roots -/
theorem impl_roots_l0 (w : Rat) (s : Int) (hs : 0 < s) (hs' : s ≤ 100000) (hw : td w ≤ 10000000000) : ∀ (n i : Nat), s.toNat - i = n → i ≤ s.toNat →
    Ev (fun k => impl_roots.l0 k s (rl (fr w) s i) s i (tn w) (td w)) (rl (fr w) s s.toNat, okR (fr w) s s.toNat) := by
  intro n
  induction n with
  | zero =>
    intro i h0 h1
    have hi : i = s.toNat := by omega
    refine Ev.step (f := fun k => ((impl_areTurns.f k (rl (fr w) s i)).bind fun t => (some (rl (fr w) s i, t)))) (fun k => ?_) ?_
    · simp only [impl_roots.l0]; rw [if_neg (by omega)]
    · refine Ev.bind (impl_areTurns_ev _ (by rw [rl_length]; omega)) ?_
      rw [hi]; exact Ev.now _
  | succ n ih =>
    intro i h0 h1
    have hb := td_pos w
    have h2 := tn_nonneg w
    have h3 := tn_lt w
    have m1 := mul_bound (a := (i : Int)) (b := td w) (A := 100000) (B := 10000000000) (by omega) (by omega) (by omega) (by omega)
    have m2 := mul_bound (a := td w) (b := s) (A := 10000000000) (B := 100000) (by omega) (by omega) (by omega) (by omega)
    have m3 := Int.mul_pos hb hs
    have e1 : ((tn w + (i : Int) * td w : Int) : Rat) / ((td w * s : Int) : Rat) = (fr w + (((i : Nat) : Int) : Rat)) / (s : Rat) := q_root hb hs i
    refine Ev.step (f := fun k => ((impl_part.f k (tn w + (i : Int) * td w) (td w * s)).bind fun bt => (if (rl (fr w) s i).length < 8796093022208 then (impl_roots.l0 k s (rl (fr w) s i ++ [⟨bt.1, bt.2⟩]) s ((i + 1 : Nat) : Int) (tn w) (td w)) else none))) (fun k => ?_) ?_
    · simp only [impl_roots.l0]
      rw [if_pos (by omega), wrap_id (x := (i : Int) * td w) (by omega) (by omega), wrap_id (x := td w * s) (by omega) (by omega), wrap_id (x := tn w + (i : Int) * td w) (by omega) (by omega), wrap_id (x := (i : Int) + 1) (by omega) (by omega)]
      rfl
    · refine Ev.bind (impl_part_ev _ _ m3 (by omega) (by omega) (by omega)) ?_
      refine Ev.pos (by rw [rl_length]; omega) ?_
      rw [e1]
      have := ih (i + 1) (by omega) (by omega)
      rw [rl_succ] at this
      exact this
theorem impl_roots_ev (w : Rat) (s : Int) (hs : 0 < s) (hs' : s ≤ 100000) (hw : td w ≤ 10000000000) : Ev (fun k => impl_roots.f k (tn w) (td w) s) (rl (fr w) s s.toNat, okR (fr w) s s.toNat) := by
  unfold impl_roots.f
  exact impl_roots_l0 w s hs hs' hw s.toNat 0 (by omega) (by omega)

/-! impl_Hand_timesAt -/
theorem impl_Hand_timesAt_ev (a b s c d : Int) (hs : s ≠ 0) (h0 : -1000 ≤ s) (h1 : s ≤ 1000) (hb : 0 < b) (hd : 0 < d) (hm : b * d ≤ 10000000000) (ha : -b ≤ a) (ha' : a ≤ b) (hc : -d ≤ c) (hc' : c ≤ d) : Ev (fun k => impl_Hand_timesAt.f k a b s c d) (vTimesAt ((c : Rat) / d - (a : Rat) / b) s) := by
  have hq : td ((c : Rat) / d - (a : Rat) / b) ≤ 10000000000 := by
    rw [← q_sub hd hb]
    have m3 := Int.mul_pos hd hb
    have := td_div_le (c * b - a * d) (d * b) m3
    rw [Int.mul_comm d b] at this
    rw [Int.mul_comm d b]
    omega
  unfold impl_Hand_timesAt.f
  refine Ev.bind (impl_Turn_minus_ev c d a b hd hb (by rw [Int.mul_comm]; omega) hc hc' ha ha') ?_
  generalize (c : Rat) / d - (a : Rat) / b = q at hq ⊢
  unfold vTimesAt
  by_cases hn : s < 0
  · refine Ev.pos hn ?_
    rw [if_pos hn, wrap_id (by omega) (by omega)]
    refine Ev.bind (impl_Turn_mirror_fr q hq) ?_
    refine Ev.bind (impl_roots_ev (-q) (-s) (by omega) (by omega) (by have := td_neg q; omega)) ?_
    exact Ev.bind (impl_ifTurns_roots _ (-s) (by omega)) (Ev.now _)
  · refine Ev.neg hn ?_
    rw [if_neg hn]
    refine Ev.bind (impl_roots_ev q s (by omega) (by omega) hq) ?_
    exact Ev.bind (impl_ifTurns_roots _ s (by omega)) (Ev.now _)

/-! h_ahead -/
/-- The times at which one hand is ahead of another by m / n. -/
def vAheadT (a b s c d t m n : Int) : List S23 × Bool := if vAsked a b s c d t = true then vTimesAt ((m : Rat) / n - fr ((a : Rat) / b - (c : Rat) / d)) (s - t) else ([], false)
theorem vAheadT_len (a b s c d t m n : Int) : (vAheadT a b s c d t m n).1.length ≤ 1000 := by
  unfold vAheadT
  split
  · rename_i h
    unfold vAsked at h
    simp only [Bool.and_eq_true] at h
    obtain ⟨u1, u2⟩ := isH_speed h.1.1
    obtain ⟨u3, u4⟩ := isH_speed h.1.2
    exact vTimesAt_len (by omega) (by omega)
  · simp

/-! impl_aheadTimes -/
theorem impl_aheadTimes_ev (a b s c d t m n : Int) (hn : 0 < n) (hn' : n ≤ 1000) (hm : 0 ≤ m) (hm' : m ≤ n) : Ev (fun k => impl_aheadTimes.f k a b s c d t m n) (vAheadT a b s c d t m n) := by
  unfold impl_aheadTimes.f vAheadT vAsked
  have no : Ev (fun k => impl_aheadTimes.j0 k true a b s c d t m n) ([], false) := by
    refine Ev.step (f := fun _ => some ([], false)) (fun k => ?_) (Ev.now _)
    simp only [impl_aheadTimes.j0]; rfl
  refine Ev.bind (impl_areHands_two a b s c d t) ?_
  cases h : isH a b s && isH c d t
  · exact Ev.neg (by decide) no
  refine Ev.pos rfl ?_
  rw [Bool.and_eq_true] at h
  obtain ⟨h1, h2⟩ := h
  by_cases hs : s = t
  · rw [show (s == t) = true by simpa using hs, show (true && (s != t)) = false by simp [hs]]
    exact no
  rw [show (s == t) = false by simpa using hs, show (true && (s != t)) = true by simpa using hs, if_pos rfl]
  obtain ⟨u1, u2⟩ := isH_speed h1
  obtain ⟨u3, u4⟩ := isH_speed h2
  have hst := td_start h1 h2
  have g0 := td_pos ((a : Rat) / b - (c : Rat) / d)
  have g1 := tn_nonneg ((a : Rat) / b - (c : Rat) / d)
  have g2 := tn_lt ((a : Rat) / b - (c : Rat) / d)
  have m3 := mul_bound (a := td ((a : Rat) / b - (c : Rat) / d)) (b := n) (A := 1000000) (B := 1000) (by omega) (by omega) (by omega) (by omega)
  refine Ev.step (f := fun k => (impl_relative.f k a b s c d t).bind fun bt => ((impl_Hand_timesAt.f k bt.1 bt.2.1 bt.2.2 m n).bind fun bt => (some (bt.1, bt.2)))) (fun k => ?_) ?_
  · simp only [impl_aheadTimes.j0]; simp
  refine Ev.bind (impl_relative_ev a b s c d t h1 h2) ?_
  have := impl_Hand_timesAt_ev (tn ((a : Rat) / b - (c : Rat) / d)) (td ((a : Rat) / b - (c : Rat) / d)) (s - t) m n (by omega) (by omega) (by omega) g0 hn (by omega) (by omega) (by omega) (by omega) (by omega)
  rw [tn_td] at this
  exact Ev.bind this (Ev.now _)

/-! h_aheadTimes -/
def vAheadTimes (a b s c d t m n : Int) : List S23 × Bool := if isC m n = true then vAheadT a b s c d t m n else ([], false)
theorem vAheadTimes_len (a b s c d t m n : Int) : (vAheadTimes a b s c d t m n).1.length ≤ 1000 := by
  unfold vAheadTimes
  split
  · exact vAheadT_len _ _ _ _ _ _ _ _
  · simp

/-! impl_AheadTimes -/
theorem impl_AheadTimes_ev (a b s c d t m n : Int) : Ev (fun k => impl_AheadTimes.f k a b s c d t m n) (vAheadTimes a b s c d t m n) := by
  unfold impl_AheadTimes.f vAheadTimes
  refine Ev.bind (impl_isCoarse_ev m n) ?_
  cases h : isC m n
  · exact Ev.neg (by decide) (Ev.now _)
  refine Ev.pos rfl ?_
  obtain ⟨h1, h2⟩ := isC_iff.1 h
  obtain ⟨p1, p2, p3, p4, _⟩ := isT_iff.1 h1
  exact Ev.bind (impl_aheadTimes_ev a b s c d t m n (by omega) (by omega) (by omega) (by omega)) (Ev.now _)

/-! spec_l1In -/
theorem spec_l1In_eq (a b c : Int) : spec_l1In.f a b c = some (decide (b ≤ a ∧ a ≤ c)) := by
  unfold spec_l1In.f
  by_cases h : a ≥ b
  · rw [if_pos h]; simp [show b ≤ a from h]
  · rw [if_neg h]; simp [show ¬ b ≤ a from h]

/-! spec_diCommon -/
theorem spec_diCommon_l0 : ∀ (n : Nat) (a b : Int), 0 ≤ a → 0 ≤ b → b < n → Ev (fun k => spec_diCommon.l0 k a b) (Int.gcd a b : Int) := by
  intro n
  induction n with
  | zero => intro a b _ h1 h2; omega
  | succ n ih =>
    intro a b ha hb hn
    by_cases h : b = 0
    · subst h
      refine Ev.step (f := fun _ => some a) (fun k => ?_) ?_
      · simp only [spec_diCommon.l0]
        rw [if_neg (by omega)]
      · rw [gcd_zero ha]; exact Ev.now a
    · have h1 := tmod_range ha (show 0 < b by omega)
      refine Ev.step (f := fun k => spec_diCommon.l0 k b (Int.tmod a b)) (fun k => ?_) ?_
      · simp only [spec_diCommon.l0]
        rw [if_pos (by omega), if_neg h]
      · rw [← gcd_step ha (show 0 < b by omega)]
        exact ih b _ (by omega) (by omega) (by omega)
theorem spec_diCommon_ev (a b : Int) (ha : 0 ≤ a) (hb : 0 ≤ b) : Ev (fun k => spec_diCommon.f k a b) (Int.gcd a b : Int) := by
  unfold spec_diCommon.f
  exact spec_diCommon_l0 (b.toNat + 1) a b ha hb (by omega)

/-! spec_diGood -/
theorem spec_diGood_ev (n d : Int) : Ev (fun k => spec_diGood.f k n d) (isT n d) := by
  unfold spec_diGood.f
  simp only [spec_l1In_eq, Option.bind_some]
  by_cases h : 1 ≤ d ∧ d ≤ 1000000
  · refine Ev.pos (by simpa using h) ?_
    rw [wrap_id (by omega) (by omega)]
    by_cases h2 : 0 ≤ n ∧ n ≤ d - 1
    · refine Ev.pos (by simpa using h2) ?_
      refine Ev.bind (spec_diCommon_ev n d (by omega) (by omega)) ?_
      refine Ev.val (Ev.now _) ?_
      unfold isT
      rw [Bool.eq_iff_iff]; simp; omega
    · refine Ev.neg (by simpa using h2) ?_
      refine Ev.val (Ev.now _) ?_
      unfold isT
      rw [Bool.eq_iff_iff]; simp; omega
  · refine Ev.neg (by simpa using h) ?_
    refine Ev.val (Ev.now _) ?_
    unfold isT
    rw [Bool.eq_iff_iff]; simp; omega

/-! spec_meGood -/
theorem spec_meGood_ev (n d s : Int) : Ev (fun k => spec_meGood.f k n d s) (isH n d s) := by
  unfold spec_meGood.f isH isC
  refine Ev.bind (spec_diGood_ev n d) ?_
  simp only [spec_l1In_eq, Option.bind_some]
  cases isT n d
  · exact Ev.val (Ev.now _) (by simp)
  · by_cases h : d ≤ 1000
    · refine Ev.pos rfl (Ev.pos h ?_)
      exact Ev.val (Ev.now _) (by simp [h])
    · refine Ev.pos rfl (Ev.neg h ?_)
      exact Ev.val (Ev.now _) (by simp [h])

/-! spec_meTwo -/
theorem spec_meTwo_ev (a b s c d t : Int) : Ev (fun k => spec_meTwo.f k a b s c d t) (isH a b s && isH c d t) := by
  unfold spec_meTwo.f
  refine Ev.bind (spec_meGood_ev a b s) ?_
  cases isH a b s
  · exact Ev.neg (by decide) (Ev.now _)
  · exact Ev.pos rfl (Ev.bind (spec_meGood_ev c d t) (Ev.now _))

/-! spec_meAsked -/
theorem spec_meAsked_ev (a b s c d t : Int) : Ev (fun k => spec_meAsked.f k a b s c d t) (vAsked a b s c d t) := by
  unfold spec_meAsked.f vAsked
  refine Ev.bind (spec_meTwo_ev a b s c d t) ?_
  cases isH a b s && isH c d t
  · exact Ev.neg (by decide) (Ev.now _)
  · exact Ev.pos rfl (Ev.now _)

/-! spec_mePlace -/
theorem spec_mePlace_ev (n d : Int) : Ev (fun k => spec_mePlace.f k n d) (isC n d) := by
  unfold spec_mePlace.f isC
  refine Ev.bind (spec_diGood_ev n d) ?_
  cases isT n d
  · exact Ev.val (Ev.now _) (by simp)
  · exact Ev.val (Ev.now _) (by simp)

/-! spec_diMake -/
theorem spec_diMake_ev (n d : Int) (hd : 0 < d) (hd' : d ≤ 4000000000000000000) (hn : -4000000000000000000 ≤ n) (hn' : n ≤ 4000000000000000000) : Ev (fun k => spec_diMake.f k n d) (mk ((n : Rat) / d)) := by
  unfold spec_diMake.f
  refine Ev.neg (by omega) ?_
  have h0 := Int.emod_nonneg n (show d ≠ 0 by omega)
  have h1 := Int.emod_lt_of_pos n hd
  obtain ⟨t1, t2⟩ := tmod_bound n d hd
  have e0 : Int.tmod (wrap64 (Int.tmod n d + d)) d = n % d := by
    rw [wrap_id (by omega) (by omega)]; exact tmod_tmod n d hd
  rw [e0]
  refine Ev.bind (spec_diCommon_ev (n % d) d h0 (by omega)) ?_
  have hg := gcd_pos' (n % d) hd
  refine Ev.neg (by omega) ?_
  have e1 := Int.tdiv_eq_ediv_of_nonneg (b := (Int.gcd (n % d) d : Int)) h0
  have e2 := Int.tdiv_eq_ediv_of_nonneg (b := (Int.gcd (n % d) d : Int)) (show 0 ≤ d by omega)
  have b1 := ediv_le' h0 hg
  have b2 := ediv_le' (show 0 ≤ d by omega) hg
  rw [e1, e2, wrap_id (by omega) (by omega), wrap_id (by omega) (by omega)]
  unfold mk
  rw [tn_div n d hd, td_div n d hd]
  by_cases h : d / (Int.gcd (n % d) d : Int) > 1000000
  · rw [if_pos h, if_neg (by omega)]; exact Ev.now _
  · rw [if_neg h, if_pos (by omega)]; exact Ev.now _

/-! spec_diAdd -/
theorem spec_diAdd_ev (a b c d t : Int) (hb : 0 < b) (hd : 0 < d) (hm : b * d ≤ 1000000000000000) (ha : -b ≤ a) (ha' : a ≤ b) (hc : -d ≤ c) (hc' : c ≤ d) (ht : -1000 ≤ t) (ht' : t ≤ 1000) : Ev (fun k => spec_diAdd.f k a b c d t) (mk ((a : Rat) / b + t * ((c : Rat) / d))) := by
  have m1 := mul_bound (a := a) (b := d) (A := b) (B := d) (by omega) (by omega) (by omega) (by omega)
  have m2 := mul_bound (a := t) (b := c) (A := 1000) (B := d) (by omega) (by omega) (by omega) (by omega)
  have m4 := mul_bound (a := t * c) (b := b) (A := 1000 * d) (B := b) (by omega) (by omega) (by omega) (by omega)
  have m3 := Int.mul_pos hb hd
  have m5 : d ≤ b * d := by have := Int.mul_le_mul_of_nonneg_right (show 1 ≤ b by omega) (show 0 ≤ d by omega); omega
  rw [Int.mul_assoc, Int.mul_comm d b] at m4
  unfold spec_diAdd.f
  rw [wrap_id (x := a * d) (by omega) (by omega), wrap_id (x := t * c) (by omega) (by omega), wrap_id (x := t * c * b) (by omega) (by omega), wrap_id (x := b * d) (by omega) (by omega), wrap_id (by omega) (by omega)]
  rw [← q_add_mul hb hd]
  exact Ev.bind (spec_diMake_ev _ _ (by omega) (by omega) (by omega) (by omega)) (Ev.now _)
theorem spec_diAdd_T (a b c d t : Int) (h1 : isT a b = true) (h2 : isT c d = true) (ht : -1000 ≤ t) (ht' : t ≤ 1000) : Ev (fun k => spec_diAdd.f k a b c d t) (mk ((a : Rat) / b + t * ((c : Rat) / d))) := by
  obtain ⟨p1, p2, p3, p4, _⟩ := isT_iff.1 h1
  obtain ⟨r1, r2, r3, r4, _⟩ := isT_iff.1 h2
  have m3 := mul_bound (a := b) (b := d) (A := 1000000) (B := 1000000) (by omega) (by omega) (by omega) (by omega)
  exact spec_diAdd_ev a b c d t (by omega) (by omega) (by omega) (by omega) (by omega) (by omega) (by omega) ht ht'

/-! spec_diTimes -/
theorem spec_diTimes_ev (a b k : Int) (h : isT a b = true) (h0 : -100000 ≤ k) (h1 : k ≤ 100000) : Ev (fun n => spec_diTimes.f n a b k) (tn (k * ((a : Rat) / b)), td (k * ((a : Rat) / b))) := by
  obtain ⟨p1, p2, p3, p4, _⟩ := isT_iff.1 h
  have m1 := mul_bound (a := a) (b := k) (A := 1000000) (B := 100000) (by omega) (by omega) h0 h1
  unfold spec_diTimes.f
  rw [wrap_id (by omega) (by omega)]
  refine Ev.bind (spec_diMake_ev _ _ (by omega) (by omega) (by omega) (by omega)) ?_
  rw [q_mul (show 0 < b by omega), mk_of (Int.le_trans (td_mul_le (show 0 < b by omega)) p2)]
  exact Ev.now _
theorem spec_diTimes_fr (p : Rat) (k : Int) (hp : td p ≤ 1000000) (h0 : -100000 ≤ k) (h1 : k ≤ 100000) : Ev (fun n => spec_diTimes.f n (tn p) (td p) k) (tn (k * p), td (k * p)) := by
  refine Ev.val (spec_diTimes_ev (tn p) (td p) k (by rw [isT_tn]; simpa using hp) h0 h1) ?_
  rw [tn_td]
  exact tt_of_fr (fr_mul_fr k p)

/-! spec_diMirror -/
theorem spec_diMirror_fr (p : Rat) (hp : td p ≤ 1000000) : Ev (fun n => spec_diMirror.f n (tn p) (td p)) (tn (-p), td (-p)) := by
  unfold spec_diMirror.f
  refine Ev.bind (spec_diTimes_fr p (-1) hp (by omega) (by omega)) ?_
  rw [neg_one_mul']
  exact Ev.now _
theorem spec_diMirror_T (a b : Int) (h : isT a b = true) : Ev (fun n => spec_diMirror.f n a b) (tn (-((a : Rat) / b)), td (-((a : Rat) / b))) := by
  unfold spec_diMirror.f
  refine Ev.bind (spec_diTimes_ev a b (-1) h (by omega) (by omega)) ?_
  rw [neg_one_mul']
  exact Ev.now _

/-! spec_meTimes -/
theorem spec_meTimes_l0 (w : Rat) (s : Int) (hs : 0 < s) (hs' : s ≤ 100000) (hw : td w ≤ 10000000000) : ∀ (n i : Nat), s.toNat - i = n → i ≤ s.toNat → (∀ j, j < i → td ((fr w + ((j : Int) : Rat)) / (s : Rat)) ≤ 1000000) →
    Ev (fun k => spec_meTimes.l0 k s (rl (fr w) s i) (i : Int) (tn w) (td w)) (vRoots (fr w) s) := by
  intro n
  induction n with
  | zero =>
    intro i h0 h1 hj
    have hi : i = s.toNat := by omega
    refine Ev.step (f := fun k => some (rl (fr w) s i, true)) (fun k => ?_) ?_
    · simp only [spec_meTimes.l0]; rw [if_neg (by omega)]
    · unfold vRoots
      rw [if_pos (okR_iff.2 (fun j h => hj j (by omega))), hi]; exact Ev.now _
  | succ n ih =>
    intro i h0 h1 hj
    have hb := td_pos w
    have h2 := tn_nonneg w
    have h3 := tn_lt w
    have m1 := mul_bound (a := (i : Int)) (b := td w) (A := 100000) (B := 10000000000) (by omega) (by omega) (by omega) (by omega)
    have m2 := mul_bound (a := td w) (b := s) (A := 10000000000) (B := 100000) (by omega) (by omega) (by omega) (by omega)
    have m3 := Int.mul_pos hb hs
    have e1 : ((tn w + (i : Int) * td w : Int) : Rat) / ((td w * s : Int) : Rat) = (fr w + (((i : Nat) : Int) : Rat)) / (s : Rat) := q_root hb hs i
    refine Ev.step (f := fun k => ((spec_diMake.f k (tn w + (i : Int) * td w) (td w * s)).bind fun bt => (if bt.2.2 = true then (if (rl (fr w) s i).length < 8796093022208 then (spec_meTimes.l0 k s (rl (fr w) s i ++ [⟨bt.1, bt.2.1⟩]) ((i + 1 : Nat) : Int) (tn w) (td w)) else none) else some ([], false)))) (fun k => ?_) ?_
    · simp only [spec_meTimes.l0]
      rw [if_pos (by omega), wrap_id (x := (i : Int) * td w) (by omega) (by omega), wrap_id (x := td w * s) (by omega) (by omega), wrap_id (x := tn w + (i : Int) * td w) (by omega) (by omega), wrap_id (x := (i : Int) + 1) (by omega) (by omega)]
      rfl
    · refine Ev.bind (spec_diMake_ev _ _ m3 (by omega) (by omega) (by omega)) ?_
      rw [e1]
      by_cases ht : td ((fr w + (((i : Nat) : Int) : Rat)) / (s : Rat)) ≤ 1000000
      · rw [mk_of ht]
        refine Ev.pos rfl (Ev.pos (by rw [rl_length]; omega) ?_)
        have := ih (i + 1) (by omega) (by omega) (fun j h => by
          by_cases e : j = i
          · rw [e]; exact ht
          · exact hj j (by omega))
        rw [rl_succ] at this
        exact this
      · rw [show mk ((fr w + (((i : Nat) : Int) : Rat)) / (s : Rat)) = (0, 0, false) from if_neg ht]
        refine Ev.neg (by decide) ?_
        unfold vRoots
        rw [if_neg (fun h => ht (okR_iff.1 h i (by omega)))]
        exact Ev.now _

theorem spec_meTimes_j0 (w : Rat) (s : Int) (hs : 0 < s) (hs' : s ≤ 100000) (hw : td w ≤ 10000000000) : Ev (fun k => spec_meTimes.j0 k s (tn w) (td w)) (vRoots (fr w) s) := by
  refine Ev.step (f := fun k => spec_meTimes.l0 k s [] 0 (tn w) (td w)) (fun k => ?_) (spec_meTimes_l0 w s hs hs' hw s.toNat 0 (by omega) (by omega) (fun j h => by omega))
  simp only [spec_meTimes.j0]
theorem spec_meTimes_ev (a b s c d : Int) (hs : s ≠ 0) (h0 : -1000 ≤ s) (h1 : s ≤ 1000) (hb : 0 < b) (hd : 0 < d) (hm : b * d ≤ 1000000000000000) (ha : -b ≤ a) (ha' : a ≤ b) (hc : -d ≤ c) (hc' : c ≤ d) : Ev (fun k => spec_meTimes.f k a b s c d) (vTimesAt ((c : Rat) / d - (a : Rat) / b) s) := by
  unfold spec_meTimes.f
  refine Ev.bind (spec_diAdd_ev c d a b (-1) hd hb (by rw [Int.mul_comm]; exact hm) hc hc' ha ha' (by omega) (by omega)) ?_
  rw [add_neg_one_mul']
  generalize (c : Rat) / d - (a : Rat) / b = q
  by_cases hq : td q ≤ 1000000
  · rw [mk_of hq]
    refine Ev.pos rfl ?_
    unfold vTimesAt
    by_cases hn : s < 0
    · refine Ev.pos hn ?_
      rw [if_pos hn, wrap_id (by omega) (by omega)]
      refine Ev.bind (spec_diMirror_fr q hq) ?_
      exact spec_meTimes_j0 (-q) (-s) (by omega) (by omega) (by have := td_neg q; omega)
    · refine Ev.neg hn ?_
      rw [if_neg hn]
      exact spec_meTimes_j0 q s (by omega) (by omega) (by omega)
  · rw [show mk q = (0, 0, false) from if_neg hq, vTimesAt_no hs (by omega)]
    exact Ev.neg (by decide) (Ev.now _)

/-! spec_meRelative -/
theorem spec_meRelative_ev (a b s c d t : Int) (h1 : isH a b s = true) (h2 : isH c d t = true) : Ev (fun k => spec_meRelative.f k a b s c d t) (tn ((a : Rat) / b - (c : Rat) / d), td ((a : Rat) / b - (c : Rat) / d), s - t) := by
  obtain ⟨u1, u2⟩ := isH_speed h1
  obtain ⟨u3, u4⟩ := isH_speed h2
  have p0 := (isC_iff.1 (isH_iff.1 h1).1).1
  have r0 := (isC_iff.1 (isH_iff.1 h2).1).1
  unfold spec_meRelative.f
  rw [wrap_id (x := s - t) (by omega) (by omega)]
  refine Ev.bind (spec_diAdd_T a b c d (-1) p0 r0 (by omega) (by omega)) ?_
  rw [add_neg_one_mul', mk_of (by have := td_start h1 h2; omega)]
  exact Ev.now _

/-! spec_AheadTimes -/
theorem spec_AheadTimes_ev (a b s c d t m n : Int) : Ev (fun k => spec_AheadTimes.f k a b s c d t m n) (vAheadTimes a b s c d t m n) := by
  unfold spec_AheadTimes.f vAheadTimes vAheadT
  have no : Ev (fun k => spec_AheadTimes.j0 k true a b s c d t m n) ([], false) := by
    refine Ev.step (f := fun _ => some ([], false)) (fun k => ?_) (Ev.now _)
    simp only [spec_AheadTimes.j0]; rfl
  refine Ev.bind (spec_meAsked_ev a b s c d t) ?_
  cases h : vAsked a b s c d t
  · exact Ev.neg (by decide) (by simpa using no)
  refine Ev.pos rfl ?_
  refine Ev.bind (spec_mePlace_ev m n) ?_
  cases hp : isC m n
  · exact no
  obtain ⟨hp1, hp2⟩ := isC_iff.1 hp
  obtain ⟨p1, p2, p3, p4, _⟩ := isT_iff.1 hp1
  unfold vAsked at h
  simp only [Bool.and_eq_true, bne_iff_ne, ne_eq] at h
  obtain ⟨⟨h1, h2⟩, hs⟩ := h
  obtain ⟨u1, u2⟩ := isH_speed h1
  obtain ⟨u3, u4⟩ := isH_speed h2
  have hst := td_start h1 h2
  have g0 := td_pos ((a : Rat) / b - (c : Rat) / d)
  have g1 := tn_nonneg ((a : Rat) / b - (c : Rat) / d)
  have g2 := tn_lt ((a : Rat) / b - (c : Rat) / d)
  have m3 := mul_bound (a := td ((a : Rat) / b - (c : Rat) / d)) (b := n) (A := 1000000) (B := 1000) (by omega) (by omega) (by omega) (by omega)
  refine Ev.step (f := fun k => (spec_meRelative.f k a b s c d t).bind fun bt => ((spec_meTimes.f k bt.1 bt.2.1 bt.2.2 m n).bind fun bt => (some (bt.1, bt.2)))) (fun k => ?_) ?_
  · simp only [spec_AheadTimes.j0]; simp
  refine Ev.bind (spec_meRelative_ev a b s c d t h1 h2) ?_
  have := spec_meTimes_ev (tn ((a : Rat) / b - (c : Rat) / d)) (td ((a : Rat) / b - (c : Rat) / d)) (s - t) m n (by omega) (by omega) (by omega) g0 (by omega) (by omega) (by omega) (by omega) (by omega) (by omega)
  rw [tn_td] at this
  exact Ev.bind this (Ev.now _)

/-! impl_ifTurn -/
theorem impl_ifTurn_ev (n d : Int) : Ev (fun k => impl_ifTurn.f k n d) (if isT n d = true then (n, d, true) else (0, 0, false)) := by
  unfold impl_ifTurn.f
  refine Ev.bind (impl_IsTurn_ev n d) ?_
  split <;> exact Ev.now _
theorem impl_ifTurn_mk (q : Rat) : Ev (fun k => impl_ifTurn.f k (tn q) (td q)) (mk q) := by
  refine Ev.val (impl_ifTurn_ev _ _) ?_
  unfold mk
  rw [isT_tn]
  simp

/-! impl_Turn_plus -/
theorem impl_Turn_plus_ev (a b c d : Int) (hb : 0 < b) (hd : 0 < d) (hm : b * d ≤ 1000000000000000000) (ha : -b ≤ a) (ha' : a ≤ b) (hc : -d ≤ c) (hc' : c ≤ d) : Ev (fun k => impl_Turn_plus.f k a b c d) (tn ((a : Rat) / b + (c : Rat) / d), td ((a : Rat) / b + (c : Rat) / d)) := by
  have m1 := mul_bound (a := a) (b := d) (A := b) (B := d) (by omega) (by omega) (by omega) (by omega)
  have m2 := mul_bound (a := c) (b := b) (A := d) (B := b) (by omega) (by omega) (by omega) (by omega)
  have m3 := Int.mul_pos hb hd
  rw [Int.mul_comm d b] at m2
  unfold impl_Turn_plus.f
  rw [wrap_id (x := a * d) (by omega) (by omega), wrap_id (x := c * b) (by omega) (by omega), wrap_id (x := b * d) (by omega) (by omega), wrap_id (by omega) (by omega)]
  rw [← q_add hb hd]
  exact Ev.bind (impl_part_ev _ _ (by omega) (by omega) (by omega) (by omega)) (Ev.now _)
theorem impl_Turn_plus_fr (p q : Rat) (hm : td p * td q ≤ 1000000000000000000) : Ev (fun k => impl_Turn_plus.f k (tn p) (td p) (tn q) (td q)) (tn (p + q), td (p + q)) := by
  have h1 := tn_nonneg p
  have h2 := tn_lt p
  have h3 := tn_nonneg q
  have h4 := tn_lt q
  refine Ev.val (impl_Turn_plus_ev _ _ _ _ (td_pos p) (td_pos q) hm (by omega) (by omega) (by omega) (by omega)) ?_
  rw [tn_td, tn_td]
  exact tt_of_fr (fr_plus p q)

/-! impl_Hand_at -/
theorem impl_Hand_at_ev (p q : Rat) (s : Int) (hp : td p * td (s * q) ≤ 1000000000000000000) (hq : td q ≤ 10000000000) (h0 : -100000 ≤ s) (h1 : s ≤ 100000) : Ev (fun k => impl_Hand_at.f k (tn p) (td p) s (tn q) (td q)) (tn (p + s * q), td (p + s * q)) := by
  unfold impl_Hand_at.f
  refine Ev.bind (impl_Turn_times_fr q s hq h0 h1) ?_
  exact Ev.bind (impl_Turn_plus_fr p (s * q) hp) (Ev.now _)
theorem impl_Hand_at_T (a b s c d : Int) (h1 : isT a b = true) (h2 : isT c d = true) (h0 : -1000 ≤ s) (h3 : s ≤ 1000) : Ev (fun k => impl_Hand_at.f k a b s c d) (tn ((a : Rat) / b + s * ((c : Rat) / d)), td ((a : Rat) / b + s * ((c : Rat) / d))) := by
  obtain ⟨e1, e2⟩ := isT_canon h1
  obtain ⟨e3, e4⟩ := isT_canon h2
  obtain ⟨p1, p2, p3, p4, _⟩ := isT_iff.1 h1
  obtain ⟨r1, r2, r3, r4, _⟩ := isT_iff.1 h2
  have hq : td ((s : Rat) * ((c : Rat) / d)) ≤ 1000000 := Int.le_trans (td_mul_le (show 0 < d by omega)) r2
  have hq' := td_pos ((s : Rat) * ((c : Rat) / d))
  have := impl_Hand_at_ev ((a : Rat) / b) ((c : Rat) / d) s (by
    have m3 := mul_bound (a := td ((a : Rat) / b)) (b := td ((s : Rat) * ((c : Rat) / d))) (A := 1000000) (B := 1000000) (by omega) (by omega) (by omega) (by omega)
    omega) (by omega) (by omega) (by omega)
  rwa [e1, e2, e3, e4] at this

/-! impl_AheadAt -/
theorem impl_AheadAt_ev (a b s c d t m n : Int) : Ev (fun k => impl_AheadAt.f k a b s c d t m n) (vAheadAt a b s c d t m n) := by
  unfold impl_AheadAt.f vAheadAt
  have no : Ev (fun k => impl_AheadAt.j0 k true a b s c d t m n) (0, 0, false) := by
    refine Ev.step (f := fun _ => some (0, 0, false)) (fun k => ?_) (Ev.now _)
    simp only [impl_AheadAt.j0]; rfl
  refine Ev.bind (impl_areHands_two a b s c d t) ?_
  cases h1 : isH a b s && isH c d t
  · exact Ev.neg (by decide) no
  refine Ev.pos rfl ?_
  refine Ev.bind (impl_IsTurn_ev m n) ?_
  cases h2 : isT m n
  · exact no
  rw [Bool.and_eq_true] at h1
  obtain ⟨u1, u2⟩ := isH_speed h1.1
  obtain ⟨u3, u4⟩ := isH_speed h1.2
  have hst := td_start h1.1 h1.2
  have hst0 := td_pos ((a : Rat) / b - (c : Rat) / d)
  obtain ⟨e3, e4⟩ := isT_canon h2
  obtain ⟨r1, r2, r3, r4, _⟩ := isT_iff.1 h2
  have hq : td (((s - t : Int) : Rat) * ((m : Rat) / n)) ≤ 1000000 := Int.le_trans (td_mul_le (show 0 < n by omega)) r2
  have hq' := td_pos (((s - t : Int) : Rat) * ((m : Rat) / n))
  have m3 := mul_bound (a := td ((a : Rat) / b - (c : Rat) / d)) (b := td (((s - t : Int) : Rat) * ((m : Rat) / n))) (A := 1000000) (B := 1000000) (by omega) (by omega) (by omega) (by omega)
  refine Ev.step (f := fun k => (impl_relative.f k a b s c d t).bind fun bt => ((impl_Hand_at.f k bt.1 bt.2.1 bt.2.2 m n).bind fun bt => ((impl_ifTurn.f k bt.1 bt.2).bind fun bt => (some (bt.1, bt.2.1, bt.2.2))))) (fun k => ?_) ?_
  · simp only [impl_AheadAt.j0]; simp
  refine Ev.bind (impl_relative_ev a b s c d t h1.1 h1.2) ?_
  have hat := impl_Hand_at_ev ((a : Rat) / b - (c : Rat) / d) ((m : Rat) / n) (s - t) (by omega) (by omega) (by omega) (by omega)
  rw [e3, e4] at hat
  refine Ev.bind hat ?_
  exact Ev.bind (impl_ifTurn_mk _) (Ev.now _)

/-! spec_meAt -/
theorem spec_meAt_ev (a b s c d : Int) (h1 : isT a b = true) (h2 : isT c d = true) (h0 : -1000 ≤ s) (h3 : s ≤ 1000) : Ev (fun k => spec_meAt.f k a b s c d) (mk ((a : Rat) / b + s * ((c : Rat) / d))) := by
  unfold spec_meAt.f
  exact Ev.bind (spec_diAdd_T a b c d s h1 h2 h0 h3) (Ev.now _)

/-! spec_AheadAt -/
theorem spec_AheadAt_ev (a b s c d t m n : Int) : Ev (fun k => spec_AheadAt.f k a b s c d t m n) (vAheadAt a b s c d t m n) := by
  unfold spec_AheadAt.f vAheadAt
  have no : Ev (fun k => spec_AheadAt.j0 k true a b s c d t m n) (0, 0, false) := by
    refine Ev.step (f := fun _ => some (0, 0, false)) (fun k => ?_) (Ev.now _)
    simp only [spec_AheadAt.j0]; rfl
  refine Ev.bind (spec_meTwo_ev a b s c d t) ?_
  cases h1 : isH a b s && isH c d t
  · exact Ev.neg (by decide) no
  refine Ev.pos rfl ?_
  refine Ev.bind (spec_diGood_ev m n) ?_
  cases h2 : isT m n
  · exact no
  rw [Bool.and_eq_true] at h1
  obtain ⟨u1, u2⟩ := isH_speed h1.1
  obtain ⟨u3, u4⟩ := isH_speed h1.2
  have hst := td_start h1.1 h1.2
  refine Ev.step (f := fun k => (spec_meRelative.f k a b s c d t).bind fun bt => ((spec_meAt.f k bt.1 bt.2.1 bt.2.2 m n).bind fun bt => (some (bt.1, bt.2.1, bt.2.2)))) (fun k => ?_) ?_
  · simp only [spec_AheadAt.j0]; simp
  refine Ev.bind (spec_meRelative_ev a b s c d t h1.1 h1.2) ?_
  refine Ev.bind (spec_meAt_ev _ _ (s - t) m n (by rw [isT_tn]; simpa using hst) h2 (by omega) (by omega)) ?_
  rw [tn_td, mk_of_fr (fr_fr_add _ _)]
  exact Ev.now _

/-! impl_RelativeHand -/
theorem impl_RelativeHand_ev (a b s c d t : Int) : Ev (fun k => impl_RelativeHand.f k a b s c d t) (vRelative a b s c d t) := by
  unfold impl_RelativeHand.f vRelative
  refine Ev.bind (impl_areHands_two a b s c d t) ?_
  cases h1 : isH a b s && isH c d t
  · exact Ev.neg (by decide) (Ev.now _)
  refine Ev.pos rfl ?_
  rw [Bool.and_eq_true] at h1
  refine Ev.bind (impl_relative_ev a b s c d t h1.1 h1.2) ?_
  refine Ev.bind (impl_IsHand_ev _ _ _) ?_
  simp only [if_true]
  split <;> exact Ev.now _

/-! spec_RelativeHand -/
theorem spec_RelativeHand_ev (a b s c d t : Int) : Ev (fun k => spec_RelativeHand.f k a b s c d t) (vRelative a b s c d t) := by
  unfold spec_RelativeHand.f vRelative
  refine Ev.bind (spec_meTwo_ev a b s c d t) ?_
  cases h1 : isH a b s && isH c d t
  · exact Ev.neg (by decide) (Ev.now _)
  refine Ev.pos rfl ?_
  rw [Bool.and_eq_true] at h1
  refine Ev.bind (spec_meRelative_ev a b s c d t h1.1 h1.2) ?_
  refine Ev.bind (spec_meGood_ev _ _ _) ?_
  simp only [if_true]
  cases h : isH (tn ((a : Rat) / b - (c : Rat) / d)) (td ((a : Rat) / b - (c : Rat) / d)) (s - t)
  · exact Ev.neg (by decide) (Ev.now _)
  · exact Ev.pos rfl (Ev.bind (spec_meRelative_ev a b s c d t h1.1 h1.2) (Ev.now _))

/-! impl_OppositeTimes -/
theorem impl_OppositeTimes_ev (a b s c d t : Int) : Ev (fun k => impl_OppositeTimes.f k a b s c d t) (vAheadT a b s c d t 1 2) := by
  unfold impl_OppositeTimes.f
  exact Ev.bind (impl_aheadTimes_ev a b s c d t 1 2 (by omega) (by omega) (by omega) (by omega)) (Ev.now _)

/-! spec_OppositeTimes -/
theorem spec_OppositeTimes_ev (a b s c d t : Int) : Ev (fun k => spec_OppositeTimes.f k a b s c d t) (vAheadT a b s c d t 1 2) := by
  unfold spec_OppositeTimes.f
  exact Ev.bind (spec_AheadTimes_ev a b s c d t 1 2) (Ev.now _)

/-! laws_kTurns -/
theorem laws_kTurns_l0 (l : List S23) (hl : l.length ≤ 100000) : ∀ (n i : Nat), l.length - i = n → i ≤ l.length → Ev (fun k => laws_kTurns.l0 k l l (l.length : Int) i) true := by
  intro n
  induction n with
  | zero =>
    intro i h0 h1
    refine Ev.step (f := fun k => some true) (fun k => ?_) (Ev.now _)
    simp only [laws_kTurns.l0]; rw [if_neg (by omega)]
  | succ n ih =>
    intro i h0 h1
    refine Ev.step (f := fun k => laws_kTurns.l0 k l l (l.length : Int) ((i + 1 : Nat) : Int)) (fun k => ?_) (ih (i + 1) (by omega) (by omega))
    simp only [laws_kTurns.l0]
    rw [if_pos (by omega), if_pos (by omega), if_pos (by omega), if_pos (by omega), if_neg (by simp), wrap_id (by omega) (by omega)]
    rfl
theorem laws_kTurns_self (l : List S23) (hl : l.length ≤ 100000) : Ev (fun k => laws_kTurns.f k l l) true := by
  unfold laws_kTurns.f
  exact Ev.pos rfl (laws_kTurns_l0 l hl l.length 0 (by omega) (by omega))

/-! laws_kAbs -/
theorem laws_kAbs_eq (x : Int) (h0 : -1000000 ≤ x) (h1 : x ≤ 1000000) : laws_kAbs.f x = some (ab x) := by
  unfold laws_kAbs.f ab
  split
  · rw [wrap_id (by omega) (by omega)]
  · rfl

/-! h_first -/
def vFirst (a b s c d t : Int) : Int × Int × Bool := if (vAheadT a b s c d t 0 1).2 = true then ((rd_T23 (vAheadT a b s c d t 0 1).1 0).f0, (rd_T23 (vAheadT a b s c d t 0 1).1 0).f1, true) else (0, 0, false)
theorem vRoots_ok {w : Rat} {s : Int} (h : (vRoots w s).2 = true) : okR w s s.toNat = true ∧ (vRoots w s).1 = rl w s s.toNat := by
  unfold vRoots at h ⊢
  split at h
  · rename_i e; rw [if_pos e]; exact ⟨e, rfl⟩
  · cases h
theorem vAheadT_pos {a b s c d t m n : Int} (h : (vAheadT a b s c d t m n).2 = true) : 0 < ((vAheadT a b s c d t m n).1.length : Int) := by
  unfold vAheadT at h ⊢
  split at h
  · rename_i e
    rw [if_pos e]
    unfold vAsked at e
    simp only [Bool.and_eq_true, bne_iff_ne, ne_eq] at e
    unfold vTimesAt at h ⊢
    split at h
    · rename_i hs
      rw [if_pos hs, (vRoots_ok h).2, rl_length]; omega
    · rename_i hs
      rw [if_neg hs, (vRoots_ok h).2, rl_length]; omega
  · cases h

/-! h_place -/
def vPlaceT (a b s c d : Int) : List S23 × Bool := if isH a b s = true then if isC c d = true then if s = 0 then ([], false) else vTimesAt ((c : Rat) / d - (a : Rat) / b) s else ([], false) else ([], false)
theorem vPlaceT_len (a b s c d : Int) : (vPlaceT a b s c d).1.length ≤ 1000 := by
  unfold vPlaceT
  split
  · rename_i h
    obtain ⟨u1, u2⟩ := isH_speed h
    split
    · split
      · simp
      · exact vTimesAt_len (by omega) (by omega)
    · simp
  · simp

/-! h_three -/
/-- whether the third hand stands where the first one stands -/
def thP (a b s m n u : Int) (x : S23) : Bool := decide (fr (((a : Rat) / b - (m : Rat) / n) + ((s - u : Int) : Rat) * ((x.f0 : Rat) / x.f1)) = 0)
theorem fr_zero_iff (p q : Rat) : fr p = fr q ↔ fr (p - q) = 0 := by
  constructor
  · intro h
    obtain ⟨z1, e1⟩ := fr_exists p
    obtain ⟨z2, e2⟩ := fr_exists q
    have e : p - q = 0 + ((z1 - z2 : Int) : Rat) := by rw [e1, e2, h, Rat.intCast_sub]; grind
    rw [e, fr_add_int]
    unfold fr; rw [show (0 : Rat).floor = 0 by decide]; grind
  · intro h
    obtain ⟨z, e⟩ := fr_exists (p - q)
    rw [h] at e
    have e2 : p = q + (z : Rat) := by grind
    rw [e2, fr_add_int]
theorem tn_zero_iff (q : Rat) : tn q = 0 ↔ fr q = 0 := by unfold tn; exact Rat.num_eq_zero
theorem th_same (a b s m n u : Int) (x : S23) : (tn ((a : Rat) / b + s * ((x.f0 : Rat) / x.f1)) = tn ((m : Rat) / n + u * ((x.f0 : Rat) / x.f1)) ∧ td ((a : Rat) / b + s * ((x.f0 : Rat) / x.f1)) = td ((m : Rat) / n + u * ((x.f0 : Rat) / x.f1))) ↔ thP a b s m n u x = true := by
  unfold thP
  rw [decide_eq_true_iff]
  have e : ((a : Rat) / b - (m : Rat) / n) + ((s - u : Int) : Rat) * ((x.f0 : Rat) / x.f1) = ((a : Rat) / b + s * ((x.f0 : Rat) / x.f1)) - ((m : Rat) / n + u * ((x.f0 : Rat) / x.f1)) := by rw [Rat.intCast_sub]; grind
  rw [e, ← fr_zero_iff]
  constructor
  · rintro ⟨h1, h2⟩; exact fr_of_eq h1 h2
  · intro h; have := tt_of_fr h; exact ⟨congrArg Prod.fst this, congrArg Prod.snd this⟩
def vThree (a b s c d t m n u : Int) : List S23 × Bool := if (vAheadT a b s c d t 0 1).2 = true then if isH m n u = true then ((vAheadT a b s c d t 0 1).1.filter (thP a b s m n u), true) else ([], false) else ([], false)
theorem vThree_len (a b s c d t m n u : Int) : (vThree a b s c d t m n u).1.length ≤ 1000 := by
  have h := vAheadT_len a b s c d t 0 1
  unfold vThree
  split
  · split
    · exact Nat.le_trans (List.length_filter_le _ _) h
    · simp
  · simp
theorem vAheadT_hands {a b s c d t m n : Int} (h : (vAheadT a b s c d t m n).2 = true) : isH a b s = true ∧ isH c d t = true := by
  unfold vAheadT vAsked at h
  split at h
  · rename_i e; simp at e; exact ⟨by simp [e.1], by simp [e.1]⟩
  · cases h

/-! h_rise -/
/-! ### times that rise -/
def ltT (x y : S23) : Prop := x.f0 * y.f1 < y.f0 * x.f1
theorem lt_of_rat {p q : Rat} (h0 : 0 ≤ p) (h : p < q) (h1 : q < 1) : tn p * td q < tn q * td p := by
  have hp : fr p = p := fr_of_range h0 (by grind)
  have hq : fr q = q := fr_of_range (by grind) h1
  have e1 := tn_td p
  have e2 := tn_td q
  rw [hp] at e1
  rw [hq] at e2
  have k1 : (0 : Rat) < (td p : Rat) := cast_pos (td_pos p)
  have k2 : (0 : Rat) < (td q : Rat) := cast_pos (td_pos q)
  have h2 : (tn p : Rat) / (td p : Rat) < (tn q : Rat) / (td q : Rat) := by rw [e1, e2]; exact h
  rw [Rat.div_lt_iff k1] at h2
  have h3 := Rat.mul_lt_mul_of_pos_right h2 k2
  have nz2 : (td q : Rat) ≠ 0 := cast_ne (td_pos q)
  have h4 : (tn q : Rat) / (td q : Rat) * (td p : Rat) * (td q : Rat) = ((tn q * td p : Int) : Rat) := by
    rw [Rat.intCast_mul, Rat.div_def]
    have := Rat.inv_mul_cancel _ nz2
    grind
  rw [h4, ← Rat.intCast_mul] at h3
  exact Rat.intCast_lt_intCast.1 h3
theorem rd_el (l : List S23) (i : Nat) (h : i < l.length) : rd_T23 l (i : Int) = l[i] := by
  unfold rd_T23
  rw [Int.toNat_natCast, List.getD_eq_getElem?_getD, List.getElem?_eq_getElem h]; rfl
theorem rd_mem (l : List S23) (i : Nat) (h : i < l.length) : rd_T23 l (i : Int) ∈ l := by
  rw [rd_el l i h]; exact List.getElem_mem h
theorem rl_pair {w : Rat} {s : Int} (h0 : 0 ≤ w) (h1 : w < 1) (hs : 0 < s) (n : Nat) (hn : (n : Int) ≤ s) : (rl w s n).Pairwise ltT := by
  unfold rl
  rw [List.pairwise_map]
  refine List.Pairwise.imp_of_mem (fun {i j} hi hj hij => ?_) (List.pairwise_lt_range (n := n))
  unfold ltT pk
  have hj' := List.mem_range.1 hj
  have k := cast_pos hs
  have c1 : ((i : Int) : Rat) + 1 ≤ ((j : Int) : Rat) := by
    have := Rat.intCast_le_intCast.2 (show ((i : Int) + 1) ≤ (j : Int) by omega)
    rw [Rat.intCast_add] at this; exact this
  have c2 : ((j : Int) : Rat) + 1 ≤ (s : Rat) := by
    have := Rat.intCast_le_intCast.2 (show ((j : Int) + 1) ≤ s by omega)
    rw [Rat.intCast_add] at this; exact this
  have c3 : (0 : Rat) ≤ ((i : Int) : Rat) := by
    have := Rat.intCast_le_intCast.2 (show (0 : Int) ≤ (i : Int) by omega)
    simpa using this
  refine lt_of_rat ?_ ?_ ?_
  · rw [Rat.div_def]; exact Rat.mul_nonneg (by grind) (Rat.le_of_lt (Rat.inv_pos.2 k))
  · rw [Rat.div_def, Rat.div_def]; exact Rat.mul_lt_mul_of_pos_right (by grind) (Rat.inv_pos.2 k)
  · rw [Rat.div_lt_iff k]; grind
theorem roots_facts {w : Rat} {s : Int} (hs : 0 < s) (h0 : 0 ≤ w) (h1 : w < 1) (h : (vRoots w s).2 = true) : (vRoots w s).1.Pairwise ltT ∧ ((vRoots w s).1.length : Int) = s ∧ ∀ x ∈ (vRoots w s).1, isT x.f0 x.f1 = true ∧ fr (s * ((x.f0 : Rat) / x.f1)) = w := by
  obtain ⟨ho, he⟩ := vRoots_ok h
  rw [he]
  refine ⟨rl_pair h0 h1 hs _ (by omega), by rw [rl_length]; omega, fun x hx => ⟨?_, ?_⟩⟩
  · exact (List.all_eq_true.1 ho) x hx
  · unfold rl at hx
    obtain ⟨i, _, rfl⟩ := List.mem_map.1 hx
    unfold pk
    simp only
    rw [tn_td, fr_mul_fr]
    have nz2 := cast_ne hs
    have e : (s : Rat) * ((w + (((i : Nat) : Int) : Rat)) / (s : Rat)) = w + (((i : Nat) : Int) : Rat) := by
      rw [Rat.mul_comm]; exact Rat.div_mul_cancel nz2
    rw [e, fr_add_int]
    exact fr_of_range h0 h1
theorem times_facts {q : Rat} {s : Int} (hs : s ≠ 0) (h : (vTimesAt q s).2 = true) : (vTimesAt q s).1.Pairwise ltT ∧ ((vTimesAt q s).1.length : Int) = ab s ∧ ∀ x ∈ (vTimesAt q s).1, isT x.f0 x.f1 = true ∧ fr (s * ((x.f0 : Rat) / x.f1)) = fr q := by
  unfold vTimesAt at h ⊢
  unfold ab
  split at h
  · rename_i hn
    rw [if_pos hn, if_pos hn]
    obtain ⟨h1, h2, h3⟩ := roots_facts (show 0 < -s by omega) (fr_nonneg _) (fr_lt _) h
    refine ⟨h1, h2, fun x hx => ⟨(h3 x hx).1, ?_⟩⟩
    have e := (h3 x hx).2
    have e2 : fr (-(fr (((-s : Int) : Rat) * ((x.f0 : Rat) / x.f1)))) = fr (-(fr (-q))) := by rw [e]
    rw [fr_neg_fr, fr_neg_fr, Rat.intCast_neg] at e2
    rw [show -(-q) = q by grind, show -(-(s : Rat) * ((x.f0 : Rat) / x.f1)) = (s : Rat) * ((x.f0 : Rat) / x.f1) by grind] at e2
    exact e2
  · rename_i hn
    rw [if_neg hn, if_neg hn]
    exact roots_facts (show 0 < s by omega) (fr_nonneg _) (fr_lt _) h
theorem ahT_facts {a b s c d t m n : Int} (h : (vAheadT a b s c d t m n).2 = true) : (isH a b s = true ∧ isH c d t = true) ∧ (vAheadT a b s c d t m n).1.Pairwise ltT ∧ ((vAheadT a b s c d t m n).1.length : Int) = ab (s - t) ∧ ∀ x ∈ (vAheadT a b s c d t m n).1, isT x.f0 x.f1 = true ∧ fr (((s - t : Int) : Rat) * ((x.f0 : Rat) / x.f1)) = fr ((m : Rat) / n - fr ((a : Rat) / b - (c : Rat) / d)) := by
  refine ⟨vAheadT_hands h, ?_⟩
  unfold vAheadT at h ⊢
  split at h
  · rename_i e
    rw [if_pos e]
    unfold vAsked at e
    simp only [Bool.and_eq_true, bne_iff_ne, ne_eq] at e
    exact times_facts (by omega) h
  · cases h
theorem place_facts {a b s c d : Int} (h : (vPlaceT a b s c d).2 = true) : (isH a b s = true ∧ isC c d = true) ∧ (vPlaceT a b s c d).1.Pairwise ltT ∧ ((vPlaceT a b s c d).1.length : Int) = ab s ∧ ∀ x ∈ (vPlaceT a b s c d).1, isT x.f0 x.f1 = true ∧ fr (s * ((x.f0 : Rat) / x.f1)) = fr ((c : Rat) / d - (a : Rat) / b) := by
  unfold vPlaceT at h ⊢
  split at h
  · rename_i e1
    split at h
    · rename_i e2
      split at h
      · cases h
      · rename_i e3
        rw [if_pos e1, if_pos e2, if_neg e3]
        exact ⟨⟨e1, e2⟩, times_facts e3 h⟩
    · cases h
  · cases h
theorem mk_turn {m n : Int} (h : isT m n = true) : mk ((m : Rat) / n) = (m, n, true) := by
  obtain ⟨e1, e2⟩ := isT_canon h
  have := isT_iff.1 h
  unfold mk
  rw [e1, e2, if_pos (by omega)]
/-- what is ahead then -/
theorem fr_back (D S M : Rat) (h : fr S = fr (M - fr D)) : fr (D + S) = fr M := by
  rw [← fr_add_fr, h, fr_add_fr]
  obtain ⟨z, hz⟩ := fr_exists D
  exact fr_eq_of _ _ z (by rw (occs := .pos [1]) [hz]; grind)
theorem ahead_back {a b s c d t m n u v : Int} (h1 : isH a b s = true) (h2 : isH c d t = true) (hx : isT u v = true) (hm : isT m n = true) (e : fr (((s - t : Int) : Rat) * ((u : Rat) / v)) = fr ((m : Rat) / n - fr ((a : Rat) / b - (c : Rat) / d))) : vAheadAt a b s c d t u v = (m, n, true) := by
  unfold vAheadAt
  rw [h1, h2, if_pos (by decide), if_pos hx, mk_of_fr (fr_back _ _ _ e), mk_turn hm]
theorem ahead_half {a b s c d t u v : Int} (h1 : isH a b s = true) (h2 : isH c d t = true) (hx : isT u v = true) (e : fr (((s - t : Int) : Rat) * ((u : Rat) / v)) = fr (((1 : Int) : Rat) / ((2 : Int) : Rat) - fr ((a : Rat) / b - (c : Rat) / d))) : vAheadAt c d t a b s u v = (1, 2, true) := by
  unfold vAheadAt
  rw [h1, h2, if_pos (by decide), if_pos hx, ← mk_turn (show isT 1 2 = true by decide)]
  refine mk_of_fr ?_
  have k := fr_back _ _ _ e
  have k2 : fr (-(fr ((a : Rat) / b - (c : Rat) / d + ((s - t : Int) : Rat) * ((u : Rat) / v)))) = fr (-(fr (((1 : Int) : Rat) / ((2 : Int) : Rat)))) := by rw [k]
  rw [fr_neg_fr, fr_neg_fr] at k2
  have k3 : (c : Rat) / d - (a : Rat) / b + ((t - s : Int) : Rat) * ((u : Rat) / v) = -((a : Rat) / b - (c : Rat) / d + ((s - t : Int) : Rat) * ((u : Rat) / v)) := by
    rw [Rat.intCast_sub, Rat.intCast_sub]; grind
  rw [k3, k2]
  exact fr_eq_of _ _ (-1) (by
    have e1 : ((1 : Int) : Rat) = 1 := rfl
    have e2 : ((2 : Int) : Rat) = 2 := rfl
    have e3 : ((-1 : Int) : Rat) = -1 := rfl
    rw [e1, e2, e3]; grind)
theorem hand_back {a b s c d u v : Int} (h1 : isH a b s = true) (h2 : isT c d = true) (hx : isT u v = true) (e : fr (s * ((u : Rat) / v)) = fr ((c : Rat) / d - (a : Rat) / b)) : vHandAt a b s u v = (c, d, true) := by
  unfold vHandAt
  rw [if_pos h1, if_pos hx, ← mk_turn h2]
  refine mk_of_fr ?_
  rw [← fr_add_fr, e, fr_add_fr]
  congr 1; grind

/-! laws_kRises -/
theorem laws_kRises_l0 (l : List S23) (hl : l.length ≤ 100000) (hp : l.Pairwise ltT) (hT : ∀ x ∈ l, isT x.f0 x.f1 = true) : ∀ (n i : Nat), l.length - i = n → 1 ≤ i → Ev (fun k => laws_kRises.l0 k l i) true := by
  intro n
  induction n with
  | zero =>
    intro i h0 h1
    refine Ev.step (f := fun k => some true) (fun k => ?_) (Ev.now _)
    simp only [laws_kRises.l0]; rw [if_neg (by omega)]
  | succ n ih =>
    intro i h0 h1
    refine Ev.step (f := fun k => laws_kRises.l0 k l ((i + 1 : Nat) : Int)) (fun k => ?_) (ih (i + 1) (by omega) (by omega))
    simp only [laws_kRises.l0]
    have e1 : wrap64 ((i : Int) - 1) = ((i - 1 : Nat) : Int) := by rw [wrap_id (by omega) (by omega)]; omega
    have e2 := (List.pairwise_iff_getElem.1 hp) (i - 1) i (by omega) (by omega) (by omega)
    have t1 := isT_iff.1 (hT _ (rd_mem l (i - 1) (by omega)))
    have t2 := isT_iff.1 (hT _ (rd_mem l i (by omega)))
    rw [← rd_el l (i - 1) (by omega), ← rd_el l i (by omega)] at e2
    unfold ltT at e2
    have b1 := mul_bound (a := (rd_T23 l ((i - 1 : Nat) : Int)).f0) (b := (rd_T23 l (i : Int)).f1) (A := 1000000) (B := 1000000) (by omega) (by omega) (by omega) (by omega)
    have b2 := mul_bound (a := (rd_T23 l (i : Int)).f0) (b := (rd_T23 l ((i - 1 : Nat) : Int)).f1) (A := 1000000) (B := 1000000) (by omega) (by omega) (by omega) (by omega)
    rw [e1, if_pos (by omega), if_pos (by omega), if_pos (by omega), if_pos (by omega), wrap_id (by omega) (by omega), wrap_id (by omega) (by omega), if_neg (by omega), wrap_id (by omega) (by omega)]
    rfl
theorem laws_kRises_ev (l : List S23) (hl : l.length ≤ 100000) (hp : l.Pairwise ltT) (hT : ∀ x ∈ l, isT x.f0 x.f1 = true) : Ev (fun k => laws_kRises.f k l) true := by
  unfold laws_kRises.f
  exact laws_kRises_l0 l hl hp hT _ 1 rfl (by omega)

/-! impl_HandAt -/
theorem impl_HandAt_ev (a b s c d : Int) : Ev (fun k => impl_HandAt.f k a b s c d) (vHandAt a b s c d) := by
  unfold impl_HandAt.f vHandAt
  have no : Ev (fun k => impl_HandAt.j0 k true a b s c d) (0, 0, false) := by
    refine Ev.step (f := fun _ => some (0, 0, false)) (fun k => ?_) (Ev.now _)
    simp only [impl_HandAt.j0]; rfl
  refine Ev.bind (impl_IsHand_ev a b s) ?_
  cases h1 : isH a b s
  · exact Ev.neg (by decide) no
  refine Ev.pos rfl ?_
  refine Ev.bind (impl_IsTurn_ev c d) ?_
  cases h2 : isT c d
  · exact no
  have ht := (isC_iff.1 (isH_iff.1 h1).1).1
  obtain ⟨s1, s2⟩ := isH_speed h1
  refine Ev.step (f := fun k => (impl_Hand_at.f k a b s c d).bind fun bt => ((impl_ifTurn.f k bt.1 bt.2).bind fun bt => (some (bt.1, bt.2.1, bt.2.2)))) (fun k => ?_) ?_
  · simp only [impl_HandAt.j0]; simp
  refine Ev.bind (impl_Hand_at_T a b s c d ht h2 (by omega) (by omega)) ?_
  exact Ev.bind (impl_ifTurn_mk _) (Ev.now _)

/-! impl_MeetTimes -/
theorem impl_MeetTimes_ev (a b s c d t : Int) : Ev (fun k => impl_MeetTimes.f k a b s c d t) (vAheadT a b s c d t 0 1) := by
  unfold impl_MeetTimes.f
  exact Ev.bind (impl_aheadTimes_ev a b s c d t 0 1 (by omega) (by omega) (by omega) (by omega)) (Ev.now _)

/-! impl_ThreeMeet_1 -/
theorem impl_ThreeMeet_1_ev (x : S23) (a b s m n u : Int) (hx : isT x.f0 x.f1 = true) (h1 : isH a b s = true) (h2 : isH m n u = true) : Ev (fun k => impl_ThreeMeet_1.f k x.f0 x.f1 a b s m n u) (!thP a b s m n u x) := by
  obtain ⟨u1, u2⟩ := isH_speed h1
  obtain ⟨u3, u4⟩ := isH_speed h2
  have p0 := (isC_iff.1 (isH_iff.1 h1).1).1
  have r0 := (isC_iff.1 (isH_iff.1 h2).1).1
  unfold impl_ThreeMeet_1.f
  refine Ev.bind (impl_Hand_at_T a b s x.f0 x.f1 p0 hx (by omega) (by omega)) ?_
  refine Ev.bind (impl_Hand_at_T m n u x.f0 x.f1 r0 hx (by omega) (by omega)) ?_
  have e := th_same a b s m n u x
  refine Ev.val (Ev.now _) ?_
  cases h : thP a b s m n u x
  · rw [h] at e
    have e2 : ¬ (tn ((a : Rat) / b + s * ((x.f0 : Rat) / x.f1)) = tn ((m : Rat) / n + u * ((x.f0 : Rat) / x.f1)) ∧ td ((a : Rat) / b + s * ((x.f0 : Rat) / x.f1)) = td ((m : Rat) / n + u * ((x.f0 : Rat) / x.f1))) := fun hh => absurd (e.1 hh) (by decide)
    clear e
    generalize tn ((a : Rat) / b + s * ((x.f0 : Rat) / x.f1)) = y1 at *
    generalize tn ((m : Rat) / n + u * ((x.f0 : Rat) / x.f1)) = y2 at *
    generalize td ((a : Rat) / b + s * ((x.f0 : Rat) / x.f1)) = y3 at *
    generalize td ((m : Rat) / n + u * ((x.f0 : Rat) / x.f1)) = y4 at *
    by_cases hy : y1 = y2
    · by_cases hz : y3 = y4
      · exact (e2 ⟨hy, hz⟩).elim
      · simp [hz]
    · simp [hy]
  · obtain ⟨e1, e2⟩ := e.2 h
    rw [e1, e2]; simp

/-! impl_ThreeMeet_del -/
theorem impl_ThreeMeet_del_g (a b s m n u : Int) (h1 : isH a b s = true) (h2 : isH m n u = true) : ∀ (l : List S23), (l.all fun x => isT x.f0 x.f1) = true → Ev (fun k => impl_ThreeMeet_del.g k a b s m n u l) (l.filter (thP a b s m n u))
  | [], _ => by
    exact Ev.cong (f := fun _ => some []) (Ev.now _) (funext fun k => by simp only [impl_ThreeMeet_del.g])
  | x :: xs, h => by
    simp only [List.all_cons, Bool.and_eq_true] at h
    refine Ev.cong (f := fun k => (impl_ThreeMeet_1.f k x.f0 x.f1 a b s m n u).bind fun q => (impl_ThreeMeet_del.g k a b s m n u xs).bind fun r => some (if q = true then r else x :: r)) ?_ (funext fun k => by simp only [impl_ThreeMeet_del.g])
    · refine Ev.bind (impl_ThreeMeet_1_ev x a b s m n u h.1 h1 h2) ?_
      refine Ev.bind (impl_ThreeMeet_del_g a b s m n u h1 h2 xs h.2) ?_
      refine Ev.val (Ev.now _) ?_
      rw [List.filter_cons]
      cases thP a b s m n u x <;> simp
theorem impl_ThreeMeet_del_ev (a b s m n u : Int) (h1 : isH a b s = true) (h2 : isH m n u = true) (l : List S23) (hl : l.length ≤ 1000) (h : (l.all fun x => isT x.f0 x.f1) = true) : Ev (fun k => impl_ThreeMeet_del.f k l a b s m n u) (l.filter (thP a b s m n u)) := by
  unfold impl_ThreeMeet_del.f
  exact Ev.pos (by omega) (impl_ThreeMeet_del_g a b s m n u h1 h2 l h)

/-! h_next -/
/-- The place of the first turn behind m / n, from place i on; -1 if there is none. -/
def nxG : List S23 → Int → Int → Int → Int
  | [], _, _, _ => -1
  | x :: xs, m, n, i => if sg (x.f0 * n - m * x.f1) > 0 then i else nxG xs m n (i + 1)
theorem nxG_range : ∀ (l : List S23) (m n i : Int), 0 ≤ i → nxG l m n i = -1 ∨ (i ≤ nxG l m n i ∧ nxG l m n i < i + l.length)
  | [], _, _, _, _ => Or.inl rfl
  | x :: xs, m, n, i, hi => by
    unfold nxG
    split
    · right; simp only [List.length_cons]; omega
    · rcases nxG_range xs m n (i + 1) (by omega) with h | h
      · left; exact h
      · right; simp only [List.length_cons]; omega
theorem vAheadT_all {a b s c d t m n : Int} (h : (vAheadT a b s c d t m n).2 = true) : ((vAheadT a b s c d t m n).1.all fun x => isT x.f0 x.f1) = true := by
  unfold vAheadT at h ⊢
  split at h
  · rename_i e
    rw [if_pos e]
    unfold vTimesAt at h ⊢
    split at h
    · rename_i hs
      rw [if_pos hs, (vRoots_ok h).2]; exact (vRoots_ok h).1
    · rename_i hs
      rw [if_neg hs, (vRoots_ok h).2]; exact (vRoots_ok h).1
  · cases h
def nxP (l : List S23) (m n : Int) : Int × Int × Bool := ((rd_T23 l (mx (nxG l m n 0) 0)).f0, (rd_T23 l (mx (nxG l m n 0) 0)).f1, true)
def vNext (a b s c d t m n : Int) : Int × Int × Bool := if (vAheadT a b s c d t 0 1).2 = true then if isT m n = true then nxP (vAheadT a b s c d t 0 1).1 m n else (0, 0, false) else (0, 0, false)
theorem mx_nx (l : List S23) (m n : Int) (hl : 0 < (l.length : Int)) : 0 ≤ mx (nxG l m n 0) 0 ∧ mx (nxG l m n 0) 0 < l.length := by
  unfold mx
  rcases nxG_range l m n 0 (by omega) with h | h
  · rw [h]; simp; omega
  · rw [if_neg (by omega)]; omega

/-! impl_ThreeMeet -/
theorem impl_ThreeMeet_ev (a b s c d t m n u : Int) : Ev (fun k => impl_ThreeMeet.f k a b s c d t m n u) (vThree a b s c d t m n u) := by
  unfold impl_ThreeMeet.f vThree
  refine Ev.bind (impl_MeetTimes_ev a b s c d t) ?_
  have hl := vAheadT_len a b s c d t 0 1
  by_cases h : (vAheadT a b s c d t 0 1).2 = true
  · refine Ev.pos h ?_
    rw [if_pos h]
    refine Ev.bind (impl_IsHand_ev m n u) ?_
    cases h2 : isH m n u
    · exact Ev.neg (by decide) (Ev.now _)
    refine Ev.pos rfl ?_
    rw [if_pos rfl]
    exact Ev.bind (impl_ThreeMeet_del_ev a b s m n u (vAheadT_hands h).1 h2 _ hl (vAheadT_all h)) (Ev.now _)
  · refine Ev.neg h ?_
    rw [if_neg h]; exact Ev.now _

/-! spec_MeetTimes -/
theorem spec_MeetTimes_ev (a b s c d t : Int) : Ev (fun k => spec_MeetTimes.f k a b s c d t) (vAheadT a b s c d t 0 1) := by
  unfold spec_MeetTimes.f vAheadT
  refine Ev.bind (spec_meAsked_ev a b s c d t) ?_
  cases h : vAsked a b s c d t
  · exact Ev.neg (by decide) (Ev.now _)
  refine Ev.pos rfl ?_
  unfold vAsked at h
  simp only [Bool.and_eq_true, bne_iff_ne, ne_eq] at h
  obtain ⟨⟨h1, h2⟩, hs⟩ := h
  obtain ⟨u1, u2⟩ := isH_speed h1
  obtain ⟨u3, u4⟩ := isH_speed h2
  have hst := td_start h1 h2
  have g0 := td_pos ((a : Rat) / b - (c : Rat) / d)
  have g1 := tn_nonneg ((a : Rat) / b - (c : Rat) / d)
  have g2 := tn_lt ((a : Rat) / b - (c : Rat) / d)
  have m3 := mul_bound (a := td ((a : Rat) / b - (c : Rat) / d)) (b := 1) (A := 1000000) (B := 1000) (by omega) (by omega) (by omega) (by omega)
  refine Ev.bind (spec_meRelative_ev a b s c d t h1 h2) ?_
  have := spec_meTimes_ev (tn ((a : Rat) / b - (c : Rat) / d)) (td ((a : Rat) / b - (c : Rat) / d)) (s - t) 0 1 (by omega) (by omega) (by omega) g0 (by omega) (by omega) (by omega) (by omega) (by omega) (by omega)
  rw [tn_td] at this
  exact Ev.bind this (Ev.now _)

/-! spec_ThreeMeet -/
theorem th_td (q : Rat) (h : fr q = 0) : td q = 1 := by unfold td; rw [h]; rfl
theorem spec_ThreeMeet_l0 (l : List S23) (hl : l.length ≤ 1000) (ha : (l.all fun x => isT x.f0 x.f1) = true) (a b s m n u : Int) (h1 : isH a b s = true) (h2 : isH m n u = true) : ∀ (r i : Nat), l.length - i = r → i ≤ l.length →
    Ev (fun k => spec_ThreeMeet.l0 k ((l.take i).filter (thP a b s m n u)) l (l.length : Int) (i : Int) a b s m n u) (l.filter (thP a b s m n u), true) := by
  intro r
  induction r with
  | zero =>
    intro i h0 hi
    have e : i = l.length := by omega
    subst e
    refine Ev.step (f := fun k => some ((l.take l.length).filter (thP a b s m n u), true)) (fun k => ?_) ?_
    · simp only [spec_ThreeMeet.l0]; rw [if_neg (by omega)]
    · rw [List.take_length]; exact Ev.now _
  | succ r ih =>
    intro i h0 hi
    have hlt : i < l.length := by omega
    obtain ⟨x, hx⟩ : ∃ x, x = l[i] := ⟨_, rfl⟩
    have hr : rd_T23 l (i : Int) = x := by unfold rd_T23; rw [List.getD_eq_getElem?_getD, show ((i : Int)).toNat = i from Int.toNat_natCast i, List.getElem?_eq_getElem hlt, hx]; rfl
    have hT : isT x.f0 x.f1 = true := by rw [hx]; exact List.all_eq_true.1 ha _ (List.getElem_mem hlt)
    have ht : l.take (i + 1) = l.take i ++ [x] := by rw [List.take_add_one, List.getElem?_eq_getElem hlt, hx]; rfl
    obtain ⟨u1, u2⟩ := isH_speed h1
    obtain ⟨u3, u4⟩ := isH_speed h2
    have hst := td_start h1 h2
    have ih' := ih (i + 1) (by omega) (by omega)
    rw [ht, List.filter_append] at ih'
    have hlen : ((l.take i).filter (thP a b s m n u)).length ≤ 1000 := Nat.le_trans (List.length_filter_le _ _) (Nat.le_trans (by rw [List.length_take]; omega) hl)
    generalize (l.take i).filter (thP a b s m n u) = acc at ih' hlen ⊢
    refine Ev.step (f := fun k => (spec_meRelative.f k a b s m n u).bind fun bt => ((spec_meAt.f k bt.1 bt.2.1 bt.2.2 x.f0 x.f1).bind fun bq => (if bq.2.2 = true then (if bq.1 = 0 then (if acc.length < 8796093022208 then (spec_ThreeMeet.l0 k (acc ++ [x]) l (l.length : Int) ((i + 1 : Nat) : Int) a b s m n u) else none) else (spec_ThreeMeet.l0 k acc l (l.length : Int) ((i + 1 : Nat) : Int) a b s m n u)) else (spec_ThreeMeet.l0 k acc l (l.length : Int) ((i + 1 : Nat) : Int) a b s m n u)))) (fun k => ?_) ?_
    · simp only [spec_ThreeMeet.l0]
      rw [if_pos (by omega), if_pos (by omega), if_pos (by omega), hr, wrap_id (x := (i : Int) + 1) (by omega) (by omega)]
      rfl
    · refine Ev.bind (spec_meRelative_ev a b s m n u h1 h2) ?_
      refine Ev.bind (spec_meAt_ev _ _ (s - u) x.f0 x.f1 (by rw [isT_tn]; simpa using hst) hT (by omega) (by omega)) ?_
      rw [tn_td, mk_of_fr (fr_fr_add _ _)]
      have hp : thP a b s m n u x = decide (fr (((a : Rat) / b - (m : Rat) / n) + ((s - u : Int) : Rat) * ((x.f0 : Rat) / x.f1)) = 0) := rfl
      generalize (((a : Rat) / b - (m : Rat) / n) + ((s - u : Int) : Rat) * ((x.f0 : Rat) / x.f1)) = q at hp ⊢
      rw [List.filter_cons, List.filter_nil, hp] at ih'
      by_cases hq : fr q = 0
      · rw [mk_of (by rw [th_td q hq]; omega)]
        simp only [hq, decide_true, if_true] at ih'
        exact Ev.pos rfl (Ev.pos ((tn_zero_iff q).2 hq) (Ev.pos (by omega) ih'))
      · simp only [hq, decide_false, Bool.false_eq_true, if_false, List.append_nil] at ih'
        by_cases hd : td q ≤ 1000000
        · rw [mk_of hd]
          exact Ev.pos rfl (Ev.neg (fun h => hq ((tn_zero_iff q).1 h)) ih')
        · rw [show mk q = (0, 0, false) from if_neg hd]
          exact Ev.neg (by decide) ih'
theorem spec_ThreeMeet_ev (a b s c d t m n u : Int) : Ev (fun k => spec_ThreeMeet.f k a b s c d t m n u) (vThree a b s c d t m n u) := by
  unfold spec_ThreeMeet.f vThree
  have hl := vAheadT_len a b s c d t 0 1
  have no : ∀ l, Ev (fun k => spec_ThreeMeet.j0 k l true a b s m n u) ([], false) := fun l => by
    refine Ev.step (f := fun _ => some ([], false)) (fun k => ?_) (Ev.now _)
    simp only [spec_ThreeMeet.j0]; rfl
  refine Ev.bind (spec_MeetTimes_ev a b s c d t) ?_
  by_cases h : (vAheadT a b s c d t 0 1).2 = true
  · refine Ev.pos h ?_
    rw [if_pos h]
    refine Ev.bind (spec_meGood_ev m n u) ?_
    cases h2 : isH m n u
    · exact no _
    · rw [if_pos rfl]
      refine Ev.step (f := fun k => spec_ThreeMeet.l0 k [] (vAheadT a b s c d t 0 1).1 ((vAheadT a b s c d t 0 1).1.length : Int) 0 a b s m n u) (fun k => ?_) ?_
      · simp only [spec_ThreeMeet.j0]; rfl
      · exact spec_ThreeMeet_l0 _ hl (vAheadT_all h) a b s m n u (vAheadT_hands h).1 h2 _ 0 rfl (by omega)
  · refine Ev.neg h ?_
    rw [if_neg h]; exact no _

/-! laws_kIn -/
def inT (l : List S23) (a b : Int) : Bool := l.any fun x => x.f0 == a && x.f1 == b
theorem laws_kIn_l0 (l : List S23) (hl : l.length ≤ 100000) (a b : Int) : ∀ (n i : Nat), l.length - i = n → i ≤ l.length → Ev (fun k => laws_kIn.l0 k l (l.length : Int) i a b) (inT (l.drop i) a b) := by
  intro n
  induction n with
  | zero =>
    intro i h0 h1
    refine Ev.step (f := fun k => some false) (fun k => ?_) (Ev.val (Ev.now _) ?_)
    · simp only [laws_kIn.l0]; rw [if_neg (by omega)]
    · rw [List.drop_eq_nil_of_le (by omega)]; rfl
  | succ n ih =>
    intro i h0 h1
    have e : inT (l.drop i) a b = (((rd_T23 l (i : Int)).f0 == a && (rd_T23 l (i : Int)).f1 == b) || inT (l.drop (i + 1)) a b) := by
      rw [rd_el l i (by omega), List.drop_eq_getElem_cons (by omega : i < l.length)]
      unfold inT
      rw [List.any_cons]
    by_cases hx : ((rd_T23 l (i : Int)).f0 == a && (rd_T23 l (i : Int)).f1 == b) = true
    · refine Ev.step (f := fun k => some true) (fun k => ?_) (Ev.val (Ev.now _) (by rw [e, hx]; rfl))
      simp only [laws_kIn.l0]
      rw [if_pos (by omega), if_pos (by omega), if_pos (by omega), if_pos hx]
    · refine Ev.step (f := fun k => laws_kIn.l0 k l (l.length : Int) ((i + 1 : Nat) : Int) a b) (fun k => ?_) (Ev.val (ih (i + 1) (by omega) (by omega)) (by rw [e, Bool.eq_false_iff.mpr hx]; rfl))
      simp only [laws_kIn.l0]
      rw [if_pos (by omega), if_pos (by omega), if_pos (by omega), if_neg hx, wrap_id (by omega) (by omega)]
      rfl
theorem laws_kIn_ev (l : List S23) (hl : l.length ≤ 100000) (a b : Int) : Ev (fun k => laws_kIn.f k l a b) (inT l a b) := by
  unfold laws_kIn.f
  exact laws_kIn_l0 l hl a b _ 0 rfl (by omega)

/-! impl_TimesAtPlace -/
theorem impl_TimesAtPlace_ev (a b s c d : Int) : Ev (fun k => impl_TimesAtPlace.f k a b s c d) (vPlaceT a b s c d) := by
  unfold impl_TimesAtPlace.f vPlaceT
  refine Ev.bind (impl_IsHand_ev a b s) ?_
  cases h1 : isH a b s
  · exact Ev.neg (by decide) (Ev.now _)
  refine Ev.pos rfl ?_
  refine Ev.bind (impl_isCoarse_ev c d) ?_
  cases h2 : isC c d
  · exact Ev.neg (by decide) (Ev.now _)
  refine Ev.pos rfl ?_
  simp only [if_true]
  by_cases hs : s = 0
  · refine Ev.pos hs ?_
    rw [if_pos hs]; exact Ev.now _
  refine Ev.neg hs ?_
  rw [if_neg hs]
  obtain ⟨p0, p5⟩ := isC_iff.1 (isH_iff.1 h1).1
  obtain ⟨r0, r5⟩ := isC_iff.1 h2
  obtain ⟨u1, u2⟩ := isH_speed h1
  obtain ⟨p1, p2, p3, p4, _⟩ := isT_iff.1 p0
  obtain ⟨r1, r2, r3, r4, _⟩ := isT_iff.1 r0
  have m3 := mul_bound (a := b) (b := d) (A := 1000) (B := 1000) (by omega) (by omega) (by omega) (by omega)
  exact Ev.bind (impl_Hand_timesAt_ev a b s c d hs (by omega) (by omega) (by omega) (by omega) (by omega) (by omega) (by omega) (by omega) (by omega)) (Ev.now _)

/-! spec_TimesAtPlace -/
theorem spec_TimesAtPlace_ev (a b s c d : Int) : Ev (fun k => spec_TimesAtPlace.f k a b s c d) (vPlaceT a b s c d) := by
  unfold spec_TimesAtPlace.f vPlaceT
  refine Ev.bind (spec_meGood_ev a b s) ?_
  cases h1 : isH a b s
  · exact Ev.neg (by decide) (Ev.now _)
  refine Ev.pos rfl ?_
  simp only [if_true]
  by_cases hs : s = 0
  · refine Ev.pos hs ?_
    rw [if_pos hs]; exact Ev.val (Ev.now _) (by simp)
  refine Ev.neg hs ?_
  rw [if_neg hs]
  refine Ev.bind (spec_mePlace_ev c d) ?_
  cases h2 : isC c d
  · exact Ev.neg (by decide) (Ev.now _)
  refine Ev.pos rfl ?_
  obtain ⟨p0, p5⟩ := isC_iff.1 (isH_iff.1 h1).1
  obtain ⟨r0, r5⟩ := isC_iff.1 h2
  obtain ⟨u1, u2⟩ := isH_speed h1
  obtain ⟨p1, p2, p3, p4, _⟩ := isT_iff.1 p0
  obtain ⟨r1, r2, r3, r4, _⟩ := isT_iff.1 r0
  have m3 := mul_bound (a := b) (b := d) (A := 1000) (B := 1000) (by omega) (by omega) (by omega) (by omega)
  exact Ev.bind (spec_meTimes_ev a b s c d hs (by omega) (by omega) (by omega) (by omega) (by omega) (by omega) (by omega) (by omega) (by omega)) (Ev.now _)

/-! spec_HandAt -/
theorem spec_HandAt_ev (a b s c d : Int) : Ev (fun k => spec_HandAt.f k a b s c d) (vHandAt a b s c d) := by
  unfold spec_HandAt.f vHandAt
  refine Ev.bind (spec_meGood_ev a b s) ?_
  cases h1 : isH a b s
  · exact Ev.neg (by decide) (Ev.now _)
  refine Ev.pos rfl ?_
  refine Ev.bind (spec_diGood_ev c d) ?_
  cases h2 : isT c d
  · exact Ev.neg (by decide) (Ev.now _)
  refine Ev.pos rfl ?_
  have ht := (isC_iff.1 (isH_iff.1 h1).1).1
  obtain ⟨s1, s2⟩ := isH_speed h1
  exact Ev.bind (spec_meAt_ev a b s c d ht h2 (by omega) (by omega)) (Ev.now _)

/-! laws_FnHandsAheadOfAll -/
theorem ha_l3 (p0 p1 p2 qa qb : Int) (l : List S23) (hl : l.length ≤ 100000) (hA : ∀ x ∈ l, vHandAt p0 p1 p2 x.f0 x.f1 = (qa, qb, true)) : ∀ (n i : Nat), l.length - i = n → Ev (fun k => laws_FnHandsAheadOfAll.l3 k l (l.length : Int) i p0 p1 p2 qa qb) true := by
  intro n
  induction n with
  | zero =>
    intro i h0
    refine Ev.step (f := fun k => some true) (fun k => ?_) (Ev.now _)
    simp only [laws_FnHandsAheadOfAll.l3]; rw [if_neg (by omega)]
  | succ n ih =>
    intro i h0
    refine Ev.step (f := fun k => (impl_HandAt.f k p0 p1 p2 ((rd_T23 l (i : Int)).f0) ((rd_T23 l (i : Int)).f1)).bind fun bv => (if bv.2.2 = true then (if (!(bv.1 == qa) || (!(bv.2.1 == qb))) = true then (some false) else (laws_FnHandsAheadOfAll.l3 k l (l.length : Int) ((i + 1 : Nat) : Int) p0 p1 p2 qa qb)) else (some false))) (fun k => ?_) ?_
    · simp only [laws_FnHandsAheadOfAll.l3]
      rw [if_pos (by omega), if_pos (by omega), if_pos (by omega), wrap_id (by omega) (by omega)]
      rfl
    · refine Ev.bind (impl_HandAt_ev _ _ _ _ _) ?_
      rw [hA _ (rd_mem l i (by omega))]
      simp only [if_true, beq_self_eq_true, Bool.not_true, Bool.or_self, Bool.false_eq_true, if_false]
      exact ih (i + 1) (by omega)
theorem ha_j9 (p0 p1 p2 qa qb : Int) : Ev (fun k => laws_FnHandsAheadOfAll.j9 k p0 p1 p2 qa qb) true := by
  refine Ev.step (f := fun k => laws_FnHandsAheadOfAll.j9 (k + 1) p0 p1 p2 qa qb) (fun k => rfl) ?_
  simp only [laws_FnHandsAheadOfAll.j9]
  refine Ev.bind (impl_TimesAtPlace_ev p0 p1 p2 qa qb) (Ev.bind (spec_TimesAtPlace_ev p0 p1 p2 qa qb) (Ev.bind (impl_HandAt_ev p0 p1 p2 qa qb) (Ev.bind (spec_HandAt_ev p0 p1 p2 qa qb) ?_)))
  simp only [bne_self_eq_false, beq_self_eq_true, Bool.not_true, Bool.or_self, Bool.false_eq_true, if_false]
  have hlen := vPlaceT_len p0 p1 p2 qa qb
  refine Ev.bind (laws_kTurns_self _ (by omega)) ?_
  simp only [if_true]
  refine Ev.step (f := fun k => laws_FnHandsAheadOfAll.j10 (k + 1) (vPlaceT p0 p1 p2 qa qb).1 (vPlaceT p0 p1 p2 qa qb).2 false p0 p1 p2 qa qb) (fun k => rfl) ?_
  simp only [laws_FnHandsAheadOfAll.j10, Bool.false_eq_true, if_false]
  by_cases h : (vPlaceT p0 p1 p2 qa qb).2 = true
  · refine Ev.pos h ?_
    obtain ⟨⟨hH, hC⟩, hp, hn, hx⟩ := place_facts h
    obtain ⟨s1, s2⟩ := isH_speed hH
    simp only [laws_kAbs_eq p2 (by omega) (by omega), Option.bind_some]
    refine Ev.pos hn ?_
    refine Ev.bind (laws_kRises_ev _ (by omega) hp (fun x m => (hx x m).1)) ?_
    refine Ev.step (f := fun k => laws_FnHandsAheadOfAll.j11 (k + 1) (vPlaceT p0 p1 p2 qa qb).1 (!true) p0 p1 p2 qa qb) (fun k => rfl) ?_
    simp only [laws_FnHandsAheadOfAll.j11, Bool.not_true, Bool.false_eq_true, if_false]
    exact ha_l3 p0 p1 p2 qa qb _ (by omega) (fun x m => hand_back hH (isC_iff.1 hC).1 (hx x m).1 (hx x m).2) _ 0 rfl
  · exact Ev.neg h (Ev.now _)
theorem ha_l2 (c0 c1 c2 e0 e1 e2 p0 p1 p2 qa qb : Int) (l3 l : List S23) (hl : l.length ≤ 100000) (hl3 : l3.length ≤ l.length) (hp : l3.Pairwise ltT) (hT : ∀ x ∈ l3, isT x.f0 x.f1 = true) (hA : ∀ x ∈ l, inT l3 x.f0 x.f1 = ((vAheadAt c0 c1 c2 e0 e1 e2 x.f0 x.f1).2.2 && ((vAheadAt c0 c1 c2 e0 e1 e2 x.f0 x.f1).1 == 0))) : ∀ (n i : Nat), l.length - i = n → Ev (fun k => laws_FnHandsAheadOfAll.l2 k l3 l l (l.length : Int) i c0 c1 c2 e0 e1 e2 p0 p1 p2 qa qb) true := by
  intro n
  induction n with
  | zero =>
    intro i h0
    refine Ev.step (f := fun k => (laws_kRises.f k l3).bind fun t522 => (if t522 = true then (if (l3.length : Int) > (l.length : Int) then (some false) else (laws_FnHandsAheadOfAll.j9 k p0 p1 p2 qa qb)) else (some false))) (fun k => ?_) ?_
    · simp only [laws_FnHandsAheadOfAll.l2]; rw [if_neg (by omega)]
    · refine Ev.bind (laws_kRises_ev l3 (by omega) hp hT) (Ev.pos rfl (Ev.neg (by omega) (ha_j9 p0 p1 p2 qa qb)))
  | succ n ih =>
    intro i h0
    have hm := hA _ (rd_mem l i (by omega))
    refine Ev.step (f := fun k => (impl_AheadAt.f k c0 c1 c2 e0 e1 e2 ((rd_T23 l (i : Int)).f0) ((rd_T23 l (i : Int)).f1)).bind fun bv => ((laws_kIn.f k l3 ((rd_T23 l (i : Int)).f0) ((rd_T23 l (i : Int)).f1)).bind fun t => (if bv.2.2 = true then (if (t != (bv.1 == 0)) = true then (some false) else (laws_FnHandsAheadOfAll.l2 k l3 l l (l.length : Int) ((i + 1 : Nat) : Int) c0 c1 c2 e0 e1 e2 p0 p1 p2 qa qb)) else (if (t != false) = true then (some false) else (laws_FnHandsAheadOfAll.l2 k l3 l l (l.length : Int) ((i + 1 : Nat) : Int) c0 c1 c2 e0 e1 e2 p0 p1 p2 qa qb))))) (fun k => ?_) ?_
    · simp only [laws_FnHandsAheadOfAll.l2]
      rw [if_pos (by omega), if_pos (by omega), if_pos (by omega), wrap_id (x := (i : Int) + 1) (by omega) (by omega)]
      rfl
    · refine Ev.bind (impl_AheadAt_ev _ _ _ _ _ _ _ _) (Ev.bind (laws_kIn_ev l3 (by omega) _ _) ?_)
      rw [hm]
      cases hz : (vAheadAt c0 c1 c2 e0 e1 e2 (rd_T23 l (i : Int)).f0 (rd_T23 l (i : Int)).f1).2.2
      · refine Ev.neg (by simp) (Ev.neg (by simp) (ih (i + 1) (by omega)))
      · refine Ev.pos rfl (Ev.neg (by simp) (ih (i + 1) (by omega)))
theorem three_facts {a b s c d t m n u : Int} (h : (vThree a b s c d t m n u).2 = true) : (vAheadT a b s c d t 0 1).2 = true ∧ isH m n u = true ∧ (vThree a b s c d t m n u).1 = (vAheadT a b s c d t 0 1).1.filter (thP a b s m n u) := by
  unfold vThree at h ⊢
  split at h
  · rename_i e1
    split at h
    · rename_i e2
      exact ⟨e1, e2, by rw [if_pos e1, if_pos e2]⟩
    · cases h
  · cases h
theorem in_filter (l : List S23) (f : S23 → Bool) (x : S23) (hx : x ∈ l) : inT (l.filter f) x.f0 x.f1 = f x := by
  unfold inT
  rw [Bool.eq_iff_iff, List.any_eq_true]
  constructor
  · rintro ⟨y, hy, e⟩
    rw [Bool.and_eq_true, beq_iff_eq, beq_iff_eq] at e
    have : y = x := by cases x; cases y; simp only at e; rw [e.1, e.2]
    rw [← this]; exact (List.mem_filter.1 hy).2
  · intro h
    exact ⟨x, List.mem_filter.2 ⟨hx, h⟩, by simp⟩
theorem three_in {a b s m n u : Int} (h1 : isH a b s = true) (h2 : isH m n u = true) (x : S23) (hx : isT x.f0 x.f1 = true) : thP a b s m n u x = ((vAheadAt a b s m n u x.f0 x.f1).2.2 && ((vAheadAt a b s m n u x.f0 x.f1).1 == 0)) := by
  unfold vAheadAt thP
  rw [h1, h2, if_pos (by decide), if_pos hx]
  generalize (a : Rat) / b - (m : Rat) / n + ((s - u : Int) : Rat) * ((x.f0 : Rat) / x.f1) = q
  rw [Bool.eq_iff_iff, decide_eq_true_iff, ← tn_zero_iff]
  unfold mk
  split
  · simp
  · rename_i h
    constructor
    · intro e
      exfalso; apply h
      have := co q
      rw [e] at this
      simp [Int.gcd] at this
      have := td_pos q
      omega
    · intro e; simp at e
theorem ha_j6 (c0 c1 c2 d0 d1 d2 e0 e1 e2 p0 p1 p2 qa qb : Int) : Ev (fun k => laws_FnHandsAheadOfAll.j6 k c0 c1 c2 d0 d1 d2 e0 e1 e2 p0 p1 p2 qa qb) true := by
  refine Ev.step (f := fun k => laws_FnHandsAheadOfAll.j6 (k + 1) c0 c1 c2 d0 d1 d2 e0 e1 e2 p0 p1 p2 qa qb) (fun k => rfl) ?_
  simp only [laws_FnHandsAheadOfAll.j6]
  refine Ev.bind (impl_ThreeMeet_ev c0 c1 c2 d0 d1 d2 e0 e1 e2) (Ev.bind (spec_ThreeMeet_ev c0 c1 c2 d0 d1 d2 e0 e1 e2) ?_)
  simp only [bne_self_eq_false, Bool.false_eq_true, if_false]
  have hlen := vThree_len c0 c1 c2 d0 d1 d2 e0 e1 e2
  refine Ev.bind (laws_kTurns_self _ (by omega)) ?_
  refine Ev.step (f := fun k => laws_FnHandsAheadOfAll.j7 (k + 1) (vThree c0 c1 c2 d0 d1 d2 e0 e1 e2).1 (vThree c0 c1 c2 d0 d1 d2 e0 e1 e2).2 (!true) c0 c1 c2 d0 d1 d2 e0 e1 e2 p0 p1 p2 qa qb) (fun k => rfl) ?_
  simp only [laws_FnHandsAheadOfAll.j7, Bool.not_true, Bool.false_eq_true, if_false]
  by_cases h : (vThree c0 c1 c2 d0 d1 d2 e0 e1 e2).2 = true
  · refine Ev.pos h ?_
    obtain ⟨h1, h2, h3⟩ := three_facts h
    obtain ⟨⟨hH, hH2⟩, hp, hn, hx⟩ := ahT_facts h1
    have hlen2 := vAheadT_len c0 c1 c2 d0 d1 d2 0 1
    refine Ev.bind (impl_MeetTimes_ev c0 c1 c2 d0 d1 d2) (Ev.pos h1 ?_)
    rw [h3]
    refine ha_l2 c0 c1 c2 e0 e1 e2 p0 p1 p2 qa qb _ _ (by omega) (List.length_filter_le _ _) (hp.filter _) (fun x m => (hx x (List.mem_filter.1 m).1).1) (fun x m => ?_) _ 0 rfl
    rw [in_filter _ _ x m, three_in hH h2 x (hx x m).1]
  · exact Ev.neg h (ha_j9 p0 p1 p2 qa qb)
theorem rel_hand {a b s c d t m n : Int} (h : (vRelative a b s c d t).2.2.2 = true) : vHandAt (vRelative a b s c d t).1 (vRelative a b s c d t).2.1 (vRelative a b s c d t).2.2.1 m n = vAheadAt a b s c d t m n ∧ (vRelative a b s c d t).2.2.1 = wrap64 (s - t) := by
  unfold vRelative at h ⊢
  split at h
  · rename_i e1
    split at h
    · rename_i e2
      rw [if_pos e1, if_pos e2]
      rw [Bool.and_eq_true] at e1
      have s1 := isH_speed e1.1
      have s2 := isH_speed e1.2
      refine ⟨?_, (wrap_id (x := s - t) (by omega) (by omega)).symm⟩
      simp only
      unfold vHandAt vAheadAt
      rw [if_pos e2, e1.1, e1.2, if_pos (show (true && true) = true from rfl)]
      by_cases hT : isT m n = true
      · rw [if_pos hT, if_pos hT, tn_td]
        exact mk_of_fr (fr_fr_add _ _)
      · rw [if_neg hT, if_neg hT]
    · cases h
  · cases h
theorem ha_j5 (a0 a1 a2 b0 b1 b2 y0 y1 c0 c1 c2 d0 d1 d2 e0 e1 e2 p0 p1 p2 qa qb : Int) : Ev (fun k => laws_FnHandsAheadOfAll.j5 k (vAheadAt a0 a1 a2 b0 b1 b2 y0 y1).2.2 (vRelative a0 a1 a2 b0 b1 b2).2.2.2 a0 a1 a2 b0 b1 b2 y0 y1 c0 c1 c2 d0 d1 d2 e0 e1 e2 p0 p1 p2 qa qb (vAheadAt a0 a1 a2 b0 b1 b2 y0 y1).1 (vAheadAt a0 a1 a2 b0 b1 b2 y0 y1).2.1 (vRelative a0 a1 a2 b0 b1 b2).1 (vRelative a0 a1 a2 b0 b1 b2).2.1 (vRelative a0 a1 a2 b0 b1 b2).2.2.1) true := by
  refine Ev.step (f := fun k => laws_FnHandsAheadOfAll.j5 (k + 1) (vAheadAt a0 a1 a2 b0 b1 b2 y0 y1).2.2 (vRelative a0 a1 a2 b0 b1 b2).2.2.2 a0 a1 a2 b0 b1 b2 y0 y1 c0 c1 c2 d0 d1 d2 e0 e1 e2 p0 p1 p2 qa qb (vAheadAt a0 a1 a2 b0 b1 b2 y0 y1).1 (vAheadAt a0 a1 a2 b0 b1 b2 y0 y1).2.1 (vRelative a0 a1 a2 b0 b1 b2).1 (vRelative a0 a1 a2 b0 b1 b2).2.1 (vRelative a0 a1 a2 b0 b1 b2).2.2.1) (fun k => rfl) ?_
  simp only [laws_FnHandsAheadOfAll.j5]
  by_cases h : (vRelative a0 a1 a2 b0 b1 b2).2.2.2 = true
  · refine Ev.pos h ?_
    obtain ⟨hv1, hv2⟩ := rel_hand (m := y0) (n := y1) h
    refine Ev.bind (impl_HandAt_ev _ _ _ _ _) ?_
    rw [hv1]
    simp only [bne_self_eq_false, beq_self_eq_true, Bool.not_true, Bool.or_self, Bool.false_eq_true, if_false]
    by_cases h2 : (vAheadAt a0 a1 a2 b0 b1 b2 y0 y1).2.2 = true
    · exact Ev.pos h2 (Ev.pos hv2 (ha_j6 c0 c1 c2 d0 d1 d2 e0 e1 e2 p0 p1 p2 qa qb))
    · exact Ev.neg h2 (Ev.pos hv2 (ha_j6 c0 c1 c2 d0 d1 d2 e0 e1 e2 p0 p1 p2 qa qb))
  · exact Ev.neg h (ha_j6 c0 c1 c2 d0 d1 d2 e0 e1 e2 p0 p1 p2 qa qb)
theorem ha_l1 (x22 x26 : Bool) (a0 a1 a2 b0 b1 b2 y0 y1 c0 c1 c2 d0 d1 d2 e0 e1 e2 p0 p1 p2 qa qb g0 g1 r0 r1 r2 : Int) (l : List S23) (hl : l.length ≤ 100000) (next : Ev (fun k => laws_FnHandsAheadOfAll.j5 k x22 x26 a0 a1 a2 b0 b1 b2 y0 y1 c0 c1 c2 d0 d1 d2 e0 e1 e2 p0 p1 p2 qa qb g0 g1 r0 r1 r2) true) (hA : ∀ x ∈ l, vAheadAt a0 a1 a2 b0 b1 b2 x.f0 x.f1 = (1, 2, true) ∧ vAheadAt b0 b1 b2 a0 a1 a2 x.f0 x.f1 = (1, 2, true)) : ∀ (n i : Nat), l.length - i = n → Ev (fun k => laws_FnHandsAheadOfAll.l1 k x22 x26 l (l.length : Int) i a0 a1 a2 b0 b1 b2 y0 y1 c0 c1 c2 d0 d1 d2 e0 e1 e2 p0 p1 p2 qa qb g0 g1 r0 r1 r2) true := by
  intro n
  induction n with
  | zero =>
    intro i h0
    refine Ev.step (fun k => ?_) next
    simp only [laws_FnHandsAheadOfAll.l1]; rw [if_neg (by omega)]
  | succ n ih =>
    intro i h0
    obtain ⟨hm1, hm2⟩ := hA _ (rd_mem l i (by omega))
    refine Ev.step (f := fun k => (impl_AheadAt.f k a0 a1 a2 b0 b1 b2 ((rd_T23 l (i : Int)).f0) ((rd_T23 l (i : Int)).f1)).bind fun bv497 => ((impl_AheadAt.f k b0 b1 b2 a0 a1 a2 ((rd_T23 l (i : Int)).f0) ((rd_T23 l (i : Int)).f1)).bind fun bv501 => (if bv497.2.2 = true then (if (!(bv497.1 == 1) || (!(bv497.2.1 == 2))) = true then (some false) else (if bv501.2.2 = true then (if (!(bv501.1 == bv497.1) || (!(bv501.2.1 == bv497.2.1))) = true then (some false) else (laws_FnHandsAheadOfAll.l1 k x22 x26 l (l.length : Int) ((i + 1 : Nat) : Int) a0 a1 a2 b0 b1 b2 y0 y1 c0 c1 c2 d0 d1 d2 e0 e1 e2 p0 p1 p2 qa qb g0 g1 r0 r1 r2)) else (some false))) else (some false)))) (fun k => ?_) ?_
    · simp only [laws_FnHandsAheadOfAll.l1]
      rw [if_pos (by omega), if_pos (by omega), if_pos (by omega), wrap_id (x := (i : Int) + 1) (by omega) (by omega)]
      rfl
    · refine Ev.bind (impl_AheadAt_ev _ _ _ _ _ _ _ _) (Ev.bind (impl_AheadAt_ev _ _ _ _ _ _ _ _) ?_)
      rw [hm1, hm2]
      simp only [if_true, beq_self_eq_true, Bool.not_true, Bool.or_self, Bool.false_eq_true, if_false]
      exact ih (i + 1) (by omega)
theorem ha_j3 (x22 x26 : Bool) (a0 a1 a2 b0 b1 b2 y0 y1 c0 c1 c2 d0 d1 d2 e0 e1 e2 p0 p1 p2 qa qb g0 g1 r0 r1 r2 : Int) (next : Ev (fun k => laws_FnHandsAheadOfAll.j5 k x22 x26 a0 a1 a2 b0 b1 b2 y0 y1 c0 c1 c2 d0 d1 d2 e0 e1 e2 p0 p1 p2 qa qb g0 g1 r0 r1 r2) true) : Ev (fun k => laws_FnHandsAheadOfAll.j3 k x22 x26 (vAheadT a0 a1 a2 b0 b1 b2 1 2).1 (vAheadT a0 a1 a2 b0 b1 b2 1 2).2 a0 a1 a2 b0 b1 b2 y0 y1 c0 c1 c2 d0 d1 d2 e0 e1 e2 p0 p1 p2 qa qb g0 g1 r0 r1 r2) true := by
  refine Ev.step (f := fun k => laws_FnHandsAheadOfAll.j3 (k + 1) x22 x26 (vAheadT a0 a1 a2 b0 b1 b2 1 2).1 (vAheadT a0 a1 a2 b0 b1 b2 1 2).2 a0 a1 a2 b0 b1 b2 y0 y1 c0 c1 c2 d0 d1 d2 e0 e1 e2 p0 p1 p2 qa qb g0 g1 r0 r1 r2) (fun k => rfl) ?_
  simp only [laws_FnHandsAheadOfAll.j3]
  by_cases h : (vAheadT a0 a1 a2 b0 b1 b2 1 2).2 = true
  · refine Ev.pos h ?_
    obtain ⟨⟨hH, hH2⟩, hp, hn, hx⟩ := ahT_facts h
    have hlen := vAheadT_len a0 a1 a2 b0 b1 b2 1 2
    exact ha_l1 x22 x26 a0 a1 a2 b0 b1 b2 y0 y1 c0 c1 c2 d0 d1 d2 e0 e1 e2 p0 p1 p2 qa qb g0 g1 r0 r1 r2 _ (by omega) next (fun x m => ⟨ahead_back hH hH2 (hx x m).1 (by decide) (hx x m).2, ahead_half hH hH2 (hx x m).1 (hx x m).2⟩) _ 0 rfl
  · exact Ev.neg h next
theorem ha_l0 (x22 x26 x30 : Bool) (x29 : List S23) (a0 a1 a2 b0 b1 b2 y0 y1 c0 c1 c2 d0 d1 d2 e0 e1 e2 p0 p1 p2 qa qb g0 g1 r0 r1 r2 : Int) (l : List S23) (hl : l.length ≤ 100000) (next : Ev (fun k => laws_FnHandsAheadOfAll.j3 k x22 x26 x29 x30 a0 a1 a2 b0 b1 b2 y0 y1 c0 c1 c2 d0 d1 d2 e0 e1 e2 p0 p1 p2 qa qb g0 g1 r0 r1 r2) true) (hA : ∀ x ∈ l, vAheadAt a0 a1 a2 b0 b1 b2 x.f0 x.f1 = (y0, y1, true)) : ∀ (n i : Nat), l.length - i = n → Ev (fun k => laws_FnHandsAheadOfAll.l0 k x22 x26 x29 x30 l (l.length : Int) i a0 a1 a2 b0 b1 b2 y0 y1 c0 c1 c2 d0 d1 d2 e0 e1 e2 p0 p1 p2 qa qb g0 g1 r0 r1 r2) true := by
  intro n
  induction n with
  | zero =>
    intro i h0
    refine Ev.step (fun k => ?_) next
    simp only [laws_FnHandsAheadOfAll.l0]; rw [if_neg (by omega)]
  | succ n ih =>
    intro i h0
    have hm1 := hA _ (rd_mem l i (by omega))
    refine Ev.step (f := fun k => (impl_AheadAt.f k a0 a1 a2 b0 b1 b2 ((rd_T23 l (i : Int)).f0) ((rd_T23 l (i : Int)).f1)).bind fun bv => (if bv.2.2 = true then (if (!(bv.1 == y0) || (!(bv.2.1 == y1))) = true then (some false) else (laws_FnHandsAheadOfAll.l0 k x22 x26 x29 x30 l (l.length : Int) ((i + 1 : Nat) : Int) a0 a1 a2 b0 b1 b2 y0 y1 c0 c1 c2 d0 d1 d2 e0 e1 e2 p0 p1 p2 qa qb g0 g1 r0 r1 r2)) else (some false))) (fun k => ?_) ?_
    · simp only [laws_FnHandsAheadOfAll.l0]
      rw [if_pos (by omega), if_pos (by omega), if_pos (by omega), wrap_id (x := (i : Int) + 1) (by omega) (by omega)]
      rfl
    · refine Ev.bind (impl_AheadAt_ev _ _ _ _ _ _ _ _) ?_
      rw [hm1]
      simp only [if_true, beq_self_eq_true, Bool.not_true, Bool.or_self, Bool.false_eq_true, if_false]
      exact ih (i + 1) (by omega)
theorem ha_j0 (x22 x26 x30 : Bool) (x29 : List S23) (a0 a1 a2 b0 b1 b2 y0 y1 c0 c1 c2 d0 d1 d2 e0 e1 e2 p0 p1 p2 qa qb g0 g1 r0 r1 r2 : Int) (next : Ev (fun k => laws_FnHandsAheadOfAll.j3 k x22 x26 x29 x30 a0 a1 a2 b0 b1 b2 y0 y1 c0 c1 c2 d0 d1 d2 e0 e1 e2 p0 p1 p2 qa qb g0 g1 r0 r1 r2) true) : Ev (fun k => laws_FnHandsAheadOfAll.j0 k (vAheadTimes a0 a1 a2 b0 b1 b2 y0 y1).1 (vAheadTimes a0 a1 a2 b0 b1 b2 y0 y1).2 x22 x26 x29 x30 false a0 a1 a2 b0 b1 b2 y0 y1 c0 c1 c2 d0 d1 d2 e0 e1 e2 p0 p1 p2 qa qb g0 g1 r0 r1 r2) true := by
  refine Ev.step (f := fun k => laws_FnHandsAheadOfAll.j0 (k + 1) (vAheadTimes a0 a1 a2 b0 b1 b2 y0 y1).1 (vAheadTimes a0 a1 a2 b0 b1 b2 y0 y1).2 x22 x26 x29 x30 false a0 a1 a2 b0 b1 b2 y0 y1 c0 c1 c2 d0 d1 d2 e0 e1 e2 p0 p1 p2 qa qb g0 g1 r0 r1 r2) (fun k => rfl) ?_
  simp only [laws_FnHandsAheadOfAll.j0, Bool.false_eq_true, if_false]
  by_cases h : (vAheadTimes a0 a1 a2 b0 b1 b2 y0 y1).2 = true
  · refine Ev.pos h ?_
    have hy : isC y0 y1 = true := by
      unfold vAheadTimes at h
      split at h
      · assumption
      · cases h
    have hv : vAheadTimes a0 a1 a2 b0 b1 b2 y0 y1 = vAheadT a0 a1 a2 b0 b1 b2 y0 y1 := by unfold vAheadTimes; rw [if_pos hy]
    rw [hv] at h ⊢
    obtain ⟨⟨hH, hH2⟩, hp, hn, hx⟩ := ahT_facts h
    have hlen := vAheadT_len a0 a1 a2 b0 b1 b2 y0 y1
    have s1 := isH_speed hH
    have s2 := isH_speed hH2
    rw [wrap_id (x := a2 - b2) (by omega) (by omega)]
    simp only [laws_kAbs_eq (a2 - b2) (by omega) (by omega), Option.bind_some]
    refine Ev.pos hn ?_
    refine Ev.bind (laws_kRises_ev _ (by omega) hp (fun x m => (hx x m).1)) ?_
    refine Ev.step (f := fun k => laws_FnHandsAheadOfAll.j1 (k + 1) (vAheadT a0 a1 a2 b0 b1 b2 y0 y1).1 x22 x26 x29 x30 (!true) a0 a1 a2 b0 b1 b2 y0 y1 c0 c1 c2 d0 d1 d2 e0 e1 e2 p0 p1 p2 qa qb g0 g1 r0 r1 r2) (fun k => rfl) ?_
    simp only [laws_FnHandsAheadOfAll.j1, Bool.not_true, Bool.false_eq_true, if_false]
    exact ha_l0 x22 x26 x30 x29 a0 a1 a2 b0 b1 b2 y0 y1 c0 c1 c2 d0 d1 d2 e0 e1 e2 p0 p1 p2 qa qb g0 g1 r0 r1 r2 _ (by omega) next (fun x m => ahead_back hH hH2 (hx x m).1 (isC_iff.1 hy).1 (hx x m).2) _ 0 rfl
  · exact Ev.neg h next
theorem FnHandsAheadOfAll : laws_FnHandsAheadOfAll.Pure := by
  intro a0 a1 a2 b0 b1 b2 y0 y1 c0 c1 c2 d0 d1 d2 e0 e1 e2 p0 p1 p2 qa qb _ _ _ _ _ _ _ _ _ _ _ _ _ _ _ _ _ _ _ _ _ _
  apply Ev.rounds (g := fun k => laws_FnHandsAheadOfAll.f k a0 a1 a2 b0 b1 b2 y0 y1 c0 c1 c2 d0 d1 d2 e0 e1 e2 p0 p1 p2 qa qb)
  unfold laws_FnHandsAheadOfAll.f
  refine Ev.bind (impl_AheadTimes_ev a0 a1 a2 b0 b1 b2 y0 y1) (Ev.bind (spec_AheadTimes_ev a0 a1 a2 b0 b1 b2 y0 y1) (Ev.bind (impl_AheadAt_ev a0 a1 a2 b0 b1 b2 y0 y1) (Ev.bind (spec_AheadAt_ev a0 a1 a2 b0 b1 b2 y0 y1) (Ev.bind (impl_RelativeHand_ev a0 a1 a2 b0 b1 b2) (Ev.bind (spec_RelativeHand_ev a0 a1 a2 b0 b1 b2) (Ev.bind (impl_OppositeTimes_ev a0 a1 a2 b0 b1 b2) (Ev.bind (spec_OppositeTimes_ev a0 a1 a2 b0 b1 b2) ?_)))))))
  simp only [bne_self_eq_false, beq_self_eq_true, Bool.not_true, Bool.or_self, Bool.false_eq_true, if_false]
  have n1 := vAheadTimes_len a0 a1 a2 b0 b1 b2 y0 y1
  have nz2 := vAheadT_len a0 a1 a2 b0 b1 b2 1 2
  refine Ev.bind (laws_kTurns_self _ (by omega)) ?_
  simp only [if_true]
  refine Ev.bind (laws_kTurns_self _ (by omega)) ?_
  exact ha_j0 _ _ _ _ a0 a1 a2 b0 b1 b2 y0 y1 c0 c1 c2 d0 d1 d2 e0 e1 e2 p0 p1 p2 qa qb _ _ _ _ _ (ha_j3 _ _ a0 a1 a2 b0 b1 b2 y0 y1 c0 c1 c2 d0 d1 d2 e0 e1 e2 p0 p1 p2 qa qb _ _ _ _ _ (ha_j5 a0 a1 a2 b0 b1 b2 y0 y1 c0 c1 c2 d0 d1 d2 e0 e1 e2 p0 p1 p2 qa qb))

end Go.Proofs.Ytcoembcafgelkaa.Pure
