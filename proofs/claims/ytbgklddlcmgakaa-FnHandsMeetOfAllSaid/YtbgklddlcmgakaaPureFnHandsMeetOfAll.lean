/- FnHandsMeetOfAll of the program answers as the reference does, whatever is given: the pure part of the proof. No condition. -/
import Derived.Test.YtbgklddlcmgakaaPFnHandsMeetOfAllx0
import Derived.Test.YtbgklddlcmgakaaPFnHandsMeetOfAllx1
import Derived.Test.YtbgklddlcmgakaaPFnHandsMeetOfAllx2
import Derived.Test.YtbgklddlcmgakaaPFnHandsMeetOfAllx3
import Derived.Test.YtbgklddlcmgakaaPFnHandsMeetOfAllx4
import Derived.Test.YtbgklddlcmgakaaPFnHandsMeetOfAllx5
import Derived.Test.YtbgklddlcmgakaaPFnHandsMeetOfAllx6
import Derived.Test.YtbgklddlcmgakaaPFnHandsMeetOfAllx7
import Derived.Test.YtbgklddlcmgakaaPFnHandsMeetOfAllx8
import Derived.Test.YtbgklddlcmgakaaPFnHandsMeetOfAllx9
import Derived.Test.YtbgklddlcmgakaaPFnHandsMeetOfAllx10
import Derived.Test.YtbgklddlcmgakaaPFnHandsMeetOfAllx11
import Derived.Test.YtbgklddlcmgakaaPFnHandsMeetOfAllx12c
import Derived.Test.YtbgklddlcmgakaaPFnHandsMeetOfAllx12
import Derived.Test.YtbgklddlcmgakaaMath
set_option linter.unusedVariables false
set_option linter.unusedSimpArgs false
namespace Go.Proofs.Ytbgklddlcmgakaa.Pure
open Go.RowKit Go.Proofs.Ytbgklddlcmgakaa.PFnHandsMeetOfAll Go.Proofs.YtbgklddlcmgakaaW.PrintWords Go.Proofs.YtbgklddlcmgakaaW.PrintLast Go.Proofs.YtbgklddlcmgakaaW.PrintMore Go.Proofs.Ytbgklddlcmgakaa.Math

/-! impl_within -/
theorem impl_within_eq (a b c : Int) : impl_within.f a b c = some (decide (b ≤ a ∧ a ≤ c)) := by
  unfold impl_within.f
  by_cases h : a ≥ b
  · rw [if_pos h]; simp [show b ≤ a from h]
  · rw [if_neg h]; simp [show ¬ b ≤ a from h]

/-! impl_gcd -/
theorem impl_gcd_l0 : ∀ (n : Nat) (a b : Int), 0 ≤ a → a ≤ 9223372036854775807 → 0 ≤ b → b ≤ 9223372036854775807 → b < n → Ev (fun k => impl_gcd.l0 k a b) (Int.gcd a b : Int) := by
  intro n
  induction n with
  | zero => intro a b _ _ h1 _ h2; omega
  | succ n ih =>
    intro a b ha ha' hb hb' hn
    by_cases h : b = 0
    · subst h
      refine Ev.step (f := fun _ => some a) (fun k => ?_) ?_
      · simp only [impl_gcd.l0]
        rw [wrap_id (by omega) (by omega)]
        unfold mx; simp; omega
      · rw [gcd_zero ha]; exact Ev.now a
    · have h1 := tmod_range ha (show 0 < b by omega)
      refine Ev.step (f := fun k => impl_gcd.l0 k b (Int.tmod a b)) (fun k => ?_) ?_
      · simp only [impl_gcd.l0]
        rw [if_neg h]
      · rw [← gcd_step ha (show 0 < b by omega)]
        exact ih b _ (by omega) (by omega) (by omega) (by omega) (by omega)
theorem impl_gcd_ev (a b : Int) (ha : 0 ≤ a) (ha' : a ≤ 9223372036854775807) (hb : 0 ≤ b) (hb' : b ≤ 9223372036854775807) : Ev (fun k => impl_gcd.f k a b) (Int.gcd a b : Int) := by
  unfold impl_gcd.f
  exact impl_gcd_l0 (b.toNat + 1) a b ha ha' hb hb' (by omega)

/-! impl_IsTurn -/
theorem impl_IsTurn_ev (n d : Int) : Ev (fun k => impl_IsTurn.f k n d) (isT n d) := by
  unfold impl_IsTurn.f
  simp only [impl_within_eq, Option.bind_some]
  by_cases h : 1 ≤ d ∧ d ≤ 1000000
  · refine Ev.pos (by simpa using h) ?_
    rw [wrap_id (by omega) (by omega)]
    by_cases h2 : 0 ≤ n ∧ n ≤ d - 1
    · refine Ev.pos (by simpa using h2) ?_
      refine Ev.bind (impl_gcd_ev n d (by omega) (by omega) (by omega) (by omega)) ?_
      refine Ev.val (Ev.now _) ?_
      unfold isT
      rw [Bool.eq_iff_iff]; simp; omega
    · refine Ev.neg (by simpa using h2) ?_
      refine Ev.val (Ev.now _) ?_
      unfold isT
      rw [Bool.eq_iff_iff]; simp; omega
  · refine Ev.neg (by simpa using h) ?_
    refine Ev.val (Ev.now _) ?_
    unfold isT
    rw [Bool.eq_iff_iff]; simp; omega

/-! impl_isCoarse -/
theorem impl_isCoarse_ev (n d : Int) : Ev (fun k => impl_isCoarse.f k n d) (isC n d) := by
  unfold impl_isCoarse.f isC
  refine Ev.bind (impl_IsTurn_ev n d) ?_
  cases isT n d
  · exact Ev.val (Ev.now _) (by simp)
  · exact Ev.val (Ev.now _) (by simp)

/-! impl_IsHand -/
theorem impl_IsHand_ev (n d s : Int) : Ev (fun k => impl_IsHand.f k n d s) (isH n d s) := by
  unfold impl_IsHand.f isH
  refine Ev.bind (impl_isCoarse_ev n d) ?_
  simp only [impl_within_eq, Option.bind_some]
  cases isC n d
  · exact Ev.val (Ev.now _) (by simp)
  · exact Ev.val (Ev.now _) (by simp)

/-! impl_areHands_1 -/
theorem impl_areHands_1_ev (n d s : Int) : Ev (fun k => impl_areHands_1.f k n d s) (!isH n d s) := by
  unfold impl_areHands_1.f
  exact Ev.bind (impl_IsHand_ev n d s) (Ev.now _)

/-! impl_areHands -/
theorem impl_areHands_g : ∀ l : List S25, Ev (fun k => impl_areHands.g k l) (l.all fun x => isH x.f0.f0 x.f0.f1 x.f1)
  | [] => Ev.now _
  | x :: xs => by
    have e : (fun k => impl_areHands.g k (x :: xs)) = fun k => (impl_areHands_1.f k x.f0.f0 x.f0.f1 x.f1).bind fun b => if b = true then some false else impl_areHands.g k xs := by funext k; rfl
    rw [e]
    refine Ev.bind (impl_areHands_1_ev _ _ _) ?_
    rw [List.all_cons]
    cases isH x.f0.f0 x.f0.f1 x.f1
    · exact Ev.pos rfl (Ev.now _)
    · exact Ev.neg (by decide) (impl_areHands_g xs)
theorem impl_areHands_ev (l : List S25) (hl : l.length < 4611686018427387904) : Ev (fun k => impl_areHands.f k l) (l.all fun x => isH x.f0.f0 x.f0.f1 x.f1) := by
  unfold impl_areHands.f
  exact Ev.pos hl (impl_areHands_g l)
theorem impl_areHands_two (a b s c d t : Int) : Ev (fun k => impl_areHands.f k [(⟨(⟨a, b⟩ : S23), s⟩ : S25), (⟨(⟨c, d⟩ : S23), t⟩ : S25)]) (isH a b s && isH c d t) :=
  Ev.val (impl_areHands_ev _ (by simp)) (by simp)

/-! impl_floorDiv -/
theorem impl_floorDiv_eq (a b : Int) (hb : 0 < b) (hb' : b ≤ 4000000000000000000) (ha : -4000000000000000000 ≤ a) (ha' : a ≤ 4000000000000000000) : impl_floorDiv.f a b = some (a / b, a % b) := by
  obtain ⟨h1, h2, h3⟩ := floor_of_trunc a b hb
  obtain ⟨h4, h5⟩ := tdiv_bound a b hb
  have h8 := tmod_bound a b hb
  obtain ⟨h6, h7⟩ := ediv_bound a b hb
  unfold impl_floorDiv.f
  rw [if_neg (by omega)]
  by_cases h : Int.tmod a b < 0
  · rw [if_pos h]
    obtain ⟨e1, e2⟩ := h2 h
    rw [wrap_id (x := Int.tdiv a b) (by omega) (by omega), wrap_id (by omega) (by omega), wrap_id (by omega) (by omega), e1, e2]
  · rw [if_neg h]
    obtain ⟨e1, e2⟩ := h3 (by omega)
    rw [wrap_id (by omega) (by omega), e1, e2]

/-! impl_part -/
theorem impl_part_ev (n d : Int) (hd : 0 < d) (hd' : d ≤ 4000000000000000000) (hn : -4000000000000000000 ≤ n) (hn' : n ≤ 4000000000000000000) : Ev (fun k => impl_part.f k n d) (tn ((n : Rat) / d), td ((n : Rat) / d)) := by
  unfold impl_part.f
  rw [impl_floorDiv_eq n d hd hd' hn hn']
  simp only [Option.bind_some]
  have h0 := Int.emod_nonneg n (show d ≠ 0 by omega)
  have h1 := Int.emod_lt_of_pos n hd
  refine Ev.bind (impl_gcd_ev (n % d) d h0 (by omega) (by omega) (by omega)) ?_
  have hg := gcd_pos' (n % d) hd
  refine Ev.neg (by omega) ?_
  have e1 := Int.tdiv_eq_ediv_of_nonneg (b := (Int.gcd (n % d) d : Int)) h0
  have e2 := Int.tdiv_eq_ediv_of_nonneg (b := (Int.gcd (n % d) d : Int)) (show 0 ≤ d by omega)
  have b1 := ediv_le' h0 hg
  have b2 := ediv_le' (show 0 ≤ d by omega) hg
  rw [e1, e2, wrap_id (by omega) (by omega), wrap_id (by omega) (by omega), tn_div n d hd, td_div n d hd]
  exact Ev.now _

/-! impl_Turn_minus -/
theorem impl_Turn_minus_ev (a b c d : Int) (hb : 0 < b) (hd : 0 < d) (hm : b * d ≤ 1000000000000000000) (ha : -b ≤ a) (ha' : a ≤ b) (hc : -d ≤ c) (hc' : c ≤ d) : Ev (fun k => impl_Turn_minus.f k a b c d) (tn ((a : Rat) / b - (c : Rat) / d), td ((a : Rat) / b - (c : Rat) / d)) := by
  have m1 := mul_bound (a := a) (b := d) (A := b) (B := d) (by omega) (by omega) (by omega) (by omega)
  have m2 := mul_bound (a := c) (b := b) (A := d) (B := b) (by omega) (by omega) (by omega) (by omega)
  have m3 := Int.mul_pos hb hd
  rw [Int.mul_comm d b] at m2
  unfold impl_Turn_minus.f
  rw [wrap_id (x := a * d) (by omega) (by omega), wrap_id (x := c * b) (by omega) (by omega), wrap_id (x := b * d) (by omega) (by omega), wrap_id (by omega) (by omega)]
  rw [← q_sub hb hd]
  exact Ev.bind (impl_part_ev _ _ (by omega) (by omega) (by omega) (by omega)) (Ev.now _)
theorem impl_Turn_minus_fr (p q : Rat) (hm : td p * td q ≤ 1000000000000000000) : Ev (fun k => impl_Turn_minus.f k (tn p) (td p) (tn q) (td q)) (tn (p - q), td (p - q)) := by
  have h1 := tn_nonneg p
  have h2 := tn_lt p
  have h3 := tn_nonneg q
  have h4 := tn_lt q
  refine Ev.val (impl_Turn_minus_ev _ _ _ _ (td_pos p) (td_pos q) hm (by omega) (by omega) (by omega) (by omega)) ?_
  rw [tn_td, tn_td]
  exact tt_of_fr (fr_minus p q)

/-! impl_relative -/
theorem impl_relative_ev (a b s c d t : Int) (h1 : isH a b s = true) (h2 : isH c d t = true) : Ev (fun k => impl_relative.f k a b s c d t) (tn ((a : Rat) / b - (c : Rat) / d), td ((a : Rat) / b - (c : Rat) / d), s - t) := by
  obtain ⟨u1, u2⟩ := isH_speed h1
  obtain ⟨u3, u4⟩ := isH_speed h2
  obtain ⟨p0, p5⟩ := isC_iff.1 (isH_iff.1 h1).1
  obtain ⟨r0, r5⟩ := isC_iff.1 (isH_iff.1 h2).1
  obtain ⟨p1, p2, p3, p4, _⟩ := isT_iff.1 p0
  obtain ⟨r1, r2, r3, r4, _⟩ := isT_iff.1 r0
  have m3 := mul_bound (a := b) (b := d) (A := 1000) (B := 1000) (by omega) (by omega) (by omega) (by omega)
  unfold impl_relative.f
  rw [wrap_id (x := s - t) (by omega) (by omega)]
  exact Ev.bind (impl_Turn_minus_ev a b c d (by omega) (by omega) (by omega) (by omega) (by omega) (by omega) (by omega)) (Ev.now _)

/-! impl_Turn_times -/
theorem impl_Turn_times_ev (a b k : Int) (hb : 0 < b) (hb' : b ≤ 4000000000000000000) (h0 : -4000000000000000000 ≤ a * k) (h1 : a * k ≤ 4000000000000000000) : Ev (fun n => impl_Turn_times.f n a b k) (tn (k * ((a : Rat) / b)), td (k * ((a : Rat) / b))) := by
  unfold impl_Turn_times.f
  rw [wrap_id (by omega) (by omega), ← q_mul hb]
  exact Ev.bind (impl_part_ev _ _ hb hb' h0 h1) (Ev.now _)
theorem impl_Turn_times_fr (p : Rat) (k : Int) (hp : td p ≤ 10000000000) (h0 : -100000 ≤ k) (h1 : k ≤ 100000) : Ev (fun n => impl_Turn_times.f n (tn p) (td p) k) (tn (k * p), td (k * p)) := by
  have h2 := tn_nonneg p
  have h3 := tn_lt p
  have m1 := mul_bound (a := tn p) (b := k) (A := 10000000000) (B := 100000) (by omega) (by omega) h0 h1
  refine Ev.val (impl_Turn_times_ev _ _ k (td_pos p) (by omega) (by omega) (by omega)) ?_
  rw [tn_td]
  exact tt_of_fr (fr_mul_fr k p)
theorem impl_Turn_times_T (a b k : Int) (h : isT a b = true) (h0 : -100000 ≤ k) (h1 : k ≤ 100000) : Ev (fun n => impl_Turn_times.f n a b k) (tn (k * ((a : Rat) / b)), td (k * ((a : Rat) / b))) := by
  obtain ⟨p1, p2, p3, p4, _⟩ := isT_iff.1 h
  have m1 := mul_bound (a := a) (b := k) (A := 1000000) (B := 100000) (by omega) (by omega) h0 h1
  exact impl_Turn_times_ev a b k (by omega) (by omega) (by omega) (by omega)

/-! impl_Turn_mirror -/
theorem impl_Turn_mirror_fr (p : Rat) (hp : td p ≤ 10000000000) : Ev (fun n => impl_Turn_mirror.f n (tn p) (td p)) (tn (-p), td (-p)) := by
  unfold impl_Turn_mirror.f
  refine Ev.bind (impl_Turn_times_fr p (-1) hp (by omega) (by omega)) ?_
  rw [neg_one_mul']
  exact Ev.now _
theorem impl_Turn_mirror_T (a b : Int) (h : isT a b = true) : Ev (fun n => impl_Turn_mirror.f n a b) (tn (-((a : Rat) / b)), td (-((a : Rat) / b))) := by
  unfold impl_Turn_mirror.f
  refine Ev.bind (impl_Turn_times_T a b (-1) h (by omega) (by omega)) ?_
  rw [neg_one_mul']
  exact Ev.now _

/-! impl_areTurns_1 -/
theorem impl_areTurns_1_ev (n d : Int) : Ev (fun k => impl_areTurns_1.f k n d) (!isT n d) := by
  unfold impl_areTurns_1.f
  exact Ev.bind (impl_IsTurn_ev n d) (Ev.now _)

/-! impl_areTurns -/
theorem impl_areTurns_g : ∀ l : List S23, Ev (fun k => impl_areTurns.g k l) (l.all fun x => isT x.f0 x.f1)
  | [] => Ev.now _
  | x :: xs => by
    have e : (fun k => impl_areTurns.g k (x :: xs)) = fun k => (impl_areTurns_1.f k x.f0 x.f1).bind fun b => if b = true then some false else impl_areTurns.g k xs := by funext k; rfl
    rw [e]
    refine Ev.bind (impl_areTurns_1_ev _ _) ?_
    rw [List.all_cons]
    cases isT x.f0 x.f1
    · exact Ev.pos rfl (Ev.now _)
    · exact Ev.neg (by decide) (impl_areTurns_g xs)
theorem impl_areTurns_ev (l : List S23) (hl : l.length < 4611686018427387904) : Ev (fun k => impl_areTurns.f k l) (l.all fun x => isT x.f0 x.f1) := by
  unfold impl_areTurns.f
  exact Ev.pos hl (impl_areTurns_g l)
theorem impl_areTurns_two (a b c d : Int) : Ev (fun k => impl_areTurns.f k [(⟨a, b⟩ : S23), (⟨c, d⟩ : S23)]) (isT a b && isT c d) :=
  Ev.val (impl_areTurns_ev _ (by simp)) (by simp)

/-! h_lists -/
def pk (q : Rat) : S23 := ⟨tn q, td q⟩
/-- The first n of the parts whose s-fold is w, but for whole turns. -/
def rl (w : Rat) (s : Int) (n : Nat) : List S23 := (List.range n).map fun i => pk ((w + (((i : Nat) : Int) : Rat)) / (s : Rat))
theorem rl_succ (w : Rat) (s : Int) (n : Nat) : rl w s (n + 1) = rl w s n ++ [pk ((w + (((n : Nat) : Int) : Rat)) / (s : Rat))] := by
  unfold rl; rw [List.range_succ, List.map_append]; rfl
theorem rl_length (w : Rat) (s : Int) (n : Nat) : (rl w s n).length = n := by unfold rl; simp
def okR (w : Rat) (s : Int) (n : Nat) : Bool := (rl w s n).all fun x => isT x.f0 x.f1
theorem okR_iff {w : Rat} {s : Int} {n : Nat} : okR w s n = true ↔ ∀ i, i < n → td ((w + ((i : Int) : Rat)) / (s : Rat)) ≤ 1000000 := by
  unfold okR rl
  simp only [List.all_map, List.all_eq_true, List.mem_range, Function.comp, pk, isT_tn, decide_eq_true_eq]
theorem rl_get (w : Rat) (s : Int) (n : Nat) (i : Int) (h0 : 0 ≤ i) (h1 : i < n) : rd_T23 (rl w s n) i = pk ((w + (i : Rat)) / (s : Rat)) := by
  unfold rd_T23 rl
  rw [List.getD_eq_getElem?_getD, List.getElem?_map, List.getElem?_range (by omega)]
  simp only [Option.map_some, Option.getD_some]
  rw [show ((i.toNat : Nat) : Int) = i by omega]
def vRoots (w : Rat) (s : Int) : List S23 × Bool := if okR w s s.toNat = true then (rl w s s.toNat, true) else ([], false)
/-- The times at which a hand with the speed s has gone on by q. -/
def vTimesAt (q : Rat) (s : Int) : List S23 × Bool := if s < 0 then vRoots (fr (-q)) (-s) else vRoots (fr q) s
theorem vTimesAt_no {q : Rat} {s : Int} (hs : s ≠ 0) (hq : 1000000 < td q) : vTimesAt q s = ([], false) := by
  unfold vTimesAt vRoots
  by_cases h : s < 0
  · rw [if_pos h, if_neg]
    intro ho
    have h1 := okR_iff.1 ho 0 (by omega)
    have h2 := td_root (-q) (-s) 0 (by omega)
    rw [td_neg] at h2
    simp only [Int.cast_ofNat_Int] at h1 h2
    omega
  · rw [if_neg h, if_neg]
    intro ho
    have h1 := okR_iff.1 ho 0 (by omega)
    have h2 := td_root q s 0 (by omega)
    simp only [Int.cast_ofNat_Int] at h1 h2
    omega
theorem vRoots_len {w : Rat} {s : Int} (hs : 0 ≤ s) : (vRoots w s).1.length ≤ s := by
  unfold vRoots
  split
  · rw [rl_length]; omega
  · exact hs
theorem vTimesAt_len {q : Rat} {s : Int} (h0 : -1000 ≤ s) (h1 : s ≤ 1000) : (vTimesAt q s).1.length ≤ 1000 := by
  unfold vTimesAt
  split
  · have := vRoots_len (w := fr (-q)) (show 0 ≤ -s by omega); omega
  · have := vRoots_len (w := fr q) (show 0 ≤ s by omega); omega

/-! impl_ifTurns -/
theorem impl_ifTurns_ev (l : List S23) (b : Bool) (hl : l.length < 4611686018427387904) : Ev (fun k => impl_ifTurns.f k l b) (if (b && l.all fun x => isT x.f0 x.f1) = true then (l, true) else ([], false)) := by
  unfold impl_ifTurns.f
  cases b
  · exact Ev.neg (by decide) (Ev.now _)
  refine Ev.pos rfl ?_
  refine Ev.bind (impl_areTurns_ev l hl) ?_
  rw [Bool.true_and]
  split <;> exact Ev.now _
theorem impl_ifTurns_roots (w : Rat) (s : Int) (hs : s ≤ 100000) : Ev (fun k => impl_ifTurns.f k (rl w s s.toNat) (okR w s s.toNat)) (vRoots w s) := by
  refine Ev.val (impl_ifTurns_ev _ _ (by rw [rl_length]; omega)) ?_
  show (if (okR w s s.toNat && okR w s s.toNat) = true then _ else _) = _
  rw [Bool.and_self]; rfl

/-! impl_roots -/
theorem impl_roots_l0 (w : Rat) (s : Int) (hs : 0 < s) (hs' : s ≤ 100000) (hw : td w ≤ 10000000000) : ∀ (n i : Nat), s.toNat - i = n → i ≤ s.toNat →
    Ev (fun k => impl_roots.l0 k s (rl (fr w) s i) s i (tn w) (td w)) (rl (fr w) s s.toNat, okR (fr w) s s.toNat) := by
  intro n
  induction n with
  | zero =>
    intro i h0 h1
    have hi : i = s.toNat := by omega
    refine Ev.step (f := fun k => ((impl_areTurns.f k (rl (fr w) s i)).bind fun t => (some (rl (fr w) s i, t)))) (fun k => ?_) ?_
    · simp only [impl_roots.l0]; rw [if_neg (by omega)]
    · refine Ev.bind (impl_areTurns_ev _ (by rw [rl_length]; omega)) ?_
      rw [hi]; exact Ev.now _
  | succ n ih =>
    intro i h0 h1
    have hb := td_pos w
    have h2 := tn_nonneg w
    have h3 := tn_lt w
    have m1 := mul_bound (a := (i : Int)) (b := td w) (A := 100000) (B := 10000000000) (by omega) (by omega) (by omega) (by omega)
    have m2 := mul_bound (a := td w) (b := s) (A := 10000000000) (B := 100000) (by omega) (by omega) (by omega) (by omega)
    have m3 := Int.mul_pos hb hs
    have e1 : ((tn w + (i : Int) * td w : Int) : Rat) / ((td w * s : Int) : Rat) = (fr w + (((i : Nat) : Int) : Rat)) / (s : Rat) := q_root hb hs i
    refine Ev.step (f := fun k => ((impl_part.f k (tn w + (i : Int) * td w) (td w * s)).bind fun bt => (if (rl (fr w) s i).length < 8796093022208 then (impl_roots.l0 k s (rl (fr w) s i ++ [⟨bt.1, bt.2⟩]) s ((i + 1 : Nat) : Int) (tn w) (td w)) else none))) (fun k => ?_) ?_
    · simp only [impl_roots.l0]
      rw [if_pos (by omega), wrap_id (x := (i : Int) * td w) (by omega) (by omega), wrap_id (x := td w * s) (by omega) (by omega), wrap_id (x := tn w + (i : Int) * td w) (by omega) (by omega), wrap_id (x := (i : Int) + 1) (by omega) (by omega)]
      rfl
    · refine Ev.bind (impl_part_ev _ _ m3 (by omega) (by omega) (by omega)) ?_
      refine Ev.pos (by rw [rl_length]; omega) ?_
      rw [e1]
      have := ih (i + 1) (by omega) (by omega)
      rw [rl_succ] at this
      exact this
theorem impl_roots_ev (w : Rat) (s : Int) (hs : 0 < s) (hs' : s ≤ 100000) (hw : td w ≤ 10000000000) : Ev (fun k => impl_roots.f k (tn w) (td w) s) (rl (fr w) s s.toNat, okR (fr w) s s.toNat) := by
  unfold impl_roots.f
  exact impl_roots_l0 w s hs hs' hw s.toNat 0 (by omega) (by omega)

/-! impl_Hand_timesAt -/
theorem impl_Hand_timesAt_ev (a b s c d : Int) (hs : s ≠ 0) (h0 : -1000 ≤ s) (h1 : s ≤ 1000) (hb : 0 < b) (hd : 0 < d) (hm : b * d ≤ 10000000000) (ha : -b ≤ a) (ha' : a ≤ b) (hc : -d ≤ c) (hc' : c ≤ d) : Ev (fun k => impl_Hand_timesAt.f k a b s c d) (vTimesAt ((c : Rat) / d - (a : Rat) / b) s) := by
  have hq : td ((c : Rat) / d - (a : Rat) / b) ≤ 10000000000 := by
    rw [← q_sub hd hb]
    have m3 := Int.mul_pos hd hb
    have := td_div_le (c * b - a * d) (d * b) m3
    rw [Int.mul_comm d b] at this
    rw [Int.mul_comm d b]
    omega
  unfold impl_Hand_timesAt.f
  refine Ev.bind (impl_Turn_minus_ev c d a b hd hb (by rw [Int.mul_comm]; omega) hc hc' ha ha') ?_
  generalize (c : Rat) / d - (a : Rat) / b = q at hq ⊢
  unfold vTimesAt
  by_cases hn : s < 0
  · refine Ev.pos hn ?_
    rw [if_pos hn, wrap_id (by omega) (by omega)]
    refine Ev.bind (impl_Turn_mirror_fr q hq) ?_
    refine Ev.bind (impl_roots_ev (-q) (-s) (by omega) (by omega) (by have := td_neg q; omega)) ?_
    exact Ev.bind (impl_ifTurns_roots _ (-s) (by omega)) (Ev.now _)
  · refine Ev.neg hn ?_
    rw [if_neg hn]
    refine Ev.bind (impl_roots_ev q s (by omega) (by omega) hq) ?_
    exact Ev.bind (impl_ifTurns_roots _ s (by omega)) (Ev.now _)

/-! h_ahead -/
/-- The times at which one hand is ahead of another by m / n. -/
def vAheadT (a b s c d t m n : Int) : List S23 × Bool := if vAsked a b s c d t = true then vTimesAt ((m : Rat) / n - fr ((a : Rat) / b - (c : Rat) / d)) (s - t) else ([], false)
theorem vAheadT_len (a b s c d t m n : Int) : (vAheadT a b s c d t m n).1.length ≤ 1000 := by
  unfold vAheadT
  split
  · rename_i h
    unfold vAsked at h
    simp only [Bool.and_eq_true] at h
    obtain ⟨u1, u2⟩ := isH_speed h.1.1
    obtain ⟨u3, u4⟩ := isH_speed h.1.2
    exact vTimesAt_len (by omega) (by omega)
  · simp

/-! impl_aheadTimes -/
theorem impl_aheadTimes_ev (a b s c d t m n : Int) (hn : 0 < n) (hn' : n ≤ 1000) (hm : 0 ≤ m) (hm' : m ≤ n) : Ev (fun k => impl_aheadTimes.f k a b s c d t m n) (vAheadT a b s c d t m n) := by
  unfold impl_aheadTimes.f vAheadT vAsked
  have no : Ev (fun k => impl_aheadTimes.j0 k true a b s c d t m n) ([], false) := by
    refine Ev.step (f := fun _ => some ([], false)) (fun k => ?_) (Ev.now _)
    simp only [impl_aheadTimes.j0]; rfl
  refine Ev.bind (impl_areHands_two a b s c d t) ?_
  cases h : isH a b s && isH c d t
  · exact Ev.neg (by decide) no
  refine Ev.pos rfl ?_
  rw [Bool.and_eq_true] at h
  obtain ⟨h1, h2⟩ := h
  by_cases hs : s = t
  · rw [show (s == t) = true by simpa using hs, show (true && (s != t)) = false by simp [hs]]
    exact no
  rw [show (s == t) = false by simpa using hs, show (true && (s != t)) = true by simpa using hs, if_pos rfl]
  obtain ⟨u1, u2⟩ := isH_speed h1
  obtain ⟨u3, u4⟩ := isH_speed h2
  have hst := td_start h1 h2
  have g0 := td_pos ((a : Rat) / b - (c : Rat) / d)
  have g1 := tn_nonneg ((a : Rat) / b - (c : Rat) / d)
  have g2 := tn_lt ((a : Rat) / b - (c : Rat) / d)
  have m3 := mul_bound (a := td ((a : Rat) / b - (c : Rat) / d)) (b := n) (A := 1000000) (B := 1000) (by omega) (by omega) (by omega) (by omega)
  refine Ev.step (f := fun k => (impl_relative.f k a b s c d t).bind fun bt => ((impl_Hand_timesAt.f k bt.1 bt.2.1 bt.2.2 m n).bind fun bt => (some (bt.1, bt.2)))) (fun k => ?_) ?_
  · simp only [impl_aheadTimes.j0]; simp
  refine Ev.bind (impl_relative_ev a b s c d t h1 h2) ?_
  have := impl_Hand_timesAt_ev (tn ((a : Rat) / b - (c : Rat) / d)) (td ((a : Rat) / b - (c : Rat) / d)) (s - t) m n (by omega) (by omega) (by omega) g0 hn (by omega) (by omega) (by omega) (by omega) (by omega)
  rw [tn_td] at this
  exact Ev.bind this (Ev.now _)

/-! impl_MeetTimes -/
theorem impl_MeetTimes_ev (a b s c d t : Int) : Ev (fun k => impl_MeetTimes.f k a b s c d t) (vAheadT a b s c d t 0 1) := by
  unfold impl_MeetTimes.f
  exact Ev.bind (impl_aheadTimes_ev a b s c d t 0 1 (by omega) (by omega) (by omega) (by omega)) (Ev.now _)

/-! spec_l1In -/
theorem spec_l1In_eq (a b c : Int) : spec_l1In.f a b c = some (decide (b ≤ a ∧ a ≤ c)) := by
  unfold spec_l1In.f
  by_cases h : a ≥ b
  · rw [if_pos h]; simp [show b ≤ a from h]
  · rw [if_neg h]; simp [show ¬ b ≤ a from h]

/-! spec_diCommon -/
theorem spec_diCommon_l0 : ∀ (n : Nat) (a b : Int), 0 ≤ a → 0 ≤ b → b < n → Ev (fun k => spec_diCommon.l0 k a b) (Int.gcd a b : Int) := by
  intro n
  induction n with
  | zero => intro a b _ h1 h2; omega
  | succ n ih =>
    intro a b ha hb hn
    by_cases h : b = 0
    · subst h
      refine Ev.step (f := fun _ => some a) (fun k => ?_) ?_
      · simp only [spec_diCommon.l0]
        rw [if_neg (by omega)]
      · rw [gcd_zero ha]; exact Ev.now a
    · have h1 := tmod_range ha (show 0 < b by omega)
      refine Ev.step (f := fun k => spec_diCommon.l0 k b (Int.tmod a b)) (fun k => ?_) ?_
      · simp only [spec_diCommon.l0]
        rw [if_pos (by omega), if_neg h]
      · rw [← gcd_step ha (show 0 < b by omega)]
        exact ih b _ (by omega) (by omega) (by omega)
theorem spec_diCommon_ev (a b : Int) (ha : 0 ≤ a) (hb : 0 ≤ b) : Ev (fun k => spec_diCommon.f k a b) (Int.gcd a b : Int) := by
  unfold spec_diCommon.f
  exact spec_diCommon_l0 (b.toNat + 1) a b ha hb (by omega)

/-! spec_diGood -/
theorem spec_diGood_ev (n d : Int) : Ev (fun k => spec_diGood.f k n d) (isT n d) := by
  unfold spec_diGood.f
  simp only [spec_l1In_eq, Option.bind_some]
  by_cases h : 1 ≤ d ∧ d ≤ 1000000
  · refine Ev.pos (by simpa using h) ?_
    rw [wrap_id (by omega) (by omega)]
    by_cases h2 : 0 ≤ n ∧ n ≤ d - 1
    · refine Ev.pos (by simpa using h2) ?_
      refine Ev.bind (spec_diCommon_ev n d (by omega) (by omega)) ?_
      refine Ev.val (Ev.now _) ?_
      unfold isT
      rw [Bool.eq_iff_iff]; simp; omega
    · refine Ev.neg (by simpa using h2) ?_
      refine Ev.val (Ev.now _) ?_
      unfold isT
      rw [Bool.eq_iff_iff]; simp; omega
  · refine Ev.neg (by simpa using h) ?_
    refine Ev.val (Ev.now _) ?_
    unfold isT
    rw [Bool.eq_iff_iff]; simp; omega

/-! spec_meGood -/
theorem spec_meGood_ev (n d s : Int) : Ev (fun k => spec_meGood.f k n d s) (isH n d s) := by
  unfold spec_meGood.f isH isC
  refine Ev.bind (spec_diGood_ev n d) ?_
  simp only [spec_l1In_eq, Option.bind_some]
  cases isT n d
  · exact Ev.val (Ev.now _) (by simp)
  · by_cases h : d ≤ 1000
    · refine Ev.pos rfl (Ev.pos h ?_)
      exact Ev.val (Ev.now _) (by simp [h])
    · refine Ev.pos rfl (Ev.neg h ?_)
      exact Ev.val (Ev.now _) (by simp [h])

/-! spec_meTwo -/
theorem spec_meTwo_ev (a b s c d t : Int) : Ev (fun k => spec_meTwo.f k a b s c d t) (isH a b s && isH c d t) := by
  unfold spec_meTwo.f
  refine Ev.bind (spec_meGood_ev a b s) ?_
  cases isH a b s
  · exact Ev.neg (by decide) (Ev.now _)
  · exact Ev.pos rfl (Ev.bind (spec_meGood_ev c d t) (Ev.now _))

/-! spec_meAsked -/
theorem spec_meAsked_ev (a b s c d t : Int) : Ev (fun k => spec_meAsked.f k a b s c d t) (vAsked a b s c d t) := by
  unfold spec_meAsked.f vAsked
  refine Ev.bind (spec_meTwo_ev a b s c d t) ?_
  cases isH a b s && isH c d t
  · exact Ev.neg (by decide) (Ev.now _)
  · exact Ev.pos rfl (Ev.now _)

/-! spec_diMake -/
theorem spec_diMake_ev (n d : Int) (hd : 0 < d) (hd' : d ≤ 4000000000000000000) (hn : -4000000000000000000 ≤ n) (hn' : n ≤ 4000000000000000000) : Ev (fun k => spec_diMake.f k n d) (mk ((n : Rat) / d)) := by
  unfold spec_diMake.f
  refine Ev.neg (by omega) ?_
  have h0 := Int.emod_nonneg n (show d ≠ 0 by omega)
  have h1 := Int.emod_lt_of_pos n hd
  obtain ⟨t1, t2⟩ := tmod_bound n d hd
  have e0 : Int.tmod (wrap64 (Int.tmod n d + d)) d = n % d := by
    rw [wrap_id (by omega) (by omega)]; exact tmod_tmod n d hd
  rw [e0]
  refine Ev.bind (spec_diCommon_ev (n % d) d h0 (by omega)) ?_
  have hg := gcd_pos' (n % d) hd
  refine Ev.neg (by omega) ?_
  have e1 := Int.tdiv_eq_ediv_of_nonneg (b := (Int.gcd (n % d) d : Int)) h0
  have e2 := Int.tdiv_eq_ediv_of_nonneg (b := (Int.gcd (n % d) d : Int)) (show 0 ≤ d by omega)
  have b1 := ediv_le' h0 hg
  have b2 := ediv_le' (show 0 ≤ d by omega) hg
  rw [e1, e2, wrap_id (by omega) (by omega), wrap_id (by omega) (by omega)]
  unfold mk
  rw [tn_div n d hd, td_div n d hd]
  by_cases h : d / (Int.gcd (n % d) d : Int) > 1000000
  · rw [if_pos h, if_neg (by omega)]; exact Ev.now _
  · rw [if_neg h, if_pos (by omega)]; exact Ev.now _

/-! spec_diAdd -/
theorem spec_diAdd_ev (a b c d t : Int) (hb : 0 < b) (hd : 0 < d) (hm : b * d ≤ 1000000000000000) (ha : -b ≤ a) (ha' : a ≤ b) (hc : -d ≤ c) (hc' : c ≤ d) (ht : -1000 ≤ t) (ht' : t ≤ 1000) : Ev (fun k => spec_diAdd.f k a b c d t) (mk ((a : Rat) / b + t * ((c : Rat) / d))) := by
  have m1 := mul_bound (a := a) (b := d) (A := b) (B := d) (by omega) (by omega) (by omega) (by omega)
  have m2 := mul_bound (a := t) (b := c) (A := 1000) (B := d) (by omega) (by omega) (by omega) (by omega)
  have m4 := mul_bound (a := t * c) (b := b) (A := 1000 * d) (B := b) (by omega) (by omega) (by omega) (by omega)
  have m3 := Int.mul_pos hb hd
  have m5 : d ≤ b * d := by have := Int.mul_le_mul_of_nonneg_right (show 1 ≤ b by omega) (show 0 ≤ d by omega); omega
  rw [Int.mul_assoc, Int.mul_comm d b] at m4
  unfold spec_diAdd.f
  rw [wrap_id (x := a * d) (by omega) (by omega), wrap_id (x := t * c) (by omega) (by omega), wrap_id (x := t * c * b) (by omega) (by omega), wrap_id (x := b * d) (by omega) (by omega), wrap_id (by omega) (by omega)]
  rw [← q_add_mul hb hd]
  exact Ev.bind (spec_diMake_ev _ _ (by omega) (by omega) (by omega) (by omega)) (Ev.now _)
theorem spec_diAdd_T (a b c d t : Int) (h1 : isT a b = true) (h2 : isT c d = true) (ht : -1000 ≤ t) (ht' : t ≤ 1000) : Ev (fun k => spec_diAdd.f k a b c d t) (mk ((a : Rat) / b + t * ((c : Rat) / d))) := by
  obtain ⟨p1, p2, p3, p4, _⟩ := isT_iff.1 h1
  obtain ⟨r1, r2, r3, r4, _⟩ := isT_iff.1 h2
  have m3 := mul_bound (a := b) (b := d) (A := 1000000) (B := 1000000) (by omega) (by omega) (by omega) (by omega)
  exact spec_diAdd_ev a b c d t (by omega) (by omega) (by omega) (by omega) (by omega) (by omega) (by omega) ht ht'

/-! spec_diTimes -/
theorem spec_diTimes_ev (a b k : Int) (h : isT a b = true) (h0 : -100000 ≤ k) (h1 : k ≤ 100000) : Ev (fun n => spec_diTimes.f n a b k) (tn (k * ((a : Rat) / b)), td (k * ((a : Rat) / b))) := by
  obtain ⟨p1, p2, p3, p4, _⟩ := isT_iff.1 h
  have m1 := mul_bound (a := a) (b := k) (A := 1000000) (B := 100000) (by omega) (by omega) h0 h1
  unfold spec_diTimes.f
  rw [wrap_id (by omega) (by omega)]
  refine Ev.bind (spec_diMake_ev _ _ (by omega) (by omega) (by omega) (by omega)) ?_
  rw [q_mul (show 0 < b by omega), mk_of (Int.le_trans (td_mul_le (show 0 < b by omega)) p2)]
  exact Ev.now _
theorem spec_diTimes_fr (p : Rat) (k : Int) (hp : td p ≤ 1000000) (h0 : -100000 ≤ k) (h1 : k ≤ 100000) : Ev (fun n => spec_diTimes.f n (tn p) (td p) k) (tn (k * p), td (k * p)) := by
  refine Ev.val (spec_diTimes_ev (tn p) (td p) k (by rw [isT_tn]; simpa using hp) h0 h1) ?_
  rw [tn_td]
  exact tt_of_fr (fr_mul_fr k p)

/-! spec_diMirror -/
theorem spec_diMirror_fr (p : Rat) (hp : td p ≤ 1000000) : Ev (fun n => spec_diMirror.f n (tn p) (td p)) (tn (-p), td (-p)) := by
  unfold spec_diMirror.f
  refine Ev.bind (spec_diTimes_fr p (-1) hp (by omega) (by omega)) ?_
  rw [neg_one_mul']
  exact Ev.now _
theorem spec_diMirror_T (a b : Int) (h : isT a b = true) : Ev (fun n => spec_diMirror.f n a b) (tn (-((a : Rat) / b)), td (-((a : Rat) / b))) := by
  unfold spec_diMirror.f
  refine Ev.bind (spec_diTimes_ev a b (-1) h (by omega) (by omega)) ?_
  rw [neg_one_mul']
  exact Ev.now _

/-! spec_meTimes -/
theorem spec_meTimes_l0 (w : Rat) (s : Int) (hs : 0 < s) (hs' : s ≤ 100000) (hw : td w ≤ 10000000000) : ∀ (n i : Nat), s.toNat - i = n → i ≤ s.toNat → (∀ j, j < i → td ((fr w + ((j : Int) : Rat)) / (s : Rat)) ≤ 1000000) →
    Ev (fun k => spec_meTimes.l0 k s (rl (fr w) s i) (i : Int) (tn w) (td w)) (vRoots (fr w) s) := by
  intro n
  induction n with
  | zero =>
    intro i h0 h1 hj
    have hi : i = s.toNat := by omega
    refine Ev.step (f := fun k => some (rl (fr w) s i, true)) (fun k => ?_) ?_
    · simp only [spec_meTimes.l0]; rw [if_neg (by omega)]
    · unfold vRoots
      rw [if_pos (okR_iff.2 (fun j h => hj j (by omega))), hi]; exact Ev.now _
  | succ n ih =>
    intro i h0 h1 hj
    have hb := td_pos w
    have h2 := tn_nonneg w
    have h3 := tn_lt w
    have m1 := mul_bound (a := (i : Int)) (b := td w) (A := 100000) (B := 10000000000) (by omega) (by omega) (by omega) (by omega)
    have m2 := mul_bound (a := td w) (b := s) (A := 10000000000) (B := 100000) (by omega) (by omega) (by omega) (by omega)
    have m3 := Int.mul_pos hb hs
    have e1 : ((tn w + (i : Int) * td w : Int) : Rat) / ((td w * s : Int) : Rat) = (fr w + (((i : Nat) : Int) : Rat)) / (s : Rat) := q_root hb hs i
    refine Ev.step (f := fun k => ((spec_diMake.f k (tn w + (i : Int) * td w) (td w * s)).bind fun bt => (if bt.2.2 = true then (if (rl (fr w) s i).length < 8796093022208 then (spec_meTimes.l0 k s (rl (fr w) s i ++ [⟨bt.1, bt.2.1⟩]) ((i + 1 : Nat) : Int) (tn w) (td w)) else none) else some ([], false)))) (fun k => ?_) ?_
    · simp only [spec_meTimes.l0]
      rw [if_pos (by omega), wrap_id (x := (i : Int) * td w) (by omega) (by omega), wrap_id (x := td w * s) (by omega) (by omega), wrap_id (x := tn w + (i : Int) * td w) (by omega) (by omega), wrap_id (x := (i : Int) + 1) (by omega) (by omega)]
      rfl
    · refine Ev.bind (spec_diMake_ev _ _ m3 (by omega) (by omega) (by omega)) ?_
      rw [e1]
      by_cases ht : td ((fr w + (((i : Nat) : Int) : Rat)) / (s : Rat)) ≤ 1000000
      · rw [mk_of ht]
        refine Ev.pos rfl (Ev.pos (by rw [rl_length]; omega) ?_)
        have := ih (i + 1) (by omega) (by omega) (fun j h => by
          by_cases e : j = i
          · rw [e]; exact ht
          · exact hj j (by omega))
        rw [rl_succ] at this
        exact this
      · rw [show mk ((fr w + (((i : Nat) : Int) : Rat)) / (s : Rat)) = (0, 0, false) from if_neg ht]
        refine Ev.neg (by decide) ?_
        unfold vRoots
        rw [if_neg (fun h => ht (okR_iff.1 h i (by omega)))]
        exact Ev.now _

theorem spec_meTimes_j0 (w : Rat) (s : Int) (hs : 0 < s) (hs' : s ≤ 100000) (hw : td w ≤ 10000000000) : Ev (fun k => spec_meTimes.j0 k s (tn w) (td w)) (vRoots (fr w) s) := by
  refine Ev.step (f := fun k => spec_meTimes.l0 k s [] 0 (tn w) (td w)) (fun k => ?_) (spec_meTimes_l0 w s hs hs' hw s.toNat 0 (by omega) (by omega) (fun j h => by omega))
  simp only [spec_meTimes.j0]
theorem spec_meTimes_ev (a b s c d : Int) (hs : s ≠ 0) (h0 : -1000 ≤ s) (h1 : s ≤ 1000) (hb : 0 < b) (hd : 0 < d) (hm : b * d ≤ 1000000000000000) (ha : -b ≤ a) (ha' : a ≤ b) (hc : -d ≤ c) (hc' : c ≤ d) : Ev (fun k => spec_meTimes.f k a b s c d) (vTimesAt ((c : Rat) / d - (a : Rat) / b) s) := by
  unfold spec_meTimes.f
  refine Ev.bind (spec_diAdd_ev c d a b (-1) hd hb (by rw [Int.mul_comm]; exact hm) hc hc' ha ha' (by omega) (by omega)) ?_
  rw [add_neg_one_mul']
  generalize (c : Rat) / d - (a : Rat) / b = q
  by_cases hq : td q ≤ 1000000
  · rw [mk_of hq]
    refine Ev.pos rfl ?_
    unfold vTimesAt
    by_cases hn : s < 0
    · refine Ev.pos hn ?_
      rw [if_pos hn, wrap_id (by omega) (by omega)]
      refine Ev.bind (spec_diMirror_fr q hq) ?_
      exact spec_meTimes_j0 (-q) (-s) (by omega) (by omega) (by have := td_neg q; omega)
    · refine Ev.neg hn ?_
      rw [if_neg hn]
      exact spec_meTimes_j0 q s (by omega) (by omega) (by omega)
  · rw [show mk q = (0, 0, false) from if_neg hq, vTimesAt_no hs (by omega)]
    exact Ev.neg (by decide) (Ev.now _)

/-! spec_meRelative -/
theorem spec_meRelative_ev (a b s c d t : Int) (h1 : isH a b s = true) (h2 : isH c d t = true) : Ev (fun k => spec_meRelative.f k a b s c d t) (tn ((a : Rat) / b - (c : Rat) / d), td ((a : Rat) / b - (c : Rat) / d), s - t) := by
  obtain ⟨u1, u2⟩ := isH_speed h1
  obtain ⟨u3, u4⟩ := isH_speed h2
  have p0 := (isC_iff.1 (isH_iff.1 h1).1).1
  have r0 := (isC_iff.1 (isH_iff.1 h2).1).1
  unfold spec_meRelative.f
  rw [wrap_id (x := s - t) (by omega) (by omega)]
  refine Ev.bind (spec_diAdd_T a b c d (-1) p0 r0 (by omega) (by omega)) ?_
  rw [add_neg_one_mul', mk_of (by have := td_start h1 h2; omega)]
  exact Ev.now _

/-! spec_MeetTimes -/
theorem spec_MeetTimes_ev (a b s c d t : Int) : Ev (fun k => spec_MeetTimes.f k a b s c d t) (vAheadT a b s c d t 0 1) := by
  unfold spec_MeetTimes.f vAheadT
  refine Ev.bind (spec_meAsked_ev a b s c d t) ?_
  cases h : vAsked a b s c d t
  · exact Ev.neg (by decide) (Ev.now _)
  refine Ev.pos rfl ?_
  unfold vAsked at h
  simp only [Bool.and_eq_true, bne_iff_ne, ne_eq] at h
  obtain ⟨⟨h1, h2⟩, hs⟩ := h
  obtain ⟨u1, u2⟩ := isH_speed h1
  obtain ⟨u3, u4⟩ := isH_speed h2
  have hst := td_start h1 h2
  have g0 := td_pos ((a : Rat) / b - (c : Rat) / d)
  have g1 := tn_nonneg ((a : Rat) / b - (c : Rat) / d)
  have g2 := tn_lt ((a : Rat) / b - (c : Rat) / d)
  have m3 := mul_bound (a := td ((a : Rat) / b - (c : Rat) / d)) (b := 1) (A := 1000000) (B := 1000) (by omega) (by omega) (by omega) (by omega)
  refine Ev.bind (spec_meRelative_ev a b s c d t h1 h2) ?_
  have := spec_meTimes_ev (tn ((a : Rat) / b - (c : Rat) / d)) (td ((a : Rat) / b - (c : Rat) / d)) (s - t) 0 1 (by omega) (by omega) (by omega) g0 (by omega) (by omega) (by omega) (by omega) (by omega) (by omega)
  rw [tn_td] at this
  exact Ev.bind this (Ev.now _)

/-! impl_CountMeets -/
theorem impl_CountMeets_ev (a b s c d t : Int) : Ev (fun k => impl_CountMeets.f k a b s c d t) (vCount a b s c d t) := by
  unfold impl_CountMeets.f vCount vAsked
  refine Ev.bind (impl_areHands_two a b s c d t) ?_
  cases h : isH a b s && isH c d t
  · exact Ev.neg (by decide) (Ev.now _)
  refine Ev.pos rfl ?_
  rw [Bool.and_eq_true] at h
  obtain ⟨h1, h2⟩ := isH_speed h.1
  obtain ⟨h3, h4⟩ := isH_speed h.2
  by_cases hs : s = t
  · exact Ev.pos hs (Ev.val (Ev.now _) (by simp [hs]))
  · refine Ev.neg hs (Ev.val (Ev.now _) ?_)
    rw [wrap_id (by omega) (by omega), wrap_id (by omega) (by omega)]
    simp only [Bool.true_and, bne_iff_ne, ne_eq, hs, not_false_eq_true, if_true]
    unfold mx ab
    congr 1
    split <;> split <;> omega

/-! spec_l1Most -/
theorem spec_l1Most_eq (a b : Int) : spec_l1Most.f a b = some (if a > b then a else b) := by
  unfold spec_l1Most.f; split <;> rfl

/-! spec_l1Abs -/
theorem spec_l1Abs_eq (a : Int) (h0 : -9000000000000000000 ≤ a) (h1 : a ≤ 9000000000000000000) : spec_l1Abs.f a = some (ab a) := by
  unfold spec_l1Abs.f
  simp only [spec_l1Most_eq, Option.bind_some]
  rw [wrap_id (by omega) (by omega)]
  unfold ab
  congr 1
  split <;> split <;> omega

/-! spec_CountMeets -/
theorem spec_CountMeets_ev (a b s c d t : Int) : Ev (fun k => spec_CountMeets.f k a b s c d t) (vCount a b s c d t) := by
  unfold spec_CountMeets.f vCount
  refine Ev.bind (spec_meAsked_ev a b s c d t) ?_
  cases h : vAsked a b s c d t
  · exact Ev.neg (by decide) (Ev.now _)
  refine Ev.pos rfl ?_
  unfold vAsked at h
  simp only [Bool.and_eq_true] at h
  obtain ⟨h1, h2⟩ := isH_speed h.1.1
  obtain ⟨h3, h4⟩ := isH_speed h.1.2
  rw [wrap_id (by omega) (by omega), spec_l1Abs_eq _ (by omega) (by omega)]
  exact Ev.now _

/-! h_first -/
def vFirst (a b s c d t : Int) : Int × Int × Bool := if (vAheadT a b s c d t 0 1).2 = true then ((rd_T23 (vAheadT a b s c d t 0 1).1 0).f0, (rd_T23 (vAheadT a b s c d t 0 1).1 0).f1, true) else (0, 0, false)
theorem vRoots_ok {w : Rat} {s : Int} (h : (vRoots w s).2 = true) : okR w s s.toNat = true ∧ (vRoots w s).1 = rl w s s.toNat := by
  unfold vRoots at h ⊢
  split at h
  · rename_i e; rw [if_pos e]; exact ⟨e, rfl⟩
  · cases h
theorem vAheadT_pos {a b s c d t m n : Int} (h : (vAheadT a b s c d t m n).2 = true) : 0 < ((vAheadT a b s c d t m n).1.length : Int) := by
  unfold vAheadT at h ⊢
  split at h
  · rename_i e
    rw [if_pos e]
    unfold vAsked at e
    simp only [Bool.and_eq_true, bne_iff_ne, ne_eq] at e
    unfold vTimesAt at h ⊢
    split at h
    · rename_i hs
      rw [if_pos hs, (vRoots_ok h).2, rl_length]; omega
    · rename_i hs
      rw [if_neg hs, (vRoots_ok h).2, rl_length]; omega
  · cases h

/-! impl_FirstMeet -/
theorem impl_FirstMeet_ev (a b s c d t : Int) : Ev (fun k => impl_FirstMeet.f k a b s c d t) (vFirst a b s c d t) := by
  unfold impl_FirstMeet.f vFirst
  refine Ev.bind (impl_MeetTimes_ev a b s c d t) ?_
  by_cases h : (vAheadT a b s c d t 0 1).2 = true
  · refine Ev.pos h (Ev.pos (vAheadT_pos h) ?_)
    rw [if_pos h]; exact Ev.now _
  · refine Ev.neg h ?_
    rw [if_neg h]; exact Ev.now _

/-! spec_FirstMeet -/
theorem spec_FirstMeet_ev (a b s c d t : Int) : Ev (fun k => spec_FirstMeet.f k a b s c d t) (vFirst a b s c d t) := by
  unfold spec_FirstMeet.f vFirst
  refine Ev.bind (spec_MeetTimes_ev a b s c d t) ?_
  by_cases h : (vAheadT a b s c d t 0 1).2 = true
  · refine Ev.pos h (Ev.pos (vAheadT_pos h) ?_)
    rw [if_pos h]; exact Ev.now _
  · refine Ev.neg h ?_
    rw [if_neg h]; exact Ev.now _

/-! impl_Turn_plus -/
theorem impl_Turn_plus_ev (a b c d : Int) (hb : 0 < b) (hd : 0 < d) (hm : b * d ≤ 1000000000000000000) (ha : -b ≤ a) (ha' : a ≤ b) (hc : -d ≤ c) (hc' : c ≤ d) : Ev (fun k => impl_Turn_plus.f k a b c d) (tn ((a : Rat) / b + (c : Rat) / d), td ((a : Rat) / b + (c : Rat) / d)) := by
  have m1 := mul_bound (a := a) (b := d) (A := b) (B := d) (by omega) (by omega) (by omega) (by omega)
  have m2 := mul_bound (a := c) (b := b) (A := d) (B := b) (by omega) (by omega) (by omega) (by omega)
  have m3 := Int.mul_pos hb hd
  rw [Int.mul_comm d b] at m2
  unfold impl_Turn_plus.f
  rw [wrap_id (x := a * d) (by omega) (by omega), wrap_id (x := c * b) (by omega) (by omega), wrap_id (x := b * d) (by omega) (by omega), wrap_id (by omega) (by omega)]
  rw [← q_add hb hd]
  exact Ev.bind (impl_part_ev _ _ (by omega) (by omega) (by omega) (by omega)) (Ev.now _)
theorem impl_Turn_plus_fr (p q : Rat) (hm : td p * td q ≤ 1000000000000000000) : Ev (fun k => impl_Turn_plus.f k (tn p) (td p) (tn q) (td q)) (tn (p + q), td (p + q)) := by
  have h1 := tn_nonneg p
  have h2 := tn_lt p
  have h3 := tn_nonneg q
  have h4 := tn_lt q
  refine Ev.val (impl_Turn_plus_ev _ _ _ _ (td_pos p) (td_pos q) hm (by omega) (by omega) (by omega) (by omega)) ?_
  rw [tn_td, tn_td]
  exact tt_of_fr (fr_plus p q)

/-! impl_Hand_at -/
theorem impl_Hand_at_ev (p q : Rat) (s : Int) (hp : td p * td (s * q) ≤ 1000000000000000000) (hq : td q ≤ 10000000000) (h0 : -100000 ≤ s) (h1 : s ≤ 100000) : Ev (fun k => impl_Hand_at.f k (tn p) (td p) s (tn q) (td q)) (tn (p + s * q), td (p + s * q)) := by
  unfold impl_Hand_at.f
  refine Ev.bind (impl_Turn_times_fr q s hq h0 h1) ?_
  exact Ev.bind (impl_Turn_plus_fr p (s * q) hp) (Ev.now _)
theorem impl_Hand_at_T (a b s c d : Int) (h1 : isT a b = true) (h2 : isT c d = true) (h0 : -1000 ≤ s) (h3 : s ≤ 1000) : Ev (fun k => impl_Hand_at.f k a b s c d) (tn ((a : Rat) / b + s * ((c : Rat) / d)), td ((a : Rat) / b + s * ((c : Rat) / d))) := by
  obtain ⟨e1, e2⟩ := isT_canon h1
  obtain ⟨e3, e4⟩ := isT_canon h2
  obtain ⟨p1, p2, p3, p4, _⟩ := isT_iff.1 h1
  obtain ⟨r1, r2, r3, r4, _⟩ := isT_iff.1 h2
  have hq : td ((s : Rat) * ((c : Rat) / d)) ≤ 1000000 := Int.le_trans (td_mul_le (show 0 < d by omega)) r2
  have hq' := td_pos ((s : Rat) * ((c : Rat) / d))
  have := impl_Hand_at_ev ((a : Rat) / b) ((c : Rat) / d) s (by
    have m3 := mul_bound (a := td ((a : Rat) / b)) (b := td ((s : Rat) * ((c : Rat) / d))) (A := 1000000) (B := 1000000) (by omega) (by omega) (by omega) (by omega)
    omega) (by omega) (by omega) (by omega)
  rwa [e1, e2, e3, e4] at this

/-! h_gaps -/
/-! ### the gaps between hands -/
def gpOK (x : S23) : Bool := isT x.f0 x.f1
theorem gp_srt {x : S23} (h : gpOK x = true) : srt_ok x := by
  obtain ⟨h1, h2, h3, h4, h5⟩ := isT_iff.1 h
  exact ⟨h3, by omega, h1, h2, h5⟩
/-- where the hands stand -/
def gpQ (m n : Int) (x : S25) : Rat := (x.f0.f0 : Rat) / x.f0.f1 + x.f1 * ((m : Rat) / n)
def gpPlace (m n : Int) (x : S25) : S23 := ⟨tn (gpQ m n x), td (gpQ m n x)⟩
/-- what lies between neighbours -/
def gpD (p q : S23) : Rat := (p.f0 : Rat) / p.f1 - (q.f0 : Rat) / q.f1
def gpDiff (p q : S23) : S23 := ⟨tn (gpD p q), td (gpD p q)⟩
def gpNth (l : List S23) (i : Nat) : S23 := gpDiff (l.getD ((i + 1) % l.length) z23) (l.getD i z23)
def gpAll (l : List S23) : List S23 := (List.range l.length).map (gpNth l)
def gpGood (l : List S25) : Bool := l.all fun x => isH x.f0.f0 x.f0.f1 x.f1
def gpEnd (S : List S23) : List S23 × Bool := if ((gpAll S).all gpOK) = true then (gpAll S, true) else ([], false)
def gpMid (l : List S25) (m n : Int) : List S23 × Bool := if ((l.map (gpPlace m n)).all gpOK) = true then gpEnd ((l.map (gpPlace m n)).mergeSort srt_le) else ([], false)
def vGaps (l : List S25) (m n : Int) : List S23 × Bool :=
  if 1 ≤ l.length ∧ l.length ≤ 12 then if gpGood l = true then if isT m n = true then gpMid l m n else ([], false) else ([], false) else ([], false)
theorem gpAll_len (l : List S23) : (gpAll l).length = l.length := by unfold gpAll; simp
theorem gpEnd_len (S : List S23) : (gpEnd S).1.length ≤ S.length := by
  unfold gpEnd
  split
  · rw [gpAll_len]; exact Nat.le_refl _
  · exact Nat.zero_le _
theorem vGaps_len (l : List S25) (m n : Int) : (vGaps l m n).1.length ≤ 12 := by
  unfold vGaps gpMid
  split
  · rename_i h
    split
    · split
      · split
        · refine Nat.le_trans (gpEnd_len _) ?_
          rw [List.length_mergeSort, List.length_map]; exact h.2
        · simp
      · simp
    · simp
  · simp
theorem gp_rd (l : List S23) (i : Nat) : rd_T23 l (i : Int) = l.getD i z23 := by unfold rd_T23; rw [Int.toNat_natCast]
theorem gp_mod (i n : Nat) (hn : 0 < n) (hi : i < 2000000) : Int.tmod (wrap64 ((i : Int) + 1)) (n : Int) = (((i + 1) % n : Nat) : Int) := by
  rw [wrap_id (x := (i : Int) + 1) (by omega) (by omega), show (i : Int) + 1 = ((i + 1 : Nat) : Int) by omega]
  rfl
theorem gpAll_take (S : List S23) (i : Nat) (h : i < S.length) : (gpAll S).take (i + 1) = (gpAll S).take i ++ [gpNth S i] := by
  rw [List.take_add_one]
  unfold gpAll
  rw [List.getElem?_map, List.getElem?_range h]; rfl
/-! an insertion sort does the same -/
def gpIns (p : S23) : List S23 → List S23
  | [] => [p]
  | x :: xs => if srt_le x p = true then x :: gpIns p xs else p :: x :: xs
theorem gpIns_perm (p : S23) : ∀ l, (gpIns p l).Perm (p :: l)
  | [] => List.Perm.refl _
  | x :: xs => by
    unfold gpIns
    split
    · exact ((gpIns_perm p xs).cons x).trans (List.Perm.swap _ _ _)
    · exact List.Perm.refl _
theorem srt_le_iff (x y : S23) : srt_le x y = true ↔ x.f0 * y.f1 ≤ y.f0 * x.f1 := by
  unfold srt_le
  rw [Bool.not_eq_true', decide_eq_false_iff_not, Int.not_lt]
theorem srt_le_trans {x y z : S23} (hx : gpOK x = true) (hy : gpOK y = true) (hz : gpOK z = true) (h1 : srt_le x y = true) (h2 : srt_le y z = true) : srt_le x z = true := by
  rw [srt_le_iff] at *
  obtain ⟨a1, a2, a3, a4, _⟩ := isT_iff.1 hx
  obtain ⟨b1, b2, b3, b4, _⟩ := isT_iff.1 hy
  obtain ⟨c1, c2, c3, c4, _⟩ := isT_iff.1 hz
  exact srt_tr' (by omega) (by omega) (by omega) h1 h2
theorem srt_le_total (x y : S23) (h : ¬ srt_le x y = true) : srt_le y x = true := by
  rw [srt_le_iff] at *; omega
theorem srt_le_anti {x y : S23} (hx : gpOK x = true) (hy : gpOK y = true) (h1 : srt_le x y = true) (h2 : srt_le y x = true) : x = y := by
  rw [srt_le_iff] at *
  have := srt_one ⟨x, gp_srt hx⟩ ⟨y, gp_srt hy⟩ (by rw [srt_lt]; exact decide_eq_false (by simp only; omega)) (by rw [srt_lt]; exact decide_eq_false (by simp only; omega))
  exact congrArg Subtype.val this
theorem gpIns_mem {p y : S23} {l : List S23} (h : y ∈ gpIns p l) : y = p ∨ y ∈ l := by
  have := (gpIns_perm p l).mem_iff.1 h
  simpa using this
theorem gpIns_pair (p : S23) (hp : gpOK p = true) : ∀ (l : List S23), (∀ x ∈ l, gpOK x = true) → l.Pairwise (fun x y => srt_le x y = true) → (gpIns p l).Pairwise (fun x y => srt_le x y = true)
  | [], _, _ => by simp [gpIns]
  | x :: xs, h, hs => by
    rw [List.pairwise_cons] at hs
    unfold gpIns
    split
    · rename_i hc
      rw [List.pairwise_cons]
      refine ⟨fun y hy => ?_, gpIns_pair p hp xs (fun y hy => h y (List.mem_cons_of_mem _ hy)) hs.2⟩
      rcases gpIns_mem hy with rfl | hy
      · exact hc
      · exact hs.1 y hy
    · rename_i hc
      have hc' := srt_le_total _ _ hc
      rw [List.pairwise_cons, List.pairwise_cons]
      refine ⟨fun y hy => ?_, hs.1, hs.2⟩
      rcases List.mem_cons.1 hy with rfl | hy
      · exact hc'
      · exact srt_le_trans hp (h x List.mem_cons_self) (h y (List.mem_cons_of_mem _ hy)) hc' (hs.1 y hy)
def gpSort (l : List S23) : List S23 := l.foldl (fun acc p => gpIns p acc) []
theorem gpSort_snoc (l : List S23) (p : S23) : gpSort (l ++ [p]) = gpIns p (gpSort l) := by unfold gpSort; rw [List.foldl_append]; rfl
theorem gpFold_perm : ∀ (l acc : List S23), (l.foldl (fun acc p => gpIns p acc) acc).Perm (l ++ acc)
  | [], acc => List.Perm.refl _
  | p :: ps, acc => by
    rw [List.foldl_cons]
    refine (gpFold_perm ps (gpIns p acc)).trans ?_
    refine (List.Perm.append_left ps (gpIns_perm p acc)).trans ?_
    exact List.perm_middle
theorem gpSort_perm (l : List S23) : (gpSort l).Perm l := by have := gpFold_perm l []; rwa [List.append_nil] at this
theorem gpFold_pair : ∀ (l acc : List S23), (∀ x ∈ l, gpOK x = true) → (∀ x ∈ acc, gpOK x = true) → acc.Pairwise (fun x y => srt_le x y = true) → (l.foldl (fun acc p => gpIns p acc) acc).Pairwise (fun x y => srt_le x y = true)
  | [], acc, _, _, h => h
  | p :: ps, acc, h1, h2, h => by
    rw [List.foldl_cons]
    refine gpFold_pair ps _ (fun x hx => h1 x (List.mem_cons_of_mem _ hx)) (fun x hx => ?_) (gpIns_pair p (h1 p List.mem_cons_self) acc h2 h)
    rcases gpIns_mem hx with rfl | hx
    · exact h1 _ List.mem_cons_self
    · exact h2 x hx
theorem gpMerge_pair (l : List S23) (h : ∀ x ∈ l, srt_ok x) : (l.mergeSort srt_le).Pairwise (fun x y => srt_le x y = true) := by
  rw [← srt_merge l h, List.pairwise_map]
  have := List.pairwise_mergeSort (le := fun x y : SrtT => !(ltOf srt_cf) y x) (fun a b c h1 h2 => by
    simp only [Bool.not_eq_true'] at *
    exact srt_swo.ntrans _ _ _ h2 h1) (fun a b => by
    cases h1 : ltOf srt_cf b a
    · rfl
    · cases h2 : ltOf srt_cf a b
      · rfl
      · have := srt_swo.trans _ _ _ h1 h2
        rw [srt_swo.irrefl] at this; cases this) (srt_arr l h).toList
  refine this.imp (fun {a b} hab => ?_)
  rw [srt_lt] at hab
  exact hab
theorem gpSort_eq (l : List S23) (h : (l.all gpOK) = true) : gpSort l = l.mergeSort srt_le := by
  have h' : ∀ x ∈ l, gpOK x = true := List.all_eq_true.1 h
  refine List.Perm.eq_of_pairwise (le := fun x y => srt_le x y = true) (fun a b ha hb h1 h2 => srt_le_anti (h' a ((gpSort_perm l).mem_iff.1 ha)) (h' b ((List.mergeSort_perm l srt_le).mem_iff.1 hb)) h1 h2) (gpFold_pair l [] h' (fun x hx => by simp at hx) List.Pairwise.nil) (gpMerge_pair l (fun x hx => gp_srt (h' x hx))) ((gpSort_perm l).trans (List.mergeSort_perm l srt_le).symm)
theorem gpIns_at (p : S23) : ∀ (S : List S23) (j : Nat), j ≤ S.length → (∀ x ∈ S.take j, srt_le x p = true) → (∀ h : j < S.length, ¬ srt_le S[j] p = true) → gpIns p S = S.take j ++ [p] ++ S.drop j
  | [], j, hj, _, _ => by
    have : j = 0 := by simpa using hj
    subst this; rfl
  | x :: xs, 0, _, _, h => by
    have := h (by simp)
    unfold gpIns
    rw [if_neg (by simpa using this)]; rfl
  | x :: xs, j + 1, hj, h1, h2 => by
    unfold gpIns
    rw [if_pos (h1 x (by rw [List.take_succ_cons]; exact List.mem_cons_self))]
    rw [gpIns_at p xs j (by simpa using hj) (fun y hy => h1 y (by rw [List.take_succ_cons]; exact List.mem_cons_of_mem _ hy)) (fun h => by have := h2 (by simpa using h); simpa using this)]
    rw [List.take_succ_cons, List.drop_succ_cons]; rfl
theorem gpIns_len (p : S23) (l : List S23) : (gpIns p l).length = l.length + 1 := by rw [(gpIns_perm p l).length_eq]; rfl

/-! h_next -/
/-- The place of the first turn behind m / n, from place i on; -1 if there is none. -/
def nxG : List S23 → Int → Int → Int → Int
  | [], _, _, _ => -1
  | x :: xs, m, n, i => if sg (x.f0 * n - m * x.f1) > 0 then i else nxG xs m n (i + 1)
theorem nxG_range : ∀ (l : List S23) (m n i : Int), 0 ≤ i → nxG l m n i = -1 ∨ (i ≤ nxG l m n i ∧ nxG l m n i < i + l.length)
  | [], _, _, _, _ => Or.inl rfl
  | x :: xs, m, n, i, hi => by
    unfold nxG
    split
    · right; simp only [List.length_cons]; omega
    · rcases nxG_range xs m n (i + 1) (by omega) with h | h
      · left; exact h
      · right; simp only [List.length_cons]; omega
theorem vAheadT_all {a b s c d t m n : Int} (h : (vAheadT a b s c d t m n).2 = true) : ((vAheadT a b s c d t m n).1.all fun x => isT x.f0 x.f1) = true := by
  unfold vAheadT at h ⊢
  split at h
  · rename_i e
    rw [if_pos e]
    unfold vTimesAt at h ⊢
    split at h
    · rename_i hs
      rw [if_pos hs, (vRoots_ok h).2]; exact (vRoots_ok h).1
    · rename_i hs
      rw [if_neg hs, (vRoots_ok h).2]; exact (vRoots_ok h).1
  · cases h
def nxP (l : List S23) (m n : Int) : Int × Int × Bool := ((rd_T23 l (mx (nxG l m n 0) 0)).f0, (rd_T23 l (mx (nxG l m n 0) 0)).f1, true)
def vNext (a b s c d t m n : Int) : Int × Int × Bool := if (vAheadT a b s c d t 0 1).2 = true then if isT m n = true then nxP (vAheadT a b s c d t 0 1).1 m n else (0, 0, false) else (0, 0, false)
theorem mx_nx (l : List S23) (m n : Int) (hl : 0 < (l.length : Int)) : 0 ≤ mx (nxG l m n 0) 0 ∧ mx (nxG l m n 0) 0 < l.length := by
  unfold mx
  rcases nxG_range l m n 0 (by omega) with h | h
  · rw [h]; simp; omega
  · rw [if_neg (by omega)]; omega

/-! h_places -/
/-! ### the places where two hands meet -/
def plAt (a b s : Int) (x : S23) : S23 := ⟨tn ((a : Rat) / b + s * ((x.f0 : Rat) / x.f1)), td ((a : Rat) / b + s * ((x.f0 : Rat) / x.f1))⟩
def plMid (P : List S23) : List S23 × Bool := if (P.all gpOK) = true then (cpN (P.mergeSort srt_le) (P.mergeSort srt_le).length, true) else ([], false)
def vPlaces (a b s c d t : Int) : List S23 × Bool := if (vAheadT a b s c d t 0 1).2 = true then plMid ((vAheadT a b s c d t 0 1).1.map (plAt a b s)) else ([], false)
theorem cpN_len (l : List S23) : ∀ j, (cpN l j).length ≤ j
  | 0 => by simp [cpN]
  | j + 1 => by
    have := cpN_len l j
    simp only [cpN]
    split
    · omega
    · rw [List.length_append]; simp; omega
theorem plMid_len (P : List S23) : (plMid P).1.length ≤ P.length := by
  unfold plMid
  split
  · have := cpN_len (P.mergeSort srt_le) (P.mergeSort srt_le).length
    rw [List.length_mergeSort] at this
    simpa using this
  · exact Nat.zero_le _
theorem vPlaces_len (a b s c d t : Int) : (vPlaces a b s c d t).1.length ≤ 1000 := by
  unfold vPlaces
  split
  · refine Nat.le_trans (plMid_len _) ?_
    rw [List.length_map]; exact vAheadT_len _ _ _ _ _ _ _ _
  · simp
def plLt (x y : S23) : Bool := decide (x.f0 * y.f1 < y.f0 * x.f1)
theorem plLt_iff (x y : S23) : plLt x y = true ↔ x.f0 * y.f1 < y.f0 * x.f1 := by unfold plLt; exact decide_eq_true_iff
theorem plLt_trans {x y z : S23} (hx : gpOK x = true) (hy : gpOK y = true) (hz : gpOK z = true) (h1 : plLt x y = true) (h2 : plLt y z = true) : plLt x z = true := by
  rw [plLt_iff] at *
  obtain ⟨a1, a2, a3, a4, _⟩ := isT_iff.1 hx
  obtain ⟨b1, b2, b3, b4, _⟩ := isT_iff.1 hy
  obtain ⟨c1, c2, c3, c4, _⟩ := isT_iff.1 hz
  exact srt_tr (by omega) (by omega) (by omega) h1 h2
theorem plLt_of {x y : S23} (hx : gpOK x = true) (hy : gpOK y = true) (h : srt_le x y = true) (hne : x ≠ y) : plLt x y = true := by
  rw [plLt_iff]
  by_cases hc : x.f0 * y.f1 < y.f0 * x.f1
  · exact hc
  · exact (hne (srt_le_anti hx hy h (by rw [srt_le_iff]; omega))).elim
theorem plLt_le {x y z : S23} (hx : gpOK x = true) (hy : gpOK y = true) (hz : gpOK z = true) (h1 : srt_le x y = true) (h2 : plLt y z = true) : plLt x z = true := by
  by_cases e : x = y
  · rw [e]; exact h2
  · exact plLt_trans hx hy hz (plLt_of hx hy h1 e) h2
theorem cpEq_iff (a b : S23) : cpEq a b = true ↔ a = b := by
  obtain ⟨a0, a1⟩ := a
  obtain ⟨b0, b1⟩ := b
  unfold cpEq
  simp
/-- two rising lists of the same elements are one -/
theorem pl_ext : ∀ (l1 l2 : List S23), l1.Pairwise (fun x y => plLt x y = true) → l2.Pairwise (fun x y => plLt x y = true) → (∀ x, x ∈ l1 ↔ x ∈ l2) → l1 = l2
  | [], [], _, _, _ => rfl
  | [], b :: zs, _, _, h => by have := (h b).2 List.mem_cons_self; simp at this
  | a :: ys, [], _, _, h => by have := (h a).1 List.mem_cons_self; simp at this
  | a :: ys, b :: zs, h1, h2, h => by
    rw [List.pairwise_cons] at h1 h2
    have irr : ∀ x y : S23, plLt x y = true → plLt y x = true → False := fun x y p q => by rw [plLt_iff] at p q; omega
    have e : a = b := by
      rcases List.mem_cons.1 ((h a).1 List.mem_cons_self) with e | m1
      · exact e
      · rcases List.mem_cons.1 ((h b).2 List.mem_cons_self) with e | m2
        · exact e.symm
        · exact (irr _ _ (h2.1 a m1) (h1.1 b m2)).elim
    subst e
    rw [pl_ext ys zs h1.2 h2.2 (fun x => ⟨fun m => ?_, fun m => ?_⟩)]
    · rcases List.mem_cons.1 ((h x).1 (List.mem_cons_of_mem _ m)) with e | m2
      · subst e; exact (irr _ _ (h1.1 x m) (h1.1 x m)).elim
      · exact m2
    · rcases List.mem_cons.1 ((h x).2 (List.mem_cons_of_mem _ m)) with e | m2
      · subst e; exact (irr _ _ (h2.1 x m) (h2.1 x m)).elim
      · exact m2
def plIns (p : S23) : List S23 → List S23
  | [] => [p]
  | x :: xs => if plLt x p = true then x :: plIns p xs else if cpEq x p = true then x :: xs else p :: x :: xs
theorem plIns_mem (p y : S23) : ∀ l, y ∈ plIns p l ↔ y = p ∨ y ∈ l
  | [] => by simp [plIns]
  | x :: xs => by
    unfold plIns
    split
    · rw [List.mem_cons, plIns_mem p y xs, List.mem_cons]
      constructor
      · rintro (h | h | h)
        · exact .inr (.inl h)
        · exact .inl h
        · exact .inr (.inr h)
      · rintro (h | h | h)
        · exact .inr (.inl h)
        · exact .inl h
        · exact .inr (.inr h)
    · split
      · rename_i h
        have e := (cpEq_iff x p).1 h
        subst e
        simp
      · simp
theorem plIns_pair (p : S23) (hp : gpOK p = true) : ∀ (l : List S23), (∀ x ∈ l, gpOK x = true) → l.Pairwise (fun x y => plLt x y = true) → (plIns p l).Pairwise (fun x y => plLt x y = true)
  | [], _, _ => by simp [plIns]
  | x :: xs, h, hs => by
    have hx := h x List.mem_cons_self
    rw [List.pairwise_cons] at hs
    unfold plIns
    split
    · rename_i hc
      rw [List.pairwise_cons]
      refine ⟨fun y hy => ?_, plIns_pair p hp xs (fun y hy => h y (List.mem_cons_of_mem _ hy)) hs.2⟩
      rcases (plIns_mem p y xs).1 hy with rfl | hy
      · exact hc
      · exact hs.1 y hy
    · rename_i hc
      split
      · rw [List.pairwise_cons]; exact hs
      · rename_i he
        have hpx : plLt p x = true := plLt_of hp hx (by rw [srt_le_iff]; rw [plLt_iff] at hc; omega) (fun e => he ((cpEq_iff x p).2 e.symm))
        rw [List.pairwise_cons, List.pairwise_cons]
        refine ⟨fun y hy => ?_, hs.1, hs.2⟩
        rcases List.mem_cons.1 hy with rfl | hy
        · exact hpx
        · exact plLt_trans hp hx (h y (List.mem_cons_of_mem _ hy)) hpx (hs.1 y hy)
def plSort (l : List S23) : List S23 := l.foldl (fun acc p => plIns p acc) []
theorem plSort_snoc (l : List S23) (p : S23) : plSort (l ++ [p]) = plIns p (plSort l) := by unfold plSort; rw [List.foldl_append]; rfl
theorem plFold_mem (y : S23) : ∀ (l acc : List S23), y ∈ l.foldl (fun acc p => plIns p acc) acc ↔ y ∈ l ∨ y ∈ acc
  | [], acc => by simp
  | p :: ps, acc => by
    rw [List.foldl_cons, plFold_mem y ps, plIns_mem, List.mem_cons]
    constructor
    · rintro (h | h | h)
      · exact .inl (.inr h)
      · exact .inl (.inl h)
      · exact .inr h
    · rintro ((h | h) | h)
      · exact .inr (.inl h)
      · exact .inl h
      · exact .inr (.inr h)
theorem plSort_mem (y : S23) (l : List S23) : y ∈ plSort l ↔ y ∈ l := by
  unfold plSort; rw [plFold_mem]; simp
theorem plFold_pair : ∀ (l acc : List S23), (∀ x ∈ l, gpOK x = true) → (∀ x ∈ acc, gpOK x = true) → acc.Pairwise (fun x y => plLt x y = true) → (l.foldl (fun acc p => plIns p acc) acc).Pairwise (fun x y => plLt x y = true)
  | [], acc, _, _, h => h
  | p :: ps, acc, h1, h2, h => by
    rw [List.foldl_cons]
    refine plFold_pair ps _ (fun x hx => h1 x (List.mem_cons_of_mem _ hx)) (fun x hx => ?_) (plIns_pair p (h1 p List.mem_cons_self) acc h2 h)
    rcases (plIns_mem p x acc).1 hx with rfl | hx
    · exact h1 _ List.mem_cons_self
    · exact h2 x hx
theorem pl_getD (l : List S23) (j : Nat) (h : j < l.length) : l.getD j z23 = l[j] := by rw [List.getD_eq_getElem?_getD, List.getElem?_eq_getElem h]; rfl
theorem cpN_facts (S : List S23) (hS : ∀ x ∈ S, gpOK x = true) (hp : S.Pairwise (fun x y => srt_le x y = true)) : ∀ j, j ≤ S.length → (∀ x, x ∈ cpN S j ↔ x ∈ S.take j) ∧ (cpN S j).Pairwise (fun x y => plLt x y = true)
  | 0, _ => by simp [cpN]
  | j + 1, hj => by
    have hlt : j < S.length := hj
    obtain ⟨i1, i2⟩ := cpN_facts S hS hp j (by omega)
    have ht : S.take (j + 1) = S.take j ++ [S[j]] := by rw [List.take_add_one, List.getElem?_eq_getElem hlt]; rfl
    rw [List.pairwise_iff_getElem] at hp
    simp only [cpN]
    rw [pl_getD S j hlt, ht]
    split
    · rename_i hc
      rw [Bool.and_eq_true] at hc
      have hj0 : 0 < j := of_decide_eq_true hc.1
      rw [pl_getD S (j - 1) (by omega)] at hc
      have e := (cpEq_iff _ _).1 hc.2
      refine ⟨fun x => ?_, i2⟩
      rw [i1 x, List.mem_append]
      constructor
      · exact .inl
      · rintro (h | h)
        · exact h
        · rw [List.mem_singleton.1 h, e]
          exact List.mem_take_iff_getElem.2 ⟨j - 1, by omega, rfl⟩
    · rename_i hc
      refine ⟨fun x => by rw [List.mem_append, List.mem_append, i1 x], ?_⟩
      rw [List.pairwise_append]
      refine ⟨i2, by simp, fun x hx y hy => ?_⟩
      rw [List.mem_singleton.1 hy]
      obtain ⟨q, hq, rfl⟩ := List.mem_take_iff_getElem.1 ((i1 x).1 hx)
      have hq' : q < j := by omega
      rw [pl_getD S (j - 1) (by omega)] at hc
      have hne : S[j - 1] ≠ S[j] := fun e => hc (by rw [Bool.and_eq_true]; exact ⟨decide_eq_true (by omega), (cpEq_iff _ _).2 e.symm⟩)
      have hl := plLt_of (hS _ (List.getElem_mem (show j - 1 < S.length by omega))) (hS _ (List.getElem_mem hlt)) (hp (j - 1) j (by omega) hlt (by omega)) hne
      by_cases e : q = j - 1
      · subst e; exact hl
      · exact plLt_le (hS _ (List.getElem_mem (show q < S.length by omega))) (hS _ (List.getElem_mem (show j - 1 < S.length by omega))) (hS _ (List.getElem_mem hlt)) (hp q (j - 1) (by omega) (by omega) (by omega)) hl
theorem pl_same (P : List S23) (h : (P.all gpOK) = true) : plSort P = cpN (P.mergeSort srt_le) (P.mergeSort srt_le).length := by
  have h' : ∀ x ∈ P, gpOK x = true := List.all_eq_true.1 h
  have hm : ∀ x, x ∈ P.mergeSort srt_le ↔ x ∈ P := fun x => (List.mergeSort_perm P srt_le).mem_iff
  obtain ⟨e1, e2⟩ := cpN_facts (P.mergeSort srt_le) (fun x hx => h' x ((hm x).1 hx)) (gpMerge_pair P (fun x hx => gp_srt (h' x hx))) _ (Nat.le_refl _)
  refine pl_ext _ _ (plFold_pair P [] h' (fun x hx => by simp at hx) List.Pairwise.nil) e2 (fun x => ?_)
  rw [plSort_mem, e1 x, List.take_length, hm x]
theorem plIns_at (p : S23) : ∀ (S : List S23) (j : Nat), j ≤ S.length → (∀ x ∈ S.take j, plLt x p = true) → (∀ h : j < S.length, ¬ plLt S[j] p = true) → plIns p S = if h : j < S.length then (if cpEq S[j] p = true then S else S.take j ++ [p] ++ S.drop j) else S ++ [p]
  | [], j, hj, _, _ => by simp [plIns]
  | x :: xs, 0, _, _, h => by
    have := h (by simp)
    unfold plIns
    rw [if_neg (by simpa using this)]
    simp
  | x :: xs, j + 1, hj, h1, h2 => by
    unfold plIns
    rw [if_pos (h1 x (by rw [List.take_succ_cons]; exact List.mem_cons_self))]
    rw [plIns_at p xs j (by simpa using hj) (fun y hy => h1 y (by rw [List.take_succ_cons]; exact List.mem_cons_of_mem _ hy)) (fun h => by have := h2 (by simpa using h); simpa using this)]
    by_cases hj2 : j < xs.length
    · rw [dif_pos hj2, dif_pos (by simpa using hj2)]
      simp only [List.getElem_cons_succ]
      split
      · rfl
      · rw [List.take_succ_cons, List.drop_succ_cons]; rfl
    · rw [dif_neg hj2, dif_neg (by simpa using hj2)]; rfl

/-! h_three -/
/-- whether the third hand stands where the first one stands -/
def thP (a b s m n u : Int) (x : S23) : Bool := decide (fr (((a : Rat) / b - (m : Rat) / n) + ((s - u : Int) : Rat) * ((x.f0 : Rat) / x.f1)) = 0)
theorem fr_zero_iff (p q : Rat) : fr p = fr q ↔ fr (p - q) = 0 := by
  constructor
  · intro h
    obtain ⟨z1, e1⟩ := fr_exists p
    obtain ⟨z2, e2⟩ := fr_exists q
    have e : p - q = 0 + ((z1 - z2 : Int) : Rat) := by rw [e1, e2, h, Rat.intCast_sub]; grind
    rw [e, fr_add_int]
    unfold fr; rw [show (0 : Rat).floor = 0 by decide]; grind
  · intro h
    obtain ⟨z, e⟩ := fr_exists (p - q)
    rw [h] at e
    have e2 : p = q + (z : Rat) := by grind
    rw [e2, fr_add_int]
theorem tn_zero_iff (q : Rat) : tn q = 0 ↔ fr q = 0 := by unfold tn; exact Rat.num_eq_zero
theorem th_same (a b s m n u : Int) (x : S23) : (tn ((a : Rat) / b + s * ((x.f0 : Rat) / x.f1)) = tn ((m : Rat) / n + u * ((x.f0 : Rat) / x.f1)) ∧ td ((a : Rat) / b + s * ((x.f0 : Rat) / x.f1)) = td ((m : Rat) / n + u * ((x.f0 : Rat) / x.f1))) ↔ thP a b s m n u x = true := by
  unfold thP
  rw [decide_eq_true_iff]
  have e : ((a : Rat) / b - (m : Rat) / n) + ((s - u : Int) : Rat) * ((x.f0 : Rat) / x.f1) = ((a : Rat) / b + s * ((x.f0 : Rat) / x.f1)) - ((m : Rat) / n + u * ((x.f0 : Rat) / x.f1)) := by rw [Rat.intCast_sub]; grind
  rw [e, ← fr_zero_iff]
  constructor
  · rintro ⟨h1, h2⟩; exact fr_of_eq h1 h2
  · intro h; have := tt_of_fr h; exact ⟨congrArg Prod.fst this, congrArg Prod.snd this⟩
def vThree (a b s c d t m n u : Int) : List S23 × Bool := if (vAheadT a b s c d t 0 1).2 = true then if isH m n u = true then ((vAheadT a b s c d t 0 1).1.filter (thP a b s m n u), true) else ([], false) else ([], false)
theorem vThree_len (a b s c d t m n u : Int) : (vThree a b s c d t m n u).1.length ≤ 1000 := by
  have h := vAheadT_len a b s c d t 0 1
  unfold vThree
  split
  · split
    · exact Nat.le_trans (List.length_filter_le _ _) h
    · simp
  · simp
theorem vAheadT_hands {a b s c d t m n : Int} (h : (vAheadT a b s c d t m n).2 = true) : isH a b s = true ∧ isH c d t = true := by
  unfold vAheadT vAsked at h
  split at h
  · rename_i e; simp at e; exact ⟨by simp [e.1], by simp [e.1]⟩
  · cases h

/-! impl_MeetPlaces -/
theorem impl_sorted_eq (P : List S23) (h0 : P.length ≠ 0) (hl : P.length ≤ 1000) (h : (P.all gpOK) = true) : impl_sorted.f P = some (cpN (P.mergeSort srt_le) (P.mergeSort srt_le).length) := by
  have h' : ∀ x ∈ P, gpOK x = true := List.all_eq_true.1 h
  unfold impl_sorted.f impl_sorted_clone.f
  rw [if_neg h0]
  simp only [Option.bind_some, List.length_nil, List.nil_append]
  rw [if_pos (by omega)]
  simp only [Option.bind_some]
  unfold impl_sorted_sort.f
  rw [if_pos ⟨List.all_eq_true.2 (fun x hx => decide_eq_true (gp_srt (h' x hx))), by omega⟩]
  simp only [Option.bind_some]
  unfold impl_sorted_compact.f
  rw [if_pos (by rw [List.length_mergeSort]; omega)]
  rfl
theorem impl_MeetPlaces_l0 (l : List S23) (a b s : Int) (hn : l.length ≠ 0) (hl : l.length ≤ 1000) (hab : isT a b = true) (hs0 : -1000 ≤ s) (hs1 : s ≤ 1000) (hT : (l.all fun x => isT x.f0 x.f1) = true) : ∀ (r i : Nat), l.length - i = r → i ≤ l.length → Ev (fun k => impl_MeetPlaces.l0 k ((l.map (plAt a b s)).take i) l (l.length : Int) (i : Int) a b s) (plMid (l.map (plAt a b s))) := by
  intro r
  induction r with
  | zero =>
    intro i h0 h1
    have hi : i = l.length := by omega
    have hL : (l.map (plAt a b s)).length = l.length := List.length_map _
    have e0 : (l.map (plAt a b s)).take i = l.map (plAt a b s) := List.take_of_length_le (by omega)
    rw [e0]
    unfold plMid
    generalize l.map (plAt a b s) = P at hL ⊢
    refine Ev.step (f := fun k => (impl_areTurns.f k P).bind fun t => (if t = true then ((impl_sorted.f P).bind fun S => (some (S, true))) else (some ([], false)))) (fun k => ?_) ?_
    · simp only [impl_MeetPlaces.l0]
      rw [if_neg (by omega)]
    · refine Ev.bind (impl_areTurns_ev P (by omega)) ?_
      show Ev _ (if (P.all gpOK) = true then _ else _)
      by_cases hP : (P.all gpOK) = true
      · refine Ev.pos hP ?_
        rw [if_pos hP, impl_sorted_eq P (by omega) (by omega) hP]
        exact Ev.now _
      · refine Ev.neg hP ?_
        rw [if_neg hP]; exact Ev.now _
  | succ r ih =>
    intro i h0 h1
    have hlt : i < l.length := by omega
    have hr : rd_T23 l (i : Int) = l[i] := by unfold rd_T23; rw [List.getD_eq_getElem?_getD, show ((i : Int)).toNat = i from Int.toNat_natCast i, List.getElem?_eq_getElem hlt]; rfl
    have ht : isT l[i].f0 l[i].f1 = true := List.all_eq_true.1 hT _ (List.getElem_mem hlt)
    have ih' := ih (i + 1) (by omega) (by omega)
    have e1 : (l.map (plAt a b s)).take (i + 1) = (l.map (plAt a b s)).take i ++ [plAt a b s l[i]] := by
      rw [List.take_add_one, List.getElem?_map, List.getElem?_eq_getElem hlt]; rfl
    rw [e1] at ih'
    have hacc : ((l.map (plAt a b s)).take i).length ≤ 1000 := by rw [List.length_take, List.length_map]; omega
    generalize (l.map (plAt a b s)).take i = acc at ih' hacc ⊢
    refine Ev.step (f := fun k => (impl_Hand_at.f k a b s l[i].f0 l[i].f1).bind fun bt => (if acc.length < 8796093022208 then (impl_MeetPlaces.l0 k (acc ++ [⟨bt.1, bt.2⟩]) l (l.length : Int) ((i + 1 : Nat) : Int) a b s) else none)) (fun k => ?_) ?_
    · simp only [impl_MeetPlaces.l0]
      rw [if_pos (by omega), if_pos (by omega), if_pos (by omega), hr, wrap_id (x := (i : Int) + 1) (by omega) (by omega)]
      rfl
    · refine Ev.bind (impl_Hand_at_T a b s _ _ hab ht hs0 hs1) ?_
      exact Ev.pos (by omega) ih'
theorem impl_MeetPlaces_ev (a b s c d t : Int) : Ev (fun k => impl_MeetPlaces.f k a b s c d t) (vPlaces a b s c d t) := by
  unfold impl_MeetPlaces.f vPlaces
  refine Ev.bind (impl_MeetTimes_ev a b s c d t) ?_
  have hl := vAheadT_len a b s c d t 0 1
  by_cases h : (vAheadT a b s c d t 0 1).2 = true
  · refine Ev.pos h ?_
    rw [if_pos h]
    have hp := vAheadT_pos h
    obtain ⟨u1, u2⟩ := isH_speed (vAheadT_hands h).1
    exact impl_MeetPlaces_l0 _ a b s (by omega) hl (isC_iff.1 (isH_iff.1 (vAheadT_hands h).1).1).1 (by omega) (by omega) (vAheadT_all h) _ 0 rfl (by omega)
  · refine Ev.neg h ?_
    rw [if_neg h]; exact Ev.now _

/-! spec_meAt -/
theorem spec_meAt_ev (a b s c d : Int) (h1 : isT a b = true) (h2 : isT c d = true) (h0 : -1000 ≤ s) (h3 : s ≤ 1000) : Ev (fun k => spec_meAt.f k a b s c d) (mk ((a : Rat) / b + s * ((c : Rat) / d))) := by
  unfold spec_meAt.f
  exact Ev.bind (spec_diAdd_T a b c d s h1 h2 h0 h3) (Ev.now _)

/-! spec_l1Sign -/
theorem spec_l1Sign_eq (a : Int) : spec_l1Sign.f a = some (sg a) := by
  unfold spec_l1Sign.f sg
  split
  · rfl
  · split <;> rfl

/-! spec_diCompare -/
theorem spec_diCompare_eq (a b c d : Int) (ha : isT a b = true) (hc : isT c d = true) : spec_diCompare.f a b c d = some (sg (a * d - c * b)) := by
  obtain ⟨p1, p2, p3, p4, _⟩ := isT_iff.1 ha
  obtain ⟨r1, r2, r3, r4, _⟩ := isT_iff.1 hc
  have m1 := mul_bound (a := a) (b := d) (A := 1000000) (B := 1000000) (by omega) (by omega) (by omega) (by omega)
  have m2 := mul_bound (a := c) (b := b) (A := 1000000) (B := 1000000) (by omega) (by omega) (by omega) (by omega)
  unfold spec_diCompare.f
  rw [wrap_id (x := a * d) (by omega) (by omega), wrap_id (x := c * b) (by omega) (by omega), wrap_id (by omega) (by omega)]
  simp only [spec_l1Sign_eq, Option.bind_some]

/-! spec_meSorted -/
theorem spec_meSorted_l0 (p0 p1 : Int) (hp : isT p0 p1 = true) (S : List S23) (hS : ∀ x ∈ S, gpOK x = true) (hl : S.length ≤ 1000) : ∀ (r j : Nat), S.length - j = r → j ≤ S.length → (∀ x ∈ S.take j, plLt x ⟨p0, p1⟩ = true) → Ev (fun k => spec_meSorted.l0 k S (j : Int) p0 p1) (plIns ⟨p0, p1⟩ S) := by
  intro r
  induction r with
  | zero =>
    intro j h0 h1 hle
    have hj : j = S.length := by omega
    have e := plIns_at ⟨p0, p1⟩ S j h1 hle (fun h => by omega)
    rw [dif_neg (by omega)] at e
    rw [e]
    refine Ev.step (f := fun k => some (S ++ [⟨p0, p1⟩])) (fun k => ?_) (Ev.now _)
    simp only [spec_meSorted.l0]
    rw [if_neg (by omega)]
    simp only [Option.bind_some, List.nil_append]
    rw [Int.toNat_natCast, hj]
    simp only [List.take_length, List.drop_length, List.append_nil, List.length_append, List.length_take, List.length_drop, List.length_nil, List.length_cons]
    repeat (first | rw [if_pos (by omega)] | rfl)
  | succ r ih =>
    intro j h0 h1 hle
    have hlt : j < S.length := by omega
    have q2 : gpOK S[j] = true := hS _ (List.getElem_mem hlt)
    have hr : rd_T23 S (j : Int) = S[j] := by unfold rd_T23; rw [List.getD_eq_getElem?_getD, show ((j : Int)).toNat = j from Int.toNat_natCast j, List.getElem?_eq_getElem hlt]; rfl
    have hsg : (sg (S[j].f0 * p1 - p0 * S[j].f1) < 0) ↔ plLt S[j] ⟨p0, p1⟩ = true := by
      rw [plLt_iff]
      show _ ↔ S[j].f0 * p1 < p0 * S[j].f1
      unfold sg
      split
      · constructor <;> intro h <;> omega
      · split
        · constructor <;> intro h <;> omega
        · constructor <;> intro h <;> omega
    by_cases hc : plLt S[j] ⟨p0, p1⟩ = true
    · refine Ev.step (f := fun k => spec_meSorted.l0 k S ((j + 1 : Nat) : Int) p0 p1) (fun k => ?_) (ih (j + 1) (by omega) (by omega) (fun x hx => ?_))
      · simp only [spec_meSorted.l0]
        rw [if_pos (by omega), if_pos (by omega), hr, spec_diCompare_eq _ _ _ _ q2 hp]
        simp only [Option.bind_some]
        rw [if_pos (hsg.2 hc), wrap_id (x := (j : Int) + 1) (by omega) (by omega)]
        rfl
      · rw [List.take_add_one, List.getElem?_eq_getElem hlt] at hx
        rcases List.mem_append.1 hx with hx | hx
        · exact hle x hx
        · rw [show x = S[j] by simpa using hx]; exact hc
    · have e := plIns_at ⟨p0, p1⟩ S j h1 hle (fun h => hc)
      rw [dif_pos hlt] at e
      rw [e]
      by_cases he : cpEq S[j] ⟨p0, p1⟩ = true
      · rw [if_pos he]
        refine Ev.step (f := fun k => some S) (fun k => ?_) (Ev.now _)
        simp only [spec_meSorted.l0]
        rw [if_pos (by omega), if_pos (by omega), hr, spec_diCompare_eq _ _ _ _ q2 hp]
        simp only [Option.bind_some]
        rw [if_neg (fun h => hc (hsg.1 h)), if_pos (show (S[j].f0 == p0 && (S[j].f1 == p1)) = true from he)]
      · rw [if_neg he]
        refine Ev.step (f := fun k => some (S.take j ++ [⟨p0, p1⟩] ++ S.drop j)) (fun k => ?_) (Ev.now _)
        simp only [spec_meSorted.l0]
        rw [if_pos (by omega), if_pos (by omega), hr, spec_diCompare_eq _ _ _ _ q2 hp]
        simp only [Option.bind_some, List.nil_append]
        rw [if_neg (fun h => hc (hsg.1 h)), if_neg (show ¬ (S[j].f0 == p0 && (S[j].f1 == p1)) = true from he), Int.toNat_natCast]
        simp only [List.length_append, List.length_take, List.length_drop, List.length_nil, List.length_cons]
        repeat (first | rw [if_pos (by omega)] | rfl)
theorem spec_meSorted_ev (p0 p1 : Int) (hp : isT p0 p1 = true) (S : List S23) (hS : ∀ x ∈ S, gpOK x = true) (hl : S.length ≤ 1000) : Ev (fun k => spec_meSorted.f k S p0 p1) (plIns ⟨p0, p1⟩ S) := by
  unfold spec_meSorted.f
  exact spec_meSorted_l0 p0 p1 hp S hS hl _ 0 rfl (by omega) (fun x hx => by simp at hx)

/-! spec_MeetPlaces -/
theorem plSort_len (l : List S23) : ∀ acc : List S23, (l.foldl (fun acc p => plIns p acc) acc).length ≤ acc.length + l.length := by
  induction l with
  | nil => intro acc; simp
  | cons p ps ih =>
    intro acc
    rw [List.foldl_cons]
    have h1 : ∀ S : List S23, (plIns p S).length ≤ S.length + 1 := by
      intro S
      induction S with
      | nil => simp [plIns]
      | cons x xs ih2 =>
        unfold plIns
        split
        · simp only [List.length_cons]; omega
        · split
          · simp
          · simp
    have := ih (plIns p acc)
    have := h1 acc
    simp only [List.length_cons]
    omega
theorem spec_MeetPlaces_l0 (l : List S23) (a b s : Int) (hl : l.length ≤ 1000) (hab : isT a b = true) (hs0 : -1000 ≤ s) (hs1 : s ≤ 1000) (hT : (l.all fun x => isT x.f0 x.f1) = true) : ∀ (r i : Nat), l.length - i = r → i ≤ l.length → (∀ x ∈ (l.map (plAt a b s)).take i, gpOK x = true) → Ev (fun k => spec_MeetPlaces.l0 k (plSort ((l.map (plAt a b s)).take i)) l (l.length : Int) (i : Int) a b s) (plMid (l.map (plAt a b s))) := by
  intro r
  induction r with
  | zero =>
    intro i h0 h1 hok
    have hi : i = l.length := by omega
    rw [List.take_of_length_le (by rw [List.length_map]; omega)] at hok ⊢
    have hP : ((l.map (plAt a b s)).all gpOK) = true := List.all_eq_true.2 hok
    unfold plMid
    rw [if_pos hP, ← pl_same _ hP]
    generalize plSort (l.map (plAt a b s)) = S
    refine Ev.step (f := fun k => some (S, true)) (fun k => ?_) (Ev.now _)
    simp only [spec_MeetPlaces.l0]
    rw [if_neg (by omega)]
  | succ r ih =>
    intro i h0 h1 hok
    have hlt : i < l.length := by omega
    have hr : rd_T23 l (i : Int) = l[i] := by unfold rd_T23; rw [List.getD_eq_getElem?_getD, show ((i : Int)).toNat = i from Int.toNat_natCast i, List.getElem?_eq_getElem hlt]; rfl
    have ht : isT l[i].f0 l[i].f1 = true := List.all_eq_true.1 hT _ (List.getElem_mem hlt)
    have ih' := ih (i + 1) (by omega) (by omega)
    have e1 : (l.map (plAt a b s)).take (i + 1) = (l.map (plAt a b s)).take i ++ [plAt a b s l[i]] := by
      rw [List.take_add_one, List.getElem?_map, List.getElem?_eq_getElem hlt]; rfl
    have hmP : plAt a b s l[i] ∈ l.map (plAt a b s) := List.mem_map.2 ⟨_, List.getElem_mem hlt, rfl⟩
    rw [e1, plSort_snoc] at ih'
    have hS : ∀ x ∈ plSort ((l.map (plAt a b s)).take i), gpOK x = true := fun x hx => hok x ((plSort_mem x _).1 hx)
    have hL : (plSort ((l.map (plAt a b s)).take i)).length ≤ 1000 := by
      have := plSort_len ((l.map (plAt a b s)).take i) []
      rw [List.length_take, List.length_map] at this
      unfold plSort
      simp only [List.length_nil] at this
      omega
    generalize plSort ((l.map (plAt a b s)).take i) = S at ih' hS hL ⊢
    refine Ev.step (f := fun k => (spec_meAt.f k a b s l[i].f0 l[i].f1).bind fun bt => (if bt.2.2 = true then ((spec_meSorted.f k S bt.1 bt.2.1).bind fun t => (spec_MeetPlaces.l0 k t l (l.length : Int) ((i + 1 : Nat) : Int) a b s)) else (some ([], false)))) (fun k => ?_) ?_
    · simp only [spec_MeetPlaces.l0]
      rw [if_pos (by omega), if_pos (by omega), if_pos (by omega), hr, wrap_id (x := (i : Int) + 1) (by omega) (by omega)]
      rfl
    · refine Ev.bind (spec_meAt_ev _ _ _ _ _ hab ht hs0 hs1) ?_
      have hd : plAt a b s l[i] = ⟨tn ((a : Rat) / b + s * ((l[i].f0 : Rat) / l[i].f1)), td ((a : Rat) / b + s * ((l[i].f0 : Rat) / l[i].f1))⟩ := rfl
      generalize ((a : Rat) / b + s * ((l[i].f0 : Rat) / l[i].f1)) = q at hd ⊢
      have ho : gpOK (plAt a b s l[i]) = decide (td q ≤ 1000000) := by rw [hd]; exact isT_tn q
      by_cases hq : td q ≤ 1000000
      · rw [mk_of hq]
        refine Ev.pos rfl ?_
        have ho' : gpOK (plAt a b s l[i]) = true := by rw [ho]; exact decide_eq_true hq
        have ih2 := ih' (fun x hx => by
          rcases List.mem_append.1 hx with hx | hx
          · exact hok x hx
          · rw [List.mem_singleton.1 hx]; exact ho')
        rw [hd] at ih2
        rw [hd] at ho'
        exact Ev.bind (spec_meSorted_ev (tn q) (td q) ho' S hS hL) ih2
      · rw [show mk q = (0, 0, false) from if_neg hq]
        refine Ev.neg (by decide) ?_
        unfold plMid
        rw [if_neg (show ¬ ((l.map (plAt a b s)).all gpOK) = true from fun h => by have := List.all_eq_true.1 h _ hmP; rw [ho, decide_eq_true_iff] at this; exact hq this)]
        exact Ev.now _
theorem spec_MeetPlaces_ev (a b s c d t : Int) : Ev (fun k => spec_MeetPlaces.f k a b s c d t) (vPlaces a b s c d t) := by
  unfold spec_MeetPlaces.f vPlaces
  refine Ev.bind (spec_MeetTimes_ev a b s c d t) ?_
  have hl := vAheadT_len a b s c d t 0 1
  by_cases h : (vAheadT a b s c d t 0 1).2 = true
  · refine Ev.pos h ?_
    rw [if_pos h]
    obtain ⟨u1, u2⟩ := isH_speed (vAheadT_hands h).1
    exact spec_MeetPlaces_l0 _ a b s hl (isC_iff.1 (isH_iff.1 (vAheadT_hands h).1).1).1 (by omega) (by omega) (vAheadT_all h) _ 0 rfl (by omega) (fun x hx => by simp at hx)
  · refine Ev.neg h ?_
    rw [if_neg h]; exact Ev.now _

/-! laws_kTurns -/
theorem laws_kTurns_l0 (l : List S23) (hl : l.length ≤ 100000) : ∀ (n i : Nat), l.length - i = n → i ≤ l.length → Ev (fun k => laws_kTurns.l0 k l l (l.length : Int) i) true := by
  intro n
  induction n with
  | zero =>
    intro i h0 h1
    refine Ev.step (f := fun k => some true) (fun k => ?_) (Ev.now _)
    simp only [laws_kTurns.l0]; rw [if_neg (by omega)]
  | succ n ih =>
    intro i h0 h1
    refine Ev.step (f := fun k => laws_kTurns.l0 k l l (l.length : Int) ((i + 1 : Nat) : Int)) (fun k => ?_) (ih (i + 1) (by omega) (by omega))
    simp only [laws_kTurns.l0]
    rw [if_pos (by omega), if_pos (by omega), if_pos (by omega), if_pos (by omega), if_neg (by simp), wrap_id (by omega) (by omega)]
    rfl
theorem laws_kTurns_self (l : List S23) (hl : l.length ≤ 100000) : Ev (fun k => laws_kTurns.f k l l) true := by
  unfold laws_kTurns.f
  exact Ev.pos rfl (laws_kTurns_l0 l hl l.length 0 (by omega) (by omega))

/-! spec_IsHand -/
theorem spec_IsHand_ev (n d s : Int) : Ev (fun k => spec_IsHand.f k n d s) (isH n d s) := by
  unfold spec_IsHand.f
  exact Ev.bind (spec_meGood_ev n d s) (Ev.now _)

/-! laws_kAbs -/
theorem laws_kAbs_eq (x : Int) (h0 : -1000000 ≤ x) (h1 : x ≤ 1000000) : laws_kAbs.f x = some (ab x) := by
  unfold laws_kAbs.f ab
  split
  · rw [wrap_id (by omega) (by omega)]
  · rfl

/-! h_place -/
def vPlaceT (a b s c d : Int) : List S23 × Bool := if isH a b s = true then if isC c d = true then if s = 0 then ([], false) else vTimesAt ((c : Rat) / d - (a : Rat) / b) s else ([], false) else ([], false)
theorem vPlaceT_len (a b s c d : Int) : (vPlaceT a b s c d).1.length ≤ 1000 := by
  unfold vPlaceT
  split
  · rename_i h
    obtain ⟨u1, u2⟩ := isH_speed h
    split
    · split
      · simp
      · exact vTimesAt_len (by omega) (by omega)
    · simp
  · simp

/-! h_rise -/
/-! ### times that rise -/
def ltT (x y : S23) : Prop := x.f0 * y.f1 < y.f0 * x.f1
theorem lt_of_rat {p q : Rat} (h0 : 0 ≤ p) (h : p < q) (h1 : q < 1) : tn p * td q < tn q * td p := by
  have hp : fr p = p := fr_of_range h0 (by grind)
  have hq : fr q = q := fr_of_range (by grind) h1
  have e1 := tn_td p
  have e2 := tn_td q
  rw [hp] at e1
  rw [hq] at e2
  have k1 : (0 : Rat) < (td p : Rat) := cast_pos (td_pos p)
  have k2 : (0 : Rat) < (td q : Rat) := cast_pos (td_pos q)
  have h2 : (tn p : Rat) / (td p : Rat) < (tn q : Rat) / (td q : Rat) := by rw [e1, e2]; exact h
  rw [Rat.div_lt_iff k1] at h2
  have h3 := Rat.mul_lt_mul_of_pos_right h2 k2
  have nz2 : (td q : Rat) ≠ 0 := cast_ne (td_pos q)
  have h4 : (tn q : Rat) / (td q : Rat) * (td p : Rat) * (td q : Rat) = ((tn q * td p : Int) : Rat) := by
    rw [Rat.intCast_mul, Rat.div_def]
    have := Rat.inv_mul_cancel _ nz2
    grind
  rw [h4, ← Rat.intCast_mul] at h3
  exact Rat.intCast_lt_intCast.1 h3
theorem rd_el (l : List S23) (i : Nat) (h : i < l.length) : rd_T23 l (i : Int) = l[i] := by
  unfold rd_T23
  rw [Int.toNat_natCast, List.getD_eq_getElem?_getD, List.getElem?_eq_getElem h]; rfl
theorem rd_mem (l : List S23) (i : Nat) (h : i < l.length) : rd_T23 l (i : Int) ∈ l := by
  rw [rd_el l i h]; exact List.getElem_mem h
theorem rl_pair {w : Rat} {s : Int} (h0 : 0 ≤ w) (h1 : w < 1) (hs : 0 < s) (n : Nat) (hn : (n : Int) ≤ s) : (rl w s n).Pairwise ltT := by
  unfold rl
  rw [List.pairwise_map]
  refine List.Pairwise.imp_of_mem (fun {i j} hi hj hij => ?_) (List.pairwise_lt_range (n := n))
  unfold ltT pk
  have hj' := List.mem_range.1 hj
  have k := cast_pos hs
  have c1 : ((i : Int) : Rat) + 1 ≤ ((j : Int) : Rat) := by
    have := Rat.intCast_le_intCast.2 (show ((i : Int) + 1) ≤ (j : Int) by omega)
    rw [Rat.intCast_add] at this; exact this
  have c2 : ((j : Int) : Rat) + 1 ≤ (s : Rat) := by
    have := Rat.intCast_le_intCast.2 (show ((j : Int) + 1) ≤ s by omega)
    rw [Rat.intCast_add] at this; exact this
  have c3 : (0 : Rat) ≤ ((i : Int) : Rat) := by
    have := Rat.intCast_le_intCast.2 (show (0 : Int) ≤ (i : Int) by omega)
    simpa using this
  refine lt_of_rat ?_ ?_ ?_
  · rw [Rat.div_def]; exact Rat.mul_nonneg (by grind) (Rat.le_of_lt (Rat.inv_pos.2 k))
  · rw [Rat.div_def, Rat.div_def]; exact Rat.mul_lt_mul_of_pos_right (by grind) (Rat.inv_pos.2 k)
  · rw [Rat.div_lt_iff k]; grind
theorem roots_facts {w : Rat} {s : Int} (hs : 0 < s) (h0 : 0 ≤ w) (h1 : w < 1) (h : (vRoots w s).2 = true) : (vRoots w s).1.Pairwise ltT ∧ ((vRoots w s).1.length : Int) = s ∧ ∀ x ∈ (vRoots w s).1, isT x.f0 x.f1 = true ∧ fr (s * ((x.f0 : Rat) / x.f1)) = w := by
  obtain ⟨ho, he⟩ := vRoots_ok h
  rw [he]
  refine ⟨rl_pair h0 h1 hs _ (by omega), by rw [rl_length]; omega, fun x hx => ⟨?_, ?_⟩⟩
  · exact (List.all_eq_true.1 ho) x hx
  · unfold rl at hx
    obtain ⟨i, _, rfl⟩ := List.mem_map.1 hx
    unfold pk
    simp only
    rw [tn_td, fr_mul_fr]
    have nz2 := cast_ne hs
    have e : (s : Rat) * ((w + (((i : Nat) : Int) : Rat)) / (s : Rat)) = w + (((i : Nat) : Int) : Rat) := by
      rw [Rat.mul_comm]; exact Rat.div_mul_cancel nz2
    rw [e, fr_add_int]
    exact fr_of_range h0 h1
theorem times_facts {q : Rat} {s : Int} (hs : s ≠ 0) (h : (vTimesAt q s).2 = true) : (vTimesAt q s).1.Pairwise ltT ∧ ((vTimesAt q s).1.length : Int) = ab s ∧ ∀ x ∈ (vTimesAt q s).1, isT x.f0 x.f1 = true ∧ fr (s * ((x.f0 : Rat) / x.f1)) = fr q := by
  unfold vTimesAt at h ⊢
  unfold ab
  split at h
  · rename_i hn
    rw [if_pos hn, if_pos hn]
    obtain ⟨h1, h2, h3⟩ := roots_facts (show 0 < -s by omega) (fr_nonneg _) (fr_lt _) h
    refine ⟨h1, h2, fun x hx => ⟨(h3 x hx).1, ?_⟩⟩
    have e := (h3 x hx).2
    have e2 : fr (-(fr (((-s : Int) : Rat) * ((x.f0 : Rat) / x.f1)))) = fr (-(fr (-q))) := by rw [e]
    rw [fr_neg_fr, fr_neg_fr, Rat.intCast_neg] at e2
    rw [show -(-q) = q by grind, show -(-(s : Rat) * ((x.f0 : Rat) / x.f1)) = (s : Rat) * ((x.f0 : Rat) / x.f1) by grind] at e2
    exact e2
  · rename_i hn
    rw [if_neg hn, if_neg hn]
    exact roots_facts (show 0 < s by omega) (fr_nonneg _) (fr_lt _) h
theorem ahT_facts {a b s c d t m n : Int} (h : (vAheadT a b s c d t m n).2 = true) : (isH a b s = true ∧ isH c d t = true) ∧ (vAheadT a b s c d t m n).1.Pairwise ltT ∧ ((vAheadT a b s c d t m n).1.length : Int) = ab (s - t) ∧ ∀ x ∈ (vAheadT a b s c d t m n).1, isT x.f0 x.f1 = true ∧ fr (((s - t : Int) : Rat) * ((x.f0 : Rat) / x.f1)) = fr ((m : Rat) / n - fr ((a : Rat) / b - (c : Rat) / d)) := by
  refine ⟨vAheadT_hands h, ?_⟩
  unfold vAheadT at h ⊢
  split at h
  · rename_i e
    rw [if_pos e]
    unfold vAsked at e
    simp only [Bool.and_eq_true, bne_iff_ne, ne_eq] at e
    exact times_facts (by omega) h
  · cases h
theorem place_facts {a b s c d : Int} (h : (vPlaceT a b s c d).2 = true) : (isH a b s = true ∧ isC c d = true) ∧ (vPlaceT a b s c d).1.Pairwise ltT ∧ ((vPlaceT a b s c d).1.length : Int) = ab s ∧ ∀ x ∈ (vPlaceT a b s c d).1, isT x.f0 x.f1 = true ∧ fr (s * ((x.f0 : Rat) / x.f1)) = fr ((c : Rat) / d - (a : Rat) / b) := by
  unfold vPlaceT at h ⊢
  split at h
  · rename_i e1
    split at h
    · rename_i e2
      split at h
      · cases h
      · rename_i e3
        rw [if_pos e1, if_pos e2, if_neg e3]
        exact ⟨⟨e1, e2⟩, times_facts e3 h⟩
    · cases h
  · cases h
theorem mk_turn {m n : Int} (h : isT m n = true) : mk ((m : Rat) / n) = (m, n, true) := by
  obtain ⟨e1, e2⟩ := isT_canon h
  have := isT_iff.1 h
  unfold mk
  rw [e1, e2, if_pos (by omega)]
/-- what is ahead then -/
theorem fr_back (D S M : Rat) (h : fr S = fr (M - fr D)) : fr (D + S) = fr M := by
  rw [← fr_add_fr, h, fr_add_fr]
  obtain ⟨z, hz⟩ := fr_exists D
  exact fr_eq_of _ _ z (by rw (occs := .pos [1]) [hz]; grind)
theorem ahead_back {a b s c d t m n u v : Int} (h1 : isH a b s = true) (h2 : isH c d t = true) (hx : isT u v = true) (hm : isT m n = true) (e : fr (((s - t : Int) : Rat) * ((u : Rat) / v)) = fr ((m : Rat) / n - fr ((a : Rat) / b - (c : Rat) / d))) : vAheadAt a b s c d t u v = (m, n, true) := by
  unfold vAheadAt
  rw [h1, h2, if_pos (by decide), if_pos hx, mk_of_fr (fr_back _ _ _ e), mk_turn hm]
theorem ahead_half {a b s c d t u v : Int} (h1 : isH a b s = true) (h2 : isH c d t = true) (hx : isT u v = true) (e : fr (((s - t : Int) : Rat) * ((u : Rat) / v)) = fr (((1 : Int) : Rat) / ((2 : Int) : Rat) - fr ((a : Rat) / b - (c : Rat) / d))) : vAheadAt c d t a b s u v = (1, 2, true) := by
  unfold vAheadAt
  rw [h1, h2, if_pos (by decide), if_pos hx, ← mk_turn (show isT 1 2 = true by decide)]
  refine mk_of_fr ?_
  have k := fr_back _ _ _ e
  have k2 : fr (-(fr ((a : Rat) / b - (c : Rat) / d + ((s - t : Int) : Rat) * ((u : Rat) / v)))) = fr (-(fr (((1 : Int) : Rat) / ((2 : Int) : Rat)))) := by rw [k]
  rw [fr_neg_fr, fr_neg_fr] at k2
  have k3 : (c : Rat) / d - (a : Rat) / b + ((t - s : Int) : Rat) * ((u : Rat) / v) = -((a : Rat) / b - (c : Rat) / d + ((s - t : Int) : Rat) * ((u : Rat) / v)) := by
    rw [Rat.intCast_sub, Rat.intCast_sub]; grind
  rw [k3, k2]
  exact fr_eq_of _ _ (-1) (by
    have e1 : ((1 : Int) : Rat) = 1 := rfl
    have e2 : ((2 : Int) : Rat) = 2 := rfl
    have e3 : ((-1 : Int) : Rat) = -1 := rfl
    rw [e1, e2, e3]; grind)
theorem hand_back {a b s c d u v : Int} (h1 : isH a b s = true) (h2 : isT c d = true) (hx : isT u v = true) (e : fr (s * ((u : Rat) / v)) = fr ((c : Rat) / d - (a : Rat) / b)) : vHandAt a b s u v = (c, d, true) := by
  unfold vHandAt
  rw [if_pos h1, if_pos hx, ← mk_turn h2]
  refine mk_of_fr ?_
  rw [← fr_add_fr, e, fr_add_fr]
  congr 1; grind

/-! laws_kRises -/
theorem laws_kRises_l0 (l : List S23) (hl : l.length ≤ 100000) (hp : l.Pairwise ltT) (hT : ∀ x ∈ l, isT x.f0 x.f1 = true) : ∀ (n i : Nat), l.length - i = n → 1 ≤ i → Ev (fun k => laws_kRises.l0 k l i) true := by
  intro n
  induction n with
  | zero =>
    intro i h0 h1
    refine Ev.step (f := fun k => some true) (fun k => ?_) (Ev.now _)
    simp only [laws_kRises.l0]; rw [if_neg (by omega)]
  | succ n ih =>
    intro i h0 h1
    refine Ev.step (f := fun k => laws_kRises.l0 k l ((i + 1 : Nat) : Int)) (fun k => ?_) (ih (i + 1) (by omega) (by omega))
    simp only [laws_kRises.l0]
    have e1 : wrap64 ((i : Int) - 1) = ((i - 1 : Nat) : Int) := by rw [wrap_id (by omega) (by omega)]; omega
    have e2 := (List.pairwise_iff_getElem.1 hp) (i - 1) i (by omega) (by omega) (by omega)
    have t1 := isT_iff.1 (hT _ (rd_mem l (i - 1) (by omega)))
    have t2 := isT_iff.1 (hT _ (rd_mem l i (by omega)))
    rw [← rd_el l (i - 1) (by omega), ← rd_el l i (by omega)] at e2
    unfold ltT at e2
    have b1 := mul_bound (a := (rd_T23 l ((i - 1 : Nat) : Int)).f0) (b := (rd_T23 l (i : Int)).f1) (A := 1000000) (B := 1000000) (by omega) (by omega) (by omega) (by omega)
    have b2 := mul_bound (a := (rd_T23 l (i : Int)).f0) (b := (rd_T23 l ((i - 1 : Nat) : Int)).f1) (A := 1000000) (B := 1000000) (by omega) (by omega) (by omega) (by omega)
    rw [e1, if_pos (by omega), if_pos (by omega), if_pos (by omega), if_pos (by omega), wrap_id (by omega) (by omega), wrap_id (by omega) (by omega), if_neg (by omega), wrap_id (by omega) (by omega)]
    rfl
theorem laws_kRises_ev (l : List S23) (hl : l.length ≤ 100000) (hp : l.Pairwise ltT) (hT : ∀ x ∈ l, isT x.f0 x.f1 = true) : Ev (fun k => laws_kRises.f k l) true := by
  unfold laws_kRises.f
  exact laws_kRises_l0 l hl hp hT _ 1 rfl (by omega)

/-! impl_ifTurn -/
theorem impl_ifTurn_ev (n d : Int) : Ev (fun k => impl_ifTurn.f k n d) (if isT n d = true then (n, d, true) else (0, 0, false)) := by
  unfold impl_ifTurn.f
  refine Ev.bind (impl_IsTurn_ev n d) ?_
  split <;> exact Ev.now _
theorem impl_ifTurn_mk (q : Rat) : Ev (fun k => impl_ifTurn.f k (tn q) (td q)) (mk q) := by
  refine Ev.val (impl_ifTurn_ev _ _) ?_
  unfold mk
  rw [isT_tn]
  simp

/-! impl_HandAt -/
theorem impl_HandAt_ev (a b s c d : Int) : Ev (fun k => impl_HandAt.f k a b s c d) (vHandAt a b s c d) := by
  unfold impl_HandAt.f vHandAt
  have no : Ev (fun k => impl_HandAt.j0 k true a b s c d) (0, 0, false) := by
    refine Ev.step (f := fun _ => some (0, 0, false)) (fun k => ?_) (Ev.now _)
    simp only [impl_HandAt.j0]; rfl
  refine Ev.bind (impl_IsHand_ev a b s) ?_
  cases h1 : isH a b s
  · exact Ev.neg (by decide) no
  refine Ev.pos rfl ?_
  refine Ev.bind (impl_IsTurn_ev c d) ?_
  cases h2 : isT c d
  · exact no
  have ht := (isC_iff.1 (isH_iff.1 h1).1).1
  obtain ⟨s1, s2⟩ := isH_speed h1
  refine Ev.step (f := fun k => (impl_Hand_at.f k a b s c d).bind fun bt => ((impl_ifTurn.f k bt.1 bt.2).bind fun bt => (some (bt.1, bt.2.1, bt.2.2)))) (fun k => ?_) ?_
  · simp only [impl_HandAt.j0]; simp
  refine Ev.bind (impl_Hand_at_T a b s c d ht h2 (by omega) (by omega)) ?_
  exact Ev.bind (impl_ifTurn_mk _) (Ev.now _)

/-! laws_kIn -/
def inT (l : List S23) (a b : Int) : Bool := l.any fun x => x.f0 == a && x.f1 == b
theorem laws_kIn_l0 (l : List S23) (hl : l.length ≤ 100000) (a b : Int) : ∀ (n i : Nat), l.length - i = n → i ≤ l.length → Ev (fun k => laws_kIn.l0 k l (l.length : Int) i a b) (inT (l.drop i) a b) := by
  intro n
  induction n with
  | zero =>
    intro i h0 h1
    refine Ev.step (f := fun k => some false) (fun k => ?_) (Ev.val (Ev.now _) ?_)
    · simp only [laws_kIn.l0]; rw [if_neg (by omega)]
    · rw [List.drop_eq_nil_of_le (by omega)]; rfl
  | succ n ih =>
    intro i h0 h1
    have e : inT (l.drop i) a b = (((rd_T23 l (i : Int)).f0 == a && (rd_T23 l (i : Int)).f1 == b) || inT (l.drop (i + 1)) a b) := by
      rw [rd_el l i (by omega), List.drop_eq_getElem_cons (by omega : i < l.length)]
      unfold inT
      rw [List.any_cons]
    by_cases hx : ((rd_T23 l (i : Int)).f0 == a && (rd_T23 l (i : Int)).f1 == b) = true
    · refine Ev.step (f := fun k => some true) (fun k => ?_) (Ev.val (Ev.now _) (by rw [e, hx]; rfl))
      simp only [laws_kIn.l0]
      rw [if_pos (by omega), if_pos (by omega), if_pos (by omega), if_pos hx]
    · refine Ev.step (f := fun k => laws_kIn.l0 k l (l.length : Int) ((i + 1 : Nat) : Int) a b) (fun k => ?_) (Ev.val (ih (i + 1) (by omega) (by omega)) (by rw [e, Bool.eq_false_iff.mpr hx]; rfl))
      simp only [laws_kIn.l0]
      rw [if_pos (by omega), if_pos (by omega), if_pos (by omega), if_neg hx, wrap_id (by omega) (by omega)]
      rfl
theorem laws_kIn_ev (l : List S23) (hl : l.length ≤ 100000) (a b : Int) : Ev (fun k => laws_kIn.f k l a b) (inT l a b) := by
  unfold laws_kIn.f
  exact laws_kIn_l0 l hl a b _ 0 rfl (by omega)

/-! cmp_isNaN_int -/
theorem cmp_isNaN_int_eq (a : Int) : cmp_isNaN_int.f a = some false := by unfold cmp_isNaN_int.f; simp

/-! cmp_Compare_int -/
theorem cmp_Compare_int_eq (a b : Int) : cmp_Compare_int.f a b = some (sg (a - b)) := by
  unfold cmp_Compare_int.f sg
  simp only [cmp_isNaN_int_eq, Option.bind_some, Bool.false_eq_true, if_false]
  by_cases h : a < b
  · rw [if_pos h, if_neg (by omega), if_pos (by omega)]
  · rw [if_neg h]
    by_cases h2 : a > b
    · rw [if_pos h2, if_pos (by omega)]
    · rw [if_neg h2, if_neg (by omega), if_neg (by omega)]

/-! impl_Turn_compare -/
theorem impl_Turn_compare_eq (a b c d : Int) (ha : isT a b = true) (hc : isT c d = true) : impl_Turn_compare.f a b c d = some (sg (a * d - c * b)) := by
  obtain ⟨p1, p2, p3, p4, _⟩ := isT_iff.1 ha
  obtain ⟨r1, r2, r3, r4, _⟩ := isT_iff.1 hc
  have m1 := mul_bound (a := a) (b := d) (A := 1000000) (B := 1000000) (by omega) (by omega) (by omega) (by omega)
  have m2 := mul_bound (a := c) (b := b) (A := 1000000) (B := 1000000) (by omega) (by omega) (by omega) (by omega)
  unfold impl_Turn_compare.f
  rw [wrap_id (x := a * d) (by omega) (by omega), wrap_id (x := c * b) (by omega) (by omega)]
  simp only [cmp_Compare_int_eq, Option.bind_some]

/-! impl_NextMeet_ix -/
theorem impl_NextMeet_ix_g (m n : Int) (hmn : isT m n = true) : ∀ (l : List S23) (i : Int), (l.all fun x => isT x.f0 x.f1) = true → impl_NextMeet_ix.g l m n i = some (nxG l m n i)
  | [], _, _ => rfl
  | x :: xs, i, h => by
    simp only [List.all_cons, Bool.and_eq_true] at h
    unfold impl_NextMeet_ix.g nxG
    rw [impl_Turn_compare_eq _ _ _ _ h.1 hmn]
    simp only [Option.bind_some]
    split
    · rfl
    · exact impl_NextMeet_ix_g m n hmn xs (i + 1) h.2

/-! impl_NextMeet -/
theorem impl_NextMeet_ev (a b s c d t m n : Int) : Ev (fun k => impl_NextMeet.f k a b s c d t m n) (vNext a b s c d t m n) := by
  unfold impl_NextMeet.f vNext
  refine Ev.bind (impl_MeetTimes_ev a b s c d t) ?_
  have hl := vAheadT_len a b s c d t 0 1
  by_cases h : (vAheadT a b s c d t 0 1).2 = true
  · refine Ev.pos h ?_
    rw [if_pos h]
    refine Ev.bind (impl_IsTurn_ev m n) ?_
    cases h2 : isT m n
    · exact Ev.neg (by decide) (Ev.now _)
    refine Ev.pos rfl ?_
    have hp := vAheadT_pos h
    have ha := vAheadT_all h
    generalize (vAheadT a b s c d t 0 1).1 = l at hl hp ha
    have e : impl_NextMeet_ix.f l m n = some (nxG l m n 0) := by
      unfold impl_NextMeet_ix.f
      rw [if_pos (by omega)]
      exact impl_NextMeet_ix_g m n h2 l 0 ha
    obtain ⟨h3, h4⟩ := mx_nx l m n hp
    rw [e]
    simp only [Option.bind_some, if_true]
    exact Ev.pos h3 (Ev.pos h4 (Ev.now _))
  · refine Ev.neg h ?_
    rw [if_neg h]; exact Ev.now _

/-! spec_NextMeet -/
theorem spec_NextMeet_l0 (l : List S23) (m n : Int) (hmn : isT m n = true) (ha : (l.all fun x => isT x.f0 x.f1) = true) (hp : 0 < (l.length : Int)) (hl : l.length ≤ 1000) : ∀ (j i : Nat), l.length - i = j → i ≤ l.length →
    Ev (fun k => spec_NextMeet.l0 k l l (l.length : Int) i m n) ((rd_T23 l (mx (nxG (l.drop i) m n i) 0)).f0, (rd_T23 l (mx (nxG (l.drop i) m n i) 0)).f1, true) := by
  intro j
  induction j with
  | zero =>
    intro i h0 h1
    have hi : i = l.length := by omega
    refine Ev.step (f := fun k => some ((rd_T23 l 0).f0, (rd_T23 l 0).f1, true)) (fun k => ?_) ?_
    · simp only [spec_NextMeet.l0]; rw [if_neg (by omega), if_pos hp]
    · rw [hi, List.drop_length]
      exact Ev.now _
  | succ j ih =>
    intro i h0 h1
    have hlt : i < l.length := by omega
    have e1 : rd_T23 l (i : Int) = l[i] := by
      unfold rd_T23
      rw [show ((i : Int)).toNat = i by omega, List.getD_eq_getElem?_getD, List.getElem?_eq_getElem hlt]; rfl
    have hx : isT l[i].f0 l[i].f1 = true := List.all_eq_true.1 ha _ (List.getElem_mem hlt)
    rw [List.drop_eq_getElem_cons hlt]
    unfold nxG
    by_cases hc : sg (l[i].f0 * n - m * l[i].f1) > 0
    · rw [if_pos hc]
      refine Ev.step (f := fun k => some (l[i].f0, l[i].f1, true)) (fun k => ?_) ?_
      · simp only [spec_NextMeet.l0]
        rw [if_pos (by omega), if_pos (by omega), if_pos (by omega), e1, spec_diCompare_eq _ _ _ _ hx hmn]
        simp only [Option.bind_some]
        rw [if_pos hc]
      · rw [show mx (i : Int) 0 = i by unfold mx; rw [if_neg (by omega)], e1]
        exact Ev.now _
    · rw [if_neg hc]
      refine Ev.step (f := fun k => spec_NextMeet.l0 k l l (l.length : Int) ((i + 1 : Nat) : Int) m n) (fun k => ?_) (ih (i + 1) (by omega) (by omega))
      simp only [spec_NextMeet.l0]
      rw [if_pos (by omega), if_pos (by omega), if_pos (by omega), e1, spec_diCompare_eq _ _ _ _ hx hmn]
      simp only [Option.bind_some]
      rw [if_neg hc, wrap_id (by omega) (by omega)]
      rfl
theorem spec_NextMeet_ev (a b s c d t m n : Int) : Ev (fun k => spec_NextMeet.f k a b s c d t m n) (vNext a b s c d t m n) := by
  unfold spec_NextMeet.f vNext
  have no : ∀ l, Ev (fun k => spec_NextMeet.j0 k l true m n) (0, 0, false) := fun l => by
    refine Ev.step (f := fun _ => some (0, 0, false)) (fun k => ?_) (Ev.now _)
    simp only [spec_NextMeet.j0]; rfl
  refine Ev.bind (spec_MeetTimes_ev a b s c d t) ?_
  have hl := vAheadT_len a b s c d t 0 1
  by_cases h : (vAheadT a b s c d t 0 1).2 = true
  · refine Ev.pos h ?_
    rw [if_pos h]
    refine Ev.bind (spec_diGood_ev m n) ?_
    cases h2 : isT m n
    · exact no _
    have hp := vAheadT_pos h
    have ha := vAheadT_all h
    generalize (vAheadT a b s c d t 0 1).1 = l at hl hp ha
    refine Ev.step (f := fun k => spec_NextMeet.l0 k l l (l.length : Int) 0 m n) (fun k => ?_) ?_
    · simp only [spec_NextMeet.j0]; rfl
    · exact spec_NextMeet_l0 l m n h2 ha hp (by omega) l.length 0 (by omega) (by omega)
  · refine Ev.neg h ?_
    rw [if_neg h]; exact no _

/-! h_meet -/
/-! ### meetings, all in one -/
theorem sg_pos (x : Int) : sg x > 0 ↔ x > 0 := by unfold sg; split <;> (try split) <;> omega
theorem nx_skip (m n : Int) : ∀ (pre suf : List S23) (j : Int), (∀ y ∈ pre, ¬ sg (y.f0 * n - m * y.f1) > 0) → nxG (pre ++ suf) m n j = nxG suf m n (j + pre.length)
  | [], suf, j, _ => by simp
  | x :: xs, suf, j, h => by
    have e : nxG (x :: (xs ++ suf)) m n j = nxG (xs ++ suf) m n (j + 1) := if_neg (h x List.mem_cons_self)
    rw [List.cons_append, e, nx_skip m n xs suf (j + 1) (fun y hy => h y (List.mem_cons_of_mem _ hy))]
    congr 1
    simp only [List.length_cons]; omega
theorem nx_none (m n : Int) : ∀ (l : List S23) (j : Int), (∀ y ∈ l, ¬ sg (y.f0 * n - m * y.f1) > 0) → nxG l m n j = -1
  | [], _, _ => rfl
  | x :: xs, j, h => by
    unfold nxG
    rw [if_neg (h x List.mem_cons_self)]
    exact nx_none m n xs _ (fun y hy => h y (List.mem_cons_of_mem _ hy))
/-- the first that is greater -/
theorem nx_first (m n : Int) : ∀ (l : List S23) (j : Int), (∃ y ∈ l, sg (y.f0 * n - m * y.f1) > 0) → ∃ i : Nat, ∃ h : i < l.length, nxG l m n j = j + i ∧ sg (l[i].f0 * n - m * l[i].f1) > 0 ∧ ∀ q : Nat, ∀ hq : q < i, ¬ sg (l[q].f0 * n - m * l[q].f1) > 0
  | [], _, h => by obtain ⟨y, hy, _⟩ := h; simp at hy
  | x :: xs, j, h => by
    by_cases c : sg (x.f0 * n - m * x.f1) > 0
    · refine ⟨0, by simp, ?_, c, fun q hq => by omega⟩
      unfold nxG; rw [if_pos c]; simp
    · obtain ⟨y, hy, hc⟩ := h
      have hy' : y ∈ xs := by
        rcases List.mem_cons.1 hy with e | e
        · subst e; exact (c hc).elim
        · exact e
      obtain ⟨i, hi, e1, e2, e3⟩ := nx_first m n xs (j + 1) ⟨y, hy', hc⟩
      refine ⟨i + 1, by simpa using hi, ?_, by simpa using e2, fun q hq => ?_⟩
      · unfold nxG; rw [if_neg c, e1]; omega
      · cases q with
        | zero => simpa using c
        | succ q => simpa using e3 q (by omega)
theorem nx_at (l : List S23) (hp : l.Pairwise ltT) (i : Nat) (hi : i < l.length) : nxG l l[i].f0 l[i].f1 0 = if i + 1 < l.length then ((i + 1 : Nat) : Int) else -1 := by
  have pw := List.pairwise_iff_getElem.1 hp
  have le : ∀ q : Nat, ∀ hq : q < l.length, q ≤ i → ¬ sg (l[q].f0 * l[i].f1 - l[i].f0 * l[q].f1) > 0 := by
    intro q hq hqi
    rw [sg_pos]
    by_cases e : q = i
    · subst e; omega
    · have := pw q i hq hi (by omega)
      unfold ltT at this; omega
  by_cases h : i + 1 < l.length
  · rw [if_pos h]
    have g : sg (l[i + 1].f0 * l[i].f1 - l[i].f0 * l[i + 1].f1) > 0 := by
      rw [sg_pos]; have := pw i (i + 1) hi h (by omega); unfold ltT at this; omega
    obtain ⟨j, hj, e1, e2, e3⟩ := nx_first l[i].f0 l[i].f1 l 0 ⟨l[i + 1], List.getElem_mem h, g⟩
    rw [e1]
    by_cases c : j ≤ i
    · exact (le j hj c e2).elim
    · by_cases c2 : i + 1 < j
      · exact (e3 (i + 1) c2 g).elim
      · omega
  · rw [if_neg h]
    refine nx_none _ _ _ _ (fun y hy => ?_)
    obtain ⟨q, hq, rfl⟩ := List.getElem_of_mem hy
    exact le q hq (by omega)
/-- the two hands stand in one place then -/
theorem meet_same {a b s c d t u v : Int} (h1 : isH a b s = true) (h2 : isH c d t = true) (hx : isT u v = true) (e : fr (((s - t : Int) : Rat) * ((u : Rat) / v)) = fr (((0 : Int) : Rat) / ((1 : Int) : Rat) - fr ((a : Rat) / b - (c : Rat) / d))) : vHandAt a b s u v = mk ((a : Rat) / b + s * ((u : Rat) / v)) ∧ vHandAt c d t u v = mk ((a : Rat) / b + s * ((u : Rat) / v)) := by
  unfold vHandAt
  rw [if_pos h1, if_pos h2, if_pos hx, if_pos hx]
  refine ⟨rfl, mk_of_fr ?_⟩
  have k := fr_back _ _ _ e
  have z : (((0 : Int) : Rat) / ((1 : Int) : Rat)) = 0 := by have : ((0 : Int) : Rat) = 0 := rfl; rw [this]; grind
  rw [z] at k
  have k0 : fr (0 : Rat) = 0 := fr_of_range (by grind) (by grind)
  rw [k0] at k
  have e3 : (a : Rat) / b - (c : Rat) / d + ((s - t : Int) : Rat) * ((u : Rat) / v) = ((a : Rat) / b + s * ((u : Rat) / v)) - ((c : Rat) / d + t * ((u : Rat) / v)) := by rw [Rat.intCast_sub]; grind
  rw [e3] at k
  exact ((fr_zero_iff _ _).2 k).symm
/-- the meetings of the two the other way round -/
theorem meet_back {a b s c d t : Int} (h : (vAheadT a b s c d t 0 1).2 = true) : vAheadT c d t a b s 0 1 = vAheadT a b s c d t 0 1 := by
  have hA : vAsked a b s c d t = true := by
    unfold vAheadT at h; split at h
    · assumption
    · cases h
  have hB : vAsked c d t a b s = true := by
    unfold vAsked at hA ⊢
    simp only [Bool.and_eq_true, bne_iff_ne, ne_eq] at hA ⊢
    exact ⟨⟨hA.1.2, hA.1.1⟩, fun e => hA.2 e.symm⟩
  have hne : s ≠ t := by
    unfold vAsked at hA; simp only [Bool.and_eq_true, bne_iff_ne, ne_eq] at hA; exact hA.2
  unfold vAheadT vTimesAt
  rw [if_pos hA, if_pos hB]
  have z : (((0 : Int) : Rat) / ((1 : Int) : Rat)) = 0 := by have : ((0 : Int) : Rat) = 0 := rfl; rw [this]; grind
  have g : ∀ p q : Rat, fr (-(0 - fr (p - q))) = fr (0 - fr (q - p)) := by
    intro p q
    rw [show -(0 - fr (p - q)) = fr (p - q) by grind, show (0 : Rat) - fr (q - p) = -fr (q - p) by grind, fr_neg_fr, show -(q - p) = p - q by grind]
    have := fr_fr_add (p - q) 0
    rw [show fr (p - q) + 0 = fr (p - q) by grind, show p - q + 0 = p - q by grind] at this
    exact this
  rw [z]
  by_cases c1 : s - t < 0
  · rw [if_pos c1, if_neg (by omega), g, show -(s - t) = t - s by omega]
  · rw [if_neg c1, if_pos (by omega), g, show -(t - s) = s - t by omega]
theorem mx_neg (l : List S23) (m n : Int) (h : nxG l m n 0 = -1) : mx (nxG l m n 0) 0 = 0 := by rw [h]; rfl

/-! laws_FnHandsMeetOfAll -/
theorem hm_l1 (later : Bool) (L : List S23) (hl : L.length ≤ 100000) (hT : ∀ x ∈ L, isT x.f0 x.f1 = true) (t0 t1 m0 m1 : Int) (ht : isT t0 t1 = true) (hm : isT m0 m1 = true) (hC : ∀ x ∈ L, x.f0 * t1 > t0 * x.f1 → later = true ∧ ¬ x.f0 * m1 < m0 * x.f1) : ∀ (n i : Nat), L.length - i = n → Ev (fun k => laws_FnHandsMeetOfAll.l1 k later L (L.length : Int) i t0 t1 m0 m1) true := by
  intro n
  obtain ⟨p1, p2, p3, p4, _⟩ := isT_iff.1 ht
  obtain ⟨r1, r2, r3, r4, _⟩ := isT_iff.1 hm
  induction n with
  | zero =>
    intro i h0
    refine Ev.step (f := fun k => some true) (fun k => ?_) (Ev.now _)
    simp only [laws_FnHandsMeetOfAll.l1]; rw [if_neg (by omega)]
  | succ n ih =>
    intro i h0
    have next := ih (i + 1) (by omega)
    have mem := rd_mem L i (by omega)
    obtain ⟨x1, x2, x3, x4, _⟩ := isT_iff.1 (hT _ mem)
    have c := hC _ mem
    refine Ev.step (f := fun k => laws_FnHandsMeetOfAll.l1 (k + 1) later L (L.length : Int) i t0 t1 m0 m1) (fun k => rfl) ?_
    simp only [laws_FnHandsMeetOfAll.l1]
    generalize rd_T23 L (i : Int) = x at *
    have b1 := mul_bound (a := x.f0) (b := t1) (A := 1000000) (B := 1000000) (by omega) (by omega) (by omega) (by omega)
    have b2 := mul_bound (a := t0) (b := x.f1) (A := 1000000) (B := 1000000) (by omega) (by omega) (by omega) (by omega)
    have b3 := mul_bound (a := x.f0) (b := m1) (A := 1000000) (B := 1000000) (by omega) (by omega) (by omega) (by omega)
    have b4 := mul_bound (a := m0) (b := x.f1) (A := 1000000) (B := 1000000) (by omega) (by omega) (by omega) (by omega)
    rw [wrap_id (x := x.f0 * t1) (by omega) (by omega), wrap_id (x := t0 * x.f1) (by omega) (by omega), wrap_id (x := x.f0 * m1) (by omega) (by omega), wrap_id (x := m0 * x.f1) (by omega) (by omega), wrap_id (x := (i : Int) + 1) (by omega) (by omega)]
    refine Ev.pos (by omega) (Ev.pos (by omega) (Ev.pos (by omega) ?_))
    by_cases g : x.f0 * t1 > t0 * x.f1
    · obtain ⟨c1, c2⟩ := c g
      exact Ev.pos g (Ev.pos c1 (Ev.neg c2 next))
    · exact Ev.neg g next
theorem hm_j5 (c0 c1 c2 d0 d1 d2 t0 t1 : Int) : Ev (fun k => laws_FnHandsMeetOfAll.j5 k false c0 c1 c2 d0 d1 d2 t0 t1) true := by
  refine Ev.step (f := fun k => laws_FnHandsMeetOfAll.j5 (k + 1) false c0 c1 c2 d0 d1 d2 t0 t1) (fun k => rfl) ?_
  simp only [laws_FnHandsMeetOfAll.j5, Bool.false_eq_true, if_false]
  refine Ev.bind (impl_NextMeet_ev c0 c1 c2 d0 d1 d2 t0 t1) (Ev.bind (spec_NextMeet_ev c0 c1 c2 d0 d1 d2 t0 t1) ?_)
  simp only [bne_self_eq_false, beq_self_eq_true, Bool.not_true, Bool.or_self, Bool.false_eq_true, if_false]
  refine Ev.step (f := fun k => laws_FnHandsMeetOfAll.j6 (k + 1) (vNext c0 c1 c2 d0 d1 d2 t0 t1).2.2 false c0 c1 c2 d0 d1 d2 t0 t1 (vNext c0 c1 c2 d0 d1 d2 t0 t1).1 (vNext c0 c1 c2 d0 d1 d2 t0 t1).2.1) (fun k => rfl) ?_
  simp only [laws_FnHandsMeetOfAll.j6, Bool.false_eq_true, if_false]
  by_cases h : (vNext c0 c1 c2 d0 d1 d2 t0 t1).2.2 = true
  · refine Ev.pos h ?_
    have hv : (vAheadT c0 c1 c2 d0 d1 d2 0 1).2 = true ∧ isT t0 t1 = true ∧ vNext c0 c1 c2 d0 d1 d2 t0 t1 = nxP (vAheadT c0 c1 c2 d0 d1 d2 0 1).1 t0 t1 := by
      unfold vNext at h ⊢
      split at h
      · rename_i e1
        split at h
        · rename_i e2
          exact ⟨e1, e2, by rw [if_pos e1, if_pos e2]⟩
        · cases h
      · cases h
    obtain ⟨h1, h2, h3⟩ := hv
    rw [h3]
    refine Ev.bind (impl_MeetTimes_ev c0 c1 c2 d0 d1 d2) (Ev.pos h1 ?_)
    obtain ⟨_, hp, hn, hx⟩ := ahT_facts h1
    have hlen := vAheadT_len c0 c1 c2 d0 d1 d2 0 1
    have hpos := vAheadT_pos h1
    generalize (vAheadT c0 c1 c2 d0 d1 d2 0 1).1 = L at *
    obtain ⟨m1, m2⟩ := mx_nx L t0 t1 hpos
    have key : ∃ j : Nat, ∃ hj : j < L.length, mx (nxG L t0 t1 0) 0 = (j : Int) := ⟨(mx (nxG L t0 t1 0) 0).toNat, by omega, by omega⟩
    obtain ⟨j, hj, ej⟩ := key
    have eP : nxP L t0 t1 = ((rd_T23 L (j : Int)).f0, (rd_T23 L (j : Int)).f1, true) := by unfold nxP; rw [ej]
    rw [eP]
    have mem := rd_mem L j hj
    refine Ev.bind (laws_kIn_ev L (by omega) _ _) ?_
    have hin : inT L (rd_T23 L (j : Int)).f0 (rd_T23 L (j : Int)).f1 = true := by
      unfold inT; rw [List.any_eq_true]; exact ⟨_, mem, by simp⟩
    rw [hin]
    refine Ev.step (f := fun k => laws_FnHandsMeetOfAll.j7 (k + 1) L (!true) t0 t1 (rd_T23 L (j : Int)).f0 (rd_T23 L (j : Int)).f1) (fun k => rfl) ?_
    simp only [laws_FnHandsMeetOfAll.j7, Bool.not_true, Bool.false_eq_true, if_false]
    have hTj := (hx _ mem).1
    obtain ⟨p1, p2, p3, p4, _⟩ := isT_iff.1 h2
    obtain ⟨x1, x2, x3, x4, _⟩ := isT_iff.1 hTj
    refine hm_l1 _ L (by omega) (fun x m => (hx x m).1) t0 t1 _ _ h2 hTj (fun x m g => ?_) _ 0 rfl
    have b1 := mul_bound (a := (rd_T23 L (j : Int)).f0) (b := t1) (A := 1000000) (B := 1000000) (by omega) (by omega) (by omega) (by omega)
    have b2 := mul_bound (a := t0) (b := (rd_T23 L (j : Int)).f1) (A := 1000000) (B := 1000000) (by omega) (by omega) (by omega) (by omega)
    rw [wrap_id (by omega) (by omega), wrap_id (by omega) (by omega)]
    obtain ⟨i, hi, e1, e2, e3⟩ := nx_first t0 t1 L 0 ⟨x, m, by rw [sg_pos]; omega⟩
    have eij : i = j := by
      rw [e1] at ej
      unfold mx at ej
      split at ej <;> omega
    subst eij
    rw [rd_el L i hi]
    rw [sg_pos] at e2
    refine ⟨decide_eq_true (by omega), ?_⟩
    obtain ⟨q, hq, rfl⟩ := List.getElem_of_mem m
    by_cases c1 : q < i
    · exact (e3 q c1 (by rw [sg_pos]; omega)).elim
    · by_cases c2 : q = i
      · subst c2; omega
      · have := (List.pairwise_iff_getElem.1 hp) i q hi hq (by omega)
        unfold ltT at this; omega
  · exact Ev.neg h (Ev.now _)
theorem hm_j4 (cnt : Int) (P : List S23) (five : Bool) (c0 c1 c2 d0 d1 d2 t0 t1 : Int) (hP : five = true → P.Pairwise ltT ∧ (∀ x ∈ P, isT x.f0 x.f1 = true) ∧ P.length ≤ 100000 ∧ 1 ≤ (P.length : Int) ∧ (P.length : Int) ≤ cnt) : Ev (fun k => laws_FnHandsMeetOfAll.j4 k cnt P five c0 c1 c2 d0 d1 d2 t0 t1) true := by
  refine Ev.step (f := fun k => laws_FnHandsMeetOfAll.j4 (k + 1) cnt P five c0 c1 c2 d0 d1 d2 t0 t1) (fun k => rfl) ?_
  simp only [laws_FnHandsMeetOfAll.j4]
  by_cases h : five = true
  · obtain ⟨p1, p2, p3, p4, p5⟩ := hP h
    refine Ev.pos h (Ev.bind (laws_kRises_ev P p3 p1 p2) (Ev.pos rfl (Ev.neg (by omega) ?_)))
    rw [decide_eq_false (by omega)]
    exact hm_j5 c0 c1 c2 d0 d1 d2 t0 t1
  · exact Ev.neg h (hm_j5 c0 c1 c2 d0 d1 d2 t0 t1)
theorem places_facts {a0 a1 a2 b0 b1 b2 : Int} (h : (vPlaces a0 a1 a2 b0 b1 b2).2 = true) : (vAheadT a0 a1 a2 b0 b1 b2 0 1).2 = true ∧ (vPlaces a0 a1 a2 b0 b1 b2).1.Pairwise ltT ∧ (∀ x ∈ (vPlaces a0 a1 a2 b0 b1 b2).1, isT x.f0 x.f1 = true) ∧ 1 ≤ (vPlaces a0 a1 a2 b0 b1 b2).1.length ∧ (vPlaces a0 a1 a2 b0 b1 b2).1.length ≤ (vAheadT a0 a1 a2 b0 b1 b2 0 1).1.length ∧ (∀ x ∈ (vAheadT a0 a1 a2 b0 b1 b2 0 1).1, plAt a0 a1 a2 x ∈ (vPlaces a0 a1 a2 b0 b1 b2).1) := by
  unfold vPlaces at h ⊢
  split at h
  · rename_i e1
    rw [if_pos e1]
    refine ⟨e1, ?_⟩
    have hpos := vAheadT_pos e1
    generalize (vAheadT a0 a1 a2 b0 b1 b2 0 1).1 = L at *
    unfold plMid at h ⊢
    split at h
    · rename_i e2
      rw [if_pos e2]
      have h' : ∀ x ∈ L.map (plAt a0 a1 a2), gpOK x = true := List.all_eq_true.1 e2
      have hm : ∀ x, x ∈ (L.map (plAt a0 a1 a2)).mergeSort srt_le ↔ x ∈ L.map (plAt a0 a1 a2) := fun x => (List.mergeSort_perm _ srt_le).mem_iff
      have len : ((L.map (plAt a0 a1 a2)).mergeSort srt_le).length = L.length := by rw [List.length_mergeSort, List.length_map]
      obtain ⟨f1, f2⟩ := cpN_facts ((L.map (plAt a0 a1 a2)).mergeSort srt_le) (fun x hx => h' x ((hm x).1 hx)) (gpMerge_pair _ (fun x hx => gp_srt (h' x hx))) _ (Nat.le_refl _)
      have f3 := cpN_len ((L.map (plAt a0 a1 a2)).mergeSort srt_le) ((L.map (plAt a0 a1 a2)).mergeSort srt_le).length
      rw [List.take_length] at f1
      have mem : ∀ x ∈ L, plAt a0 a1 a2 x ∈ cpN ((L.map (plAt a0 a1 a2)).mergeSort srt_le) ((L.map (plAt a0 a1 a2)).mergeSort srt_le).length := fun x hx => (f1 _).2 ((hm _).2 (List.mem_map.2 ⟨x, hx, rfl⟩))
      refine ⟨f2.imp (fun {x y} g => (plLt_iff x y).1 g), fun x hx => h' x ((hm x).1 ((f1 x).1 hx)), ?_, by simp only; omega, mem⟩
      have z := mem L[0] (List.getElem_mem (by omega))
      exact List.length_pos_of_mem z
    · cases h
  · cases h
theorem hm_l0 (a0 a1 a2 b0 b1 b2 c0 c1 c2 d0 d1 d2 t0 t1 : Int) (h : (vAheadT a0 a1 a2 b0 b1 b2 0 1).2 = true) : ∀ (n i : Nat), (vAheadT a0 a1 a2 b0 b1 b2 0 1).1.length - i = n → Ev (fun k => laws_FnHandsMeetOfAll.l0 k (vAheadT a0 a1 a2 b0 b1 b2 0 1).1 ((vAheadT a0 a1 a2 b0 b1 b2 0 1).1.length : Int) (vPlaces a0 a1 a2 b0 b1 b2).1 (vPlaces a0 a1 a2 b0 b1 b2).2 (vAheadT a0 a1 a2 b0 b1 b2 0 1).1 ((vAheadT a0 a1 a2 b0 b1 b2 0 1).1.length : Int) i a0 a1 a2 b0 b1 b2 c0 c1 c2 d0 d1 d2 t0 t1) true := by
  intro n
  obtain ⟨⟨hH, hH2⟩, hp, hn, hx⟩ := ahT_facts h
  have hlen := vAheadT_len a0 a1 a2 b0 b1 b2 0 1
  have hpos := vAheadT_pos h
  induction n with
  | zero =>
    intro i h0
    refine Ev.step (f := fun k => laws_FnHandsMeetOfAll.l0 (k + 1) (vAheadT a0 a1 a2 b0 b1 b2 0 1).1 ((vAheadT a0 a1 a2 b0 b1 b2 0 1).1.length : Int) (vPlaces a0 a1 a2 b0 b1 b2).1 (vPlaces a0 a1 a2 b0 b1 b2).2 (vAheadT a0 a1 a2 b0 b1 b2 0 1).1 ((vAheadT a0 a1 a2 b0 b1 b2 0 1).1.length : Int) i a0 a1 a2 b0 b1 b2 c0 c1 c2 d0 d1 d2 t0 t1) (fun k => rfl) ?_
    simp only [laws_FnHandsMeetOfAll.l0]
    refine Ev.neg (by omega) ?_
    refine Ev.bind (impl_MeetTimes_ev b0 b1 b2 a0 a1 a2) ?_
    rw [meet_back h]
    refine Ev.pos h (Ev.bind (laws_kTurns_self _ (by omega)) (Ev.pos rfl ?_))
    refine hm_j4 _ _ _ c0 c1 c2 d0 d1 d2 t0 t1 (fun e => ?_)
    obtain ⟨_, q1, q2, q3, q4, _⟩ := places_facts e
    exact ⟨q1, q2, by omega, by omega, by omega⟩
  | succ n ih =>
    intro i h0
    have next := ih (i + 1) (by omega)
    have hi : i < (vAheadT a0 a1 a2 b0 b1 b2 0 1).1.length := by omega
    have mem := rd_mem (vAheadT a0 a1 a2 b0 b1 b2 0 1).1 i hi
    obtain ⟨x1, x2⟩ := hx _ mem
    obtain ⟨s1, s2⟩ := meet_same hH hH2 x1 x2
    have hN : vNext a0 a1 a2 b0 b1 b2 (rd_T23 (vAheadT a0 a1 a2 b0 b1 b2 0 1).1 (i : Int)).f0 (rd_T23 (vAheadT a0 a1 a2 b0 b1 b2 0 1).1 (i : Int)).f1 = ((rd_T23 (vAheadT a0 a1 a2 b0 b1 b2 0 1).1 (((i + 1) % (vAheadT a0 a1 a2 b0 b1 b2 0 1).1.length : Nat) : Int)).f0, (rd_T23 (vAheadT a0 a1 a2 b0 b1 b2 0 1).1 (((i + 1) % (vAheadT a0 a1 a2 b0 b1 b2 0 1).1.length : Nat) : Int)).f1, true) := by
      unfold vNext
      rw [if_pos h, if_pos x1]
      have e := nx_at (vAheadT a0 a1 a2 b0 b1 b2 0 1).1 hp i hi
      rw [← rd_el _ i hi] at e
      unfold nxP
      have e2 : mx (nxG (vAheadT a0 a1 a2 b0 b1 b2 0 1).1 (rd_T23 (vAheadT a0 a1 a2 b0 b1 b2 0 1).1 (i : Int)).f0 (rd_T23 (vAheadT a0 a1 a2 b0 b1 b2 0 1).1 (i : Int)).f1 0) 0 = (((i + 1) % (vAheadT a0 a1 a2 b0 b1 b2 0 1).1.length : Nat) : Int) := by
        rw [e]
        unfold mx
        by_cases c : i + 1 < (vAheadT a0 a1 a2 b0 b1 b2 0 1).1.length
        · rw [if_pos c, Nat.mod_eq_of_lt c]; split <;> omega
        · rw [if_neg c, show i + 1 = (vAheadT a0 a1 a2 b0 b1 b2 0 1).1.length by omega, Nat.mod_self]; rfl
      rw [e2]
    have hin : (vPlaces a0 a1 a2 b0 b1 b2).2 = true → (vHandAt a0 a1 a2 (rd_T23 (vAheadT a0 a1 a2 b0 b1 b2 0 1).1 (i : Int)).f0 (rd_T23 (vAheadT a0 a1 a2 b0 b1 b2 0 1).1 (i : Int)).f1).2.2 = true → inT (vPlaces a0 a1 a2 b0 b1 b2).1 (vHandAt a0 a1 a2 (rd_T23 (vAheadT a0 a1 a2 b0 b1 b2 0 1).1 (i : Int)).f0 (rd_T23 (vAheadT a0 a1 a2 b0 b1 b2 0 1).1 (i : Int)).f1).1 (vHandAt a0 a1 a2 (rd_T23 (vAheadT a0 a1 a2 b0 b1 b2 0 1).1 (i : Int)).f0 (rd_T23 (vAheadT a0 a1 a2 b0 b1 b2 0 1).1 (i : Int)).f1).2.1 = true := by
      intro e1 e2
      obtain ⟨_, _, _, _, _, q5⟩ := places_facts e1
      have m2 := q5 _ mem
      rw [s1] at e2 ⊢
      unfold mk at e2 ⊢
      split at e2
      · rename_i c
        rw [if_pos c]
        unfold inT
        rw [List.any_eq_true]
        exact ⟨_, m2, by unfold plAt; simp⟩
      · cases e2
    have J3 : Ev (fun k => laws_FnHandsMeetOfAll.j3 k (vAheadT a0 a1 a2 b0 b1 b2 0 1).1 ((vAheadT a0 a1 a2 b0 b1 b2 0 1).1.length : Int) (vPlaces a0 a1 a2 b0 b1 b2).1 (vPlaces a0 a1 a2 b0 b1 b2).2 i (vAheadT a0 a1 a2 b0 b1 b2 0 1).1 ((vAheadT a0 a1 a2 b0 b1 b2 0 1).1.length : Int) i false a0 a1 a2 b0 b1 b2 c0 c1 c2 d0 d1 d2 t0 t1 (rd_T23 (vAheadT a0 a1 a2 b0 b1 b2 0 1).1 (i : Int)).f0 (rd_T23 (vAheadT a0 a1 a2 b0 b1 b2 0 1).1 (i : Int)).f1) true := by
      refine Ev.step (f := fun k => laws_FnHandsMeetOfAll.j3 (k + 1) (vAheadT a0 a1 a2 b0 b1 b2 0 1).1 ((vAheadT a0 a1 a2 b0 b1 b2 0 1).1.length : Int) (vPlaces a0 a1 a2 b0 b1 b2).1 (vPlaces a0 a1 a2 b0 b1 b2).2 i (vAheadT a0 a1 a2 b0 b1 b2 0 1).1 ((vAheadT a0 a1 a2 b0 b1 b2 0 1).1.length : Int) i false a0 a1 a2 b0 b1 b2 c0 c1 c2 d0 d1 d2 t0 t1 (rd_T23 (vAheadT a0 a1 a2 b0 b1 b2 0 1).1 (i : Int)).f0 (rd_T23 (vAheadT a0 a1 a2 b0 b1 b2 0 1).1 (i : Int)).f1) (fun k => rfl) ?_
      simp only [laws_FnHandsMeetOfAll.j3, Bool.false_eq_true, if_false]
      refine Ev.bind (impl_NextMeet_ev _ _ _ _ _ _ _ _) ?_
      rw [hN, gp_mod i (vAheadT a0 a1 a2 b0 b1 b2 0 1).1.length (by omega) (by omega), wrap_id (x := (i : Int) + 1) (by omega) (by omega)]
      have hmod : (i + 1) % (vAheadT a0 a1 a2 b0 b1 b2 0 1).1.length < (vAheadT a0 a1 a2 b0 b1 b2 0 1).1.length := Nat.mod_lt _ (by omega)
      exact Ev.pos rfl (Ev.neg (by omega) (Ev.pos (by omega) (Ev.pos (by omega) (Ev.neg (by simp) next))))
    refine Ev.step (f := fun k => laws_FnHandsMeetOfAll.l0 (k + 1) (vAheadT a0 a1 a2 b0 b1 b2 0 1).1 ((vAheadT a0 a1 a2 b0 b1 b2 0 1).1.length : Int) (vPlaces a0 a1 a2 b0 b1 b2).1 (vPlaces a0 a1 a2 b0 b1 b2).2 (vAheadT a0 a1 a2 b0 b1 b2 0 1).1 ((vAheadT a0 a1 a2 b0 b1 b2 0 1).1.length : Int) i a0 a1 a2 b0 b1 b2 c0 c1 c2 d0 d1 d2 t0 t1) (fun k => rfl) ?_
    simp only [laws_FnHandsMeetOfAll.l0]
    refine Ev.pos (by omega) (Ev.pos (by omega) (Ev.pos (by omega) ?_))
    refine Ev.bind (impl_HandAt_ev _ _ _ _ _) (Ev.bind (impl_HandAt_ev _ _ _ _ _) ?_)
    rw [s2, ← s1]
    simp only [bne_self_eq_false, beq_self_eq_true, Bool.not_true, Bool.or_self, Bool.false_eq_true, if_false]
    by_cases c1 : (vHandAt a0 a1 a2 (rd_T23 (vAheadT a0 a1 a2 b0 b1 b2 0 1).1 (i : Int)).f0 (rd_T23 (vAheadT a0 a1 a2 b0 b1 b2 0 1).1 (i : Int)).f1).2.2 = true
    · refine Ev.pos c1 ?_
      by_cases c2 : (vPlaces a0 a1 a2 b0 b1 b2).2 = true
      · refine Ev.pos c2 (Ev.bind (laws_kIn_ev _ (by have := vPlaces_len a0 a1 a2 b0 b1 b2; omega) _ _) ?_)
        rw [hin c2 c1]
        exact J3
      · exact Ev.neg c2 J3
    · exact Ev.neg c1 J3
theorem hm_j0 (a0 a1 a2 b0 b1 b2 c0 c1 c2 d0 d1 d2 t0 t1 : Int) : Ev (fun k => laws_FnHandsMeetOfAll.j0 k (vAheadT a0 a1 a2 b0 b1 b2 0 1).1 (vAheadT a0 a1 a2 b0 b1 b2 0 1).2 (vCount a0 a1 a2 b0 b1 b2).1 (vPlaces a0 a1 a2 b0 b1 b2).1 (vPlaces a0 a1 a2 b0 b1 b2).2 false a0 a1 a2 b0 b1 b2 c0 c1 c2 d0 d1 d2 t0 t1 (vFirst a0 a1 a2 b0 b1 b2).1 (vFirst a0 a1 a2 b0 b1 b2).2.1) true := by
  refine Ev.step (f := fun k => laws_FnHandsMeetOfAll.j0 (k + 1) (vAheadT a0 a1 a2 b0 b1 b2 0 1).1 (vAheadT a0 a1 a2 b0 b1 b2 0 1).2 (vCount a0 a1 a2 b0 b1 b2).1 (vPlaces a0 a1 a2 b0 b1 b2).1 (vPlaces a0 a1 a2 b0 b1 b2).2 false a0 a1 a2 b0 b1 b2 c0 c1 c2 d0 d1 d2 t0 t1 (vFirst a0 a1 a2 b0 b1 b2).1 (vFirst a0 a1 a2 b0 b1 b2).2.1) (fun k => rfl) ?_
  simp only [laws_FnHandsMeetOfAll.j0, Bool.false_eq_true, if_false]
  by_cases h : (vAheadT a0 a1 a2 b0 b1 b2 0 1).2 = true
  · refine Ev.pos h ?_
    obtain ⟨⟨hH, hH2⟩, hp, hn, hx⟩ := ahT_facts h
    have hlen := vAheadT_len a0 a1 a2 b0 b1 b2 0 1
    have hpos := vAheadT_pos h
    have w1 := isH_speed hH
    have w2 := isH_speed hH2
    have hc : (vCount a0 a1 a2 b0 b1 b2).1 = ab (a2 - b2) := by
      have : vAsked a0 a1 a2 b0 b1 b2 = true := by
        unfold vAheadT at h; split at h
        · assumption
        · cases h
      unfold vCount; rw [if_pos this]
    rw [hc, ← hn, wrap_id (x := a2 - b2) (by omega) (by omega)]
    simp only [laws_kAbs_eq (a2 - b2) (by omega) (by omega), Option.bind_some]
    have hf : vFirst a0 a1 a2 b0 b1 b2 = ((rd_T23 (vAheadT a0 a1 a2 b0 b1 b2 0 1).1 0).f0, (rd_T23 (vAheadT a0 a1 a2 b0 b1 b2 0 1).1 0).f1, true) := by unfold vFirst; rw [if_pos h]
    rw [hf]
    refine Ev.pos trivial (Ev.pos hn (Ev.pos (by omega) (Ev.neg (by simp) (Ev.bind (laws_kRises_ev _ (by omega) hp (fun x m => (hx x m).1)) ?_))))
    refine Ev.step (f := fun k => laws_FnHandsMeetOfAll.j1 (k + 1) (vAheadT a0 a1 a2 b0 b1 b2 0 1).1 ((vAheadT a0 a1 a2 b0 b1 b2 0 1).1.length : Int) (vPlaces a0 a1 a2 b0 b1 b2).1 (vPlaces a0 a1 a2 b0 b1 b2).2 (!true) a0 a1 a2 b0 b1 b2 c0 c1 c2 d0 d1 d2 t0 t1) (fun k => rfl) ?_
    simp only [laws_FnHandsMeetOfAll.j1, Bool.not_true, Bool.false_eq_true, if_false]
    exact hm_l0 a0 a1 a2 b0 b1 b2 c0 c1 c2 d0 d1 d2 t0 t1 h _ 0 rfl
  · refine Ev.neg h (hm_j4 _ _ _ c0 c1 c2 d0 d1 d2 t0 t1 (fun e => (h (places_facts e).1).elim))
theorem FnHandsMeetOfAll : laws_FnHandsMeetOfAll.Pure := by
  intro a0 a1 a2 b0 b1 b2 c0 c1 c2 d0 d1 d2 t0 t1 _ _ _ _ _ _ _ _ _ _ _ _ _ _
  apply Ev.rounds (g := fun k => laws_FnHandsMeetOfAll.f k a0 a1 a2 b0 b1 b2 c0 c1 c2 d0 d1 d2 t0 t1)
  unfold laws_FnHandsMeetOfAll.f
  refine Ev.bind (impl_MeetTimes_ev a0 a1 a2 b0 b1 b2) (Ev.bind (spec_MeetTimes_ev a0 a1 a2 b0 b1 b2) (Ev.bind (impl_CountMeets_ev a0 a1 a2 b0 b1 b2) (Ev.bind (spec_CountMeets_ev a0 a1 a2 b0 b1 b2) (Ev.bind (impl_FirstMeet_ev a0 a1 a2 b0 b1 b2) (Ev.bind (spec_FirstMeet_ev a0 a1 a2 b0 b1 b2) (Ev.bind (impl_MeetPlaces_ev a0 a1 a2 b0 b1 b2) (Ev.bind (spec_MeetPlaces_ev a0 a1 a2 b0 b1 b2) ?_)))))))
  simp only [bne_self_eq_false, beq_self_eq_true, Bool.not_true, Bool.or_self, Bool.false_eq_true, if_false, if_true]
  have nb1 := vAheadT_len a0 a1 a2 b0 b1 b2 0 1
  have nb2 := vPlaces_len a0 a1 a2 b0 b1 b2
  refine Ev.bind (laws_kTurns_self _ (by omega)) ?_
  simp only [if_true]
  refine Ev.bind (laws_kTurns_self _ (by omega)) ?_
  have hthree : (vFirst a0 a1 a2 b0 b1 b2).2.2 = (vAheadT a0 a1 a2 b0 b1 b2 0 1).2 := by
    unfold vFirst
    cases e : (vAheadT a0 a1 a2 b0 b1 b2 0 1).2 <;> rfl
  have hone : (vAheadT a0 a1 a2 b0 b1 b2 0 1).2 = true → (vCount a0 a1 a2 b0 b1 b2).2 = true := by
    intro e
    unfold vAheadT at e
    split at e
    · rename_i z; unfold vCount; rw [if_pos z]
    · cases e
  rw [hthree]
  simp only [if_true, bne_self_eq_false, Bool.false_eq_true, if_false]
  have J := hm_j0 a0 a1 a2 b0 b1 b2 c0 c1 c2 d0 d1 d2 t0 t1
  have G : Ev (fun k => (impl_IsHand.f k a0 a1 a2).bind fun u1 => ((spec_IsHand.f k a0 a1 a2).bind fun u2 => (laws_FnHandsMeetOfAll.j0 k (vAheadT a0 a1 a2 b0 b1 b2 0 1).1 (vAheadT a0 a1 a2 b0 b1 b2 0 1).2 (vCount a0 a1 a2 b0 b1 b2).1 (vPlaces a0 a1 a2 b0 b1 b2).1 (vPlaces a0 a1 a2 b0 b1 b2).2 (u1 != u2) a0 a1 a2 b0 b1 b2 c0 c1 c2 d0 d1 d2 t0 t1 (vFirst a0 a1 a2 b0 b1 b2).1 (vFirst a0 a1 a2 b0 b1 b2).2.1))) true := by
    refine Ev.bind (impl_IsHand_ev _ _ _) (Ev.bind (spec_IsHand_ev _ _ _) ?_)
    simp only [bne_self_eq_false]
    exact J
  by_cases c1 : (vPlaces a0 a1 a2 b0 b1 b2).2 = true
  · have c2 := (places_facts c1).1
    exact Ev.pos c1 (Ev.pos c2 (Ev.pos (hone c2) G))
  · refine Ev.neg c1 ?_
    by_cases c2 : (vAheadT a0 a1 a2 b0 b1 b2 0 1).2 = true
    · exact Ev.pos c2 (Ev.pos (hone c2) G)
    · exact Ev.neg c2 G

end Go.Proofs.Ytbgklddlcmgakaa.Pure
