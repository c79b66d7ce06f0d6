/- FnExactThreeMeet of the program answers as the reference does, whatever is given: the pure part of the proof. No condition. -/
import Derived.Test.YtioggbokjfdoaaaPFnExactThreeMeetx0
import Derived.Test.YtioggbokjfdoaaaPFnExactThreeMeetx1
import Derived.Test.YtioggbokjfdoaaaPFnExactThreeMeetx2
import Derived.Test.YtioggbokjfdoaaaPFnExactThreeMeetx3
import Derived.Test.YtioggbokjfdoaaaPFnExactThreeMeetx4
import Derived.Test.YtioggbokjfdoaaaPFnExactThreeMeetx5
import Derived.Test.YtioggbokjfdoaaaPFnExactThreeMeetx6
import Derived.Test.YtioggbokjfdoaaaPFnExactThreeMeetx7
import Derived.Test.YtioggbokjfdoaaaPFnExactThreeMeetx8
import Derived.Test.YtioggbokjfdoaaaPFnExactThreeMeetx9
import Derived.Test.YtioggbokjfdoaaaPFnExactThreeMeetx10
import Derived.Test.YtioggbokjfdoaaaPFnExactThreeMeetx11
import Derived.Test.YtioggbokjfdoaaaMath
set_option linter.unusedVariables false
set_option linter.unusedSimpArgs false
namespace Go.Proofs.Ytioggbokjfdoaaa.Pure
open Go.RowKit Go.Proofs.Ytioggbokjfdoaaa.PFnExactThreeMeet Go.Proofs.YtioggbokjfdoaaaW.PrintWords Go.Proofs.YtioggbokjfdoaaaW.PrintLast Go.Proofs.YtioggbokjfdoaaaW.PrintMore Go.Proofs.Ytioggbokjfdoaaa.Math

/-! spec_diCommon -/
theorem spec_diCommon_l0 : ∀ (n : Nat) (a b : Int), 0 ≤ a → 0 ≤ b → b < n → Ev (fun k => spec_diCommon.l0 k a b) (Int.gcd a b : Int) := by
  intro n
  induction n with
  | zero => intro a b _ h1 h2; omega
  | succ n ih =>
    intro a b ha hb hn
    by_cases h : b = 0
    · subst h
      refine Ev.step (f := fun _ => some a) (fun k => ?_) ?_
      · simp only [spec_diCommon.l0]
        rw [if_neg (by omega)]
      · rw [gcd_zero ha]; exact Ev.now a
    · have h1 := tmod_range ha (show 0 < b by omega)
      refine Ev.step (f := fun k => spec_diCommon.l0 k b (Int.tmod a b)) (fun k => ?_) ?_
      · simp only [spec_diCommon.l0]
        rw [if_pos (by omega), if_neg h]
      · rw [← gcd_step ha (show 0 < b by omega)]
        exact ih b _ (by omega) (by omega) (by omega)
theorem spec_diCommon_ev (a b : Int) (ha : 0 ≤ a) (hb : 0 ≤ b) : Ev (fun k => spec_diCommon.f k a b) (Int.gcd a b : Int) := by
  unfold spec_diCommon.f
  exact spec_diCommon_l0 (b.toNat + 1) a b ha hb (by omega)

/-! spec_diMake -/
theorem spec_diMake_ev (n d : Int) (hd : 0 < d) (hd' : d ≤ 4000000000000000000) (hn : -4000000000000000000 ≤ n) (hn' : n ≤ 4000000000000000000) : Ev (fun k => spec_diMake.f k n d) (mk ((n : Rat) / d)) := by
  unfold spec_diMake.f
  refine Ev.neg (by omega) ?_
  have h0 := Int.emod_nonneg n (show d ≠ 0 by omega)
  have h1 := Int.emod_lt_of_pos n hd
  obtain ⟨t1, t2⟩ := tmod_bound n d hd
  have e0 : Int.tmod (wrap64 (Int.tmod n d + d)) d = n % d := by
    rw [wrap_id (by omega) (by omega)]; exact tmod_tmod n d hd
  rw [e0]
  refine Ev.bind (spec_diCommon_ev (n % d) d h0 (by omega)) ?_
  have hg := gcd_pos' (n % d) hd
  refine Ev.neg (by omega) ?_
  have e1 := Int.tdiv_eq_ediv_of_nonneg (b := (Int.gcd (n % d) d : Int)) h0
  have e2 := Int.tdiv_eq_ediv_of_nonneg (b := (Int.gcd (n % d) d : Int)) (show 0 ≤ d by omega)
  have b1 := ediv_le' h0 hg
  have b2 := ediv_le' (show 0 ≤ d by omega) hg
  rw [e1, e2, wrap_id (by omega) (by omega), wrap_id (by omega) (by omega)]
  unfold mk
  rw [tn_div n d hd, td_div n d hd]
  by_cases h : d / (Int.gcd (n % d) d : Int) > 1000000
  · rw [if_pos h, if_neg (by omega)]; exact Ev.now _
  · rw [if_neg h, if_pos (by omega)]; exact Ev.now _

/-! spec_diAdd -/
theorem spec_diAdd_ev (a b c d t : Int) (hb : 0 < b) (hd : 0 < d) (hm : b * d ≤ 1000000000000000) (ha : -b ≤ a) (ha' : a ≤ b) (hc : -d ≤ c) (hc' : c ≤ d) (ht : -1000 ≤ t) (ht' : t ≤ 1000) : Ev (fun k => spec_diAdd.f k a b c d t) (mk ((a : Rat) / b + t * ((c : Rat) / d))) := by
  have m1 := mul_bound (a := a) (b := d) (A := b) (B := d) (by omega) (by omega) (by omega) (by omega)
  have m2 := mul_bound (a := t) (b := c) (A := 1000) (B := d) (by omega) (by omega) (by omega) (by omega)
  have m4 := mul_bound (a := t * c) (b := b) (A := 1000 * d) (B := b) (by omega) (by omega) (by omega) (by omega)
  have m3 := Int.mul_pos hb hd
  have m5 : d ≤ b * d := by have := Int.mul_le_mul_of_nonneg_right (show 1 ≤ b by omega) (show 0 ≤ d by omega); omega
  rw [Int.mul_assoc, Int.mul_comm d b] at m4
  unfold spec_diAdd.f
  rw [wrap_id (x := a * d) (by omega) (by omega), wrap_id (x := t * c) (by omega) (by omega), wrap_id (x := t * c * b) (by omega) (by omega), wrap_id (x := b * d) (by omega) (by omega), wrap_id (by omega) (by omega)]
  rw [← q_add_mul hb hd]
  exact Ev.bind (spec_diMake_ev _ _ (by omega) (by omega) (by omega) (by omega)) (Ev.now _)
theorem spec_diAdd_T (a b c d t : Int) (h1 : isT a b = true) (h2 : isT c d = true) (ht : -1000 ≤ t) (ht' : t ≤ 1000) : Ev (fun k => spec_diAdd.f k a b c d t) (mk ((a : Rat) / b + t * ((c : Rat) / d))) := by
  obtain ⟨p1, p2, p3, p4, _⟩ := isT_iff.1 h1
  obtain ⟨r1, r2, r3, r4, _⟩ := isT_iff.1 h2
  have m3 := mul_bound (a := b) (b := d) (A := 1000000) (B := 1000000) (by omega) (by omega) (by omega) (by omega)
  exact spec_diAdd_ev a b c d t (by omega) (by omega) (by omega) (by omega) (by omega) (by omega) (by omega) ht ht'

/-! spec_meRelative -/
theorem spec_meRelative_ev (a b s c d t : Int) (h1 : isH a b s = true) (h2 : isH c d t = true) : Ev (fun k => spec_meRelative.f k a b s c d t) (tn ((a : Rat) / b - (c : Rat) / d), td ((a : Rat) / b - (c : Rat) / d), s - t) := by
  obtain ⟨u1, u2⟩ := isH_speed h1
  obtain ⟨u3, u4⟩ := isH_speed h2
  have p0 := (isC_iff.1 (isH_iff.1 h1).1).1
  have r0 := (isC_iff.1 (isH_iff.1 h2).1).1
  unfold spec_meRelative.f
  rw [wrap_id (x := s - t) (by omega) (by omega)]
  refine Ev.bind (spec_diAdd_T a b c d (-1) p0 r0 (by omega) (by omega)) ?_
  rw [add_neg_one_mul', mk_of (by have := td_start h1 h2; omega)]
  exact Ev.now _

/-! spec_l1In -/
theorem spec_l1In_eq (a b c : Int) : spec_l1In.f a b c = some (decide (b ≤ a ∧ a ≤ c)) := by
  unfold spec_l1In.f
  by_cases h : a ≥ b
  · rw [if_pos h]; simp [show b ≤ a from h]
  · rw [if_neg h]; simp [show ¬ b ≤ a from h]

/-! spec_diGood -/
theorem spec_diGood_ev (n d : Int) : Ev (fun k => spec_diGood.f k n d) (isT n d) := by
  unfold spec_diGood.f
  simp only [spec_l1In_eq, Option.bind_some]
  by_cases h : 1 ≤ d ∧ d ≤ 1000000
  · refine Ev.pos (by simpa using h) ?_
    rw [wrap_id (by omega) (by omega)]
    by_cases h2 : 0 ≤ n ∧ n ≤ d - 1
    · refine Ev.pos (by simpa using h2) ?_
      refine Ev.bind (spec_diCommon_ev n d (by omega) (by omega)) ?_
      refine Ev.val (Ev.now _) ?_
      unfold isT
      rw [Bool.eq_iff_iff]; simp; omega
    · refine Ev.neg (by simpa using h2) ?_
      refine Ev.val (Ev.now _) ?_
      unfold isT
      rw [Bool.eq_iff_iff]; simp; omega
  · refine Ev.neg (by simpa using h) ?_
    refine Ev.val (Ev.now _) ?_
    unfold isT
    rw [Bool.eq_iff_iff]; simp; omega

/-! spec_meGood -/
theorem spec_meGood_ev (n d s : Int) : Ev (fun k => spec_meGood.f k n d s) (isH n d s) := by
  unfold spec_meGood.f isH isC
  refine Ev.bind (spec_diGood_ev n d) ?_
  simp only [spec_l1In_eq, Option.bind_some]
  cases isT n d
  · exact Ev.val (Ev.now _) (by simp)
  · by_cases h : d ≤ 1000
    · refine Ev.pos rfl (Ev.pos h ?_)
      exact Ev.val (Ev.now _) (by simp [h])
    · refine Ev.pos rfl (Ev.neg h ?_)
      exact Ev.val (Ev.now _) (by simp [h])

/-! spec_meTwo -/
theorem spec_meTwo_ev (a b s c d t : Int) : Ev (fun k => spec_meTwo.f k a b s c d t) (isH a b s && isH c d t) := by
  unfold spec_meTwo.f
  refine Ev.bind (spec_meGood_ev a b s) ?_
  cases isH a b s
  · exact Ev.neg (by decide) (Ev.now _)
  · exact Ev.pos rfl (Ev.bind (spec_meGood_ev c d t) (Ev.now _))

/-! spec_meAsked -/
theorem spec_meAsked_ev (a b s c d t : Int) : Ev (fun k => spec_meAsked.f k a b s c d t) (vAsked a b s c d t) := by
  unfold spec_meAsked.f vAsked
  refine Ev.bind (spec_meTwo_ev a b s c d t) ?_
  cases isH a b s && isH c d t
  · exact Ev.neg (by decide) (Ev.now _)
  · exact Ev.pos rfl (Ev.now _)

/-! spec_diTimes -/
theorem spec_diTimes_ev (a b k : Int) (h : isT a b = true) (h0 : -100000 ≤ k) (h1 : k ≤ 100000) : Ev (fun n => spec_diTimes.f n a b k) (tn (k * ((a : Rat) / b)), td (k * ((a : Rat) / b))) := by
  obtain ⟨p1, p2, p3, p4, _⟩ := isT_iff.1 h
  have m1 := mul_bound (a := a) (b := k) (A := 1000000) (B := 100000) (by omega) (by omega) h0 h1
  unfold spec_diTimes.f
  rw [wrap_id (by omega) (by omega)]
  refine Ev.bind (spec_diMake_ev _ _ (by omega) (by omega) (by omega) (by omega)) ?_
  rw [q_mul (show 0 < b by omega), mk_of (Int.le_trans (td_mul_le (show 0 < b by omega)) p2)]
  exact Ev.now _
theorem spec_diTimes_fr (p : Rat) (k : Int) (hp : td p ≤ 1000000) (h0 : -100000 ≤ k) (h1 : k ≤ 100000) : Ev (fun n => spec_diTimes.f n (tn p) (td p) k) (tn (k * p), td (k * p)) := by
  refine Ev.val (spec_diTimes_ev (tn p) (td p) k (by rw [isT_tn]; simpa using hp) h0 h1) ?_
  rw [tn_td]
  exact tt_of_fr (fr_mul_fr k p)

/-! spec_diMirror -/
theorem spec_diMirror_fr (p : Rat) (hp : td p ≤ 1000000) : Ev (fun n => spec_diMirror.f n (tn p) (td p)) (tn (-p), td (-p)) := by
  unfold spec_diMirror.f
  refine Ev.bind (spec_diTimes_fr p (-1) hp (by omega) (by omega)) ?_
  rw [neg_one_mul']
  exact Ev.now _
theorem spec_diMirror_T (a b : Int) (h : isT a b = true) : Ev (fun n => spec_diMirror.f n a b) (tn (-((a : Rat) / b)), td (-((a : Rat) / b))) := by
  unfold spec_diMirror.f
  refine Ev.bind (spec_diTimes_ev a b (-1) h (by omega) (by omega)) ?_
  rw [neg_one_mul']
  exact Ev.now _

/-! h_lists -/
def pk (q : Rat) : S26 := ⟨tn q, td q⟩
/-- The first n of the parts whose s-fold is w, but for whole turns. -/
def rl (w : Rat) (s : Int) (n : Nat) : List S26 := (List.range n).map fun i => pk ((w + (((i : Nat) : Int) : Rat)) / (s : Rat))
theorem rl_succ (w : Rat) (s : Int) (n : Nat) : rl w s (n + 1) = rl w s n ++ [pk ((w + (((n : Nat) : Int) : Rat)) / (s : Rat))] := by
  unfold rl; rw [List.range_succ, List.map_append]; rfl
theorem rl_length (w : Rat) (s : Int) (n : Nat) : (rl w s n).length = n := by unfold rl; simp
def okR (w : Rat) (s : Int) (n : Nat) : Bool := (rl w s n).all fun x => isT x.f0 x.f1
theorem okR_iff {w : Rat} {s : Int} {n : Nat} : okR w s n = true ↔ ∀ i, i < n → td ((w + ((i : Int) : Rat)) / (s : Rat)) ≤ 1000000 := by
  unfold okR rl
  simp only [List.all_map, List.all_eq_true, List.mem_range, Function.comp, pk, isT_tn, decide_eq_true_eq]
theorem rl_get (w : Rat) (s : Int) (n : Nat) (i : Int) (h0 : 0 ≤ i) (h1 : i < n) : rd_T26 (rl w s n) i = pk ((w + (i : Rat)) / (s : Rat)) := by
  unfold rd_T26 rl
  rw [List.getD_eq_getElem?_getD, List.getElem?_map, List.getElem?_range (by omega)]
  simp only [Option.map_some, Option.getD_some]
  rw [show ((i.toNat : Nat) : Int) = i by omega]
def vRoots (w : Rat) (s : Int) : List S26 × Bool := if okR w s s.toNat = true then (rl w s s.toNat, true) else ([], false)
/-- The times at which a hand with the speed s has gone on by q. -/
def vTimesAt (q : Rat) (s : Int) : List S26 × Bool := if s < 0 then vRoots (fr (-q)) (-s) else vRoots (fr q) s
theorem vTimesAt_no {q : Rat} {s : Int} (hs : s ≠ 0) (hq : 1000000 < td q) : vTimesAt q s = ([], false) := by
  unfold vTimesAt vRoots
  by_cases h : s < 0
  · rw [if_pos h, if_neg]
    intro ho
    have h1 := okR_iff.1 ho 0 (by omega)
    have h2 := td_root (-q) (-s) 0 (by omega)
    rw [td_neg] at h2
    simp only [Int.cast_ofNat_Int] at h1 h2
    omega
  · rw [if_neg h, if_neg]
    intro ho
    have h1 := okR_iff.1 ho 0 (by omega)
    have h2 := td_root q s 0 (by omega)
    simp only [Int.cast_ofNat_Int] at h1 h2
    omega
theorem vRoots_len {w : Rat} {s : Int} (hs : 0 ≤ s) : (vRoots w s).1.length ≤ s := by
  unfold vRoots
  split
  · rw [rl_length]; omega
  · exact hs
theorem vTimesAt_len {q : Rat} {s : Int} (h0 : -1000 ≤ s) (h1 : s ≤ 1000) : (vTimesAt q s).1.length ≤ 1000 := by
  unfold vTimesAt
  split
  · have := vRoots_len (w := fr (-q)) (show 0 ≤ -s by omega); omega
  · have := vRoots_len (w := fr q) (show 0 ≤ s by omega); omega

/-! spec_meTimes -/
theorem spec_meTimes_l0 (w : Rat) (s : Int) (hs : 0 < s) (hs' : s ≤ 100000) (hw : td w ≤ 10000000000) : ∀ (n i : Nat), s.toNat - i = n → i ≤ s.toNat → (∀ j, j < i → td ((fr w + ((j : Int) : Rat)) / (s : Rat)) ≤ 1000000) →
    Ev (fun k => spec_meTimes.l0 k s (rl (fr w) s i) (i : Int) (tn w) (td w)) (vRoots (fr w) s) := by
  intro n
  induction n with
  | zero =>
    intro i h0 h1 hj
    have hi : i = s.toNat := by omega
    refine Ev.step (f := fun k => some (rl (fr w) s i, true)) (fun k => ?_) ?_
    · simp only [spec_meTimes.l0]; rw [if_neg (by omega)]
    · unfold vRoots
      rw [if_pos (okR_iff.2 (fun j h => hj j (by omega))), hi]; exact Ev.now _
  | succ n ih =>
    intro i h0 h1 hj
    have hb := td_pos w
    have h2 := tn_nonneg w
    have h3 := tn_lt w
    have m1 := mul_bound (a := (i : Int)) (b := td w) (A := 100000) (B := 10000000000) (by omega) (by omega) (by omega) (by omega)
    have m2 := mul_bound (a := td w) (b := s) (A := 10000000000) (B := 100000) (by omega) (by omega) (by omega) (by omega)
    have m3 := Int.mul_pos hb hs
    have e1 : ((tn w + (i : Int) * td w : Int) : Rat) / ((td w * s : Int) : Rat) = (fr w + (((i : Nat) : Int) : Rat)) / (s : Rat) := q_root hb hs i
    refine Ev.step (f := fun k => ((spec_diMake.f k (tn w + (i : Int) * td w) (td w * s)).bind fun bt => (if bt.2.2 = true then (if (rl (fr w) s i).length < 8796093022208 then (spec_meTimes.l0 k s (rl (fr w) s i ++ [⟨bt.1, bt.2.1⟩]) ((i + 1 : Nat) : Int) (tn w) (td w)) else none) else some ([], false)))) (fun k => ?_) ?_
    · simp only [spec_meTimes.l0]
      rw [if_pos (by omega), wrap_id (x := (i : Int) * td w) (by omega) (by omega), wrap_id (x := td w * s) (by omega) (by omega), wrap_id (x := tn w + (i : Int) * td w) (by omega) (by omega), wrap_id (x := (i : Int) + 1) (by omega) (by omega)]
      rfl
    · refine Ev.bind (spec_diMake_ev _ _ m3 (by omega) (by omega) (by omega)) ?_
      rw [e1]
      by_cases ht : td ((fr w + (((i : Nat) : Int) : Rat)) / (s : Rat)) ≤ 1000000
      · rw [mk_of ht]
        refine Ev.pos rfl (Ev.pos (by rw [rl_length]; omega) ?_)
        have := ih (i + 1) (by omega) (by omega) (fun j h => by
          by_cases e : j = i
          · rw [e]; exact ht
          · exact hj j (by omega))
        rw [rl_succ] at this
        exact this
      · rw [show mk ((fr w + (((i : Nat) : Int) : Rat)) / (s : Rat)) = (0, 0, false) from if_neg ht]
        refine Ev.neg (by decide) ?_
        unfold vRoots
        rw [if_neg (fun h => ht (okR_iff.1 h i (by omega)))]
        exact Ev.now _

theorem spec_meTimes_j0 (w : Rat) (s : Int) (hs : 0 < s) (hs' : s ≤ 100000) (hw : td w ≤ 10000000000) : Ev (fun k => spec_meTimes.j0 k s (tn w) (td w)) (vRoots (fr w) s) := by
  refine Ev.step (f := fun k => spec_meTimes.l0 k s [] 0 (tn w) (td w)) (fun k => ?_) (spec_meTimes_l0 w s hs hs' hw s.toNat 0 (by omega) (by omega) (fun j h => by omega))
  simp only [spec_meTimes.j0]
theorem spec_meTimes_ev (a b s c d : Int) (hs : s ≠ 0) (h0 : -1000 ≤ s) (h1 : s ≤ 1000) (hb : 0 < b) (hd : 0 < d) (hm : b * d ≤ 1000000000000000) (ha : -b ≤ a) (ha' : a ≤ b) (hc : -d ≤ c) (hc' : c ≤ d) : Ev (fun k => spec_meTimes.f k a b s c d) (vTimesAt ((c : Rat) / d - (a : Rat) / b) s) := by
  unfold spec_meTimes.f
  refine Ev.bind (spec_diAdd_ev c d a b (-1) hd hb (by rw [Int.mul_comm]; exact hm) hc hc' ha ha' (by omega) (by omega)) ?_
  rw [add_neg_one_mul']
  generalize (c : Rat) / d - (a : Rat) / b = q
  by_cases hq : td q ≤ 1000000
  · rw [mk_of hq]
    refine Ev.pos rfl ?_
    unfold vTimesAt
    by_cases hn : s < 0
    · refine Ev.pos hn ?_
      rw [if_pos hn, wrap_id (by omega) (by omega)]
      refine Ev.bind (spec_diMirror_fr q hq) ?_
      exact spec_meTimes_j0 (-q) (-s) (by omega) (by omega) (by have := td_neg q; omega)
    · refine Ev.neg hn ?_
      rw [if_neg hn]
      exact spec_meTimes_j0 q s (by omega) (by omega) (by omega)
  · rw [show mk q = (0, 0, false) from if_neg hq, vTimesAt_no hs (by omega)]
    exact Ev.neg (by decide) (Ev.now _)

/-! h_ahead -/
/-- The times at which one hand is ahead of another by m / n. -/
def vAheadT (a b s c d t m n : Int) : List S26 × Bool := if vAsked a b s c d t = true then vTimesAt ((m : Rat) / n - fr ((a : Rat) / b - (c : Rat) / d)) (s - t) else ([], false)
theorem vAheadT_len (a b s c d t m n : Int) : (vAheadT a b s c d t m n).1.length ≤ 1000 := by
  unfold vAheadT
  split
  · rename_i h
    unfold vAsked at h
    simp only [Bool.and_eq_true] at h
    obtain ⟨u1, u2⟩ := isH_speed h.1.1
    obtain ⟨u3, u4⟩ := isH_speed h.1.2
    exact vTimesAt_len (by omega) (by omega)
  · simp

/-! spec_MeetTimes -/
theorem spec_MeetTimes_ev (a b s c d t : Int) : Ev (fun k => spec_MeetTimes.f k a b s c d t) (vAheadT a b s c d t 0 1) := by
  unfold spec_MeetTimes.f vAheadT
  refine Ev.bind (spec_meAsked_ev a b s c d t) ?_
  cases h : vAsked a b s c d t
  · exact Ev.neg (by decide) (Ev.now _)
  refine Ev.pos rfl ?_
  unfold vAsked at h
  simp only [Bool.and_eq_true, bne_iff_ne, ne_eq] at h
  obtain ⟨⟨h1, h2⟩, hs⟩ := h
  obtain ⟨u1, u2⟩ := isH_speed h1
  obtain ⟨u3, u4⟩ := isH_speed h2
  have hst := td_start h1 h2
  have g0 := td_pos ((a : Rat) / b - (c : Rat) / d)
  have g1 := tn_nonneg ((a : Rat) / b - (c : Rat) / d)
  have g2 := tn_lt ((a : Rat) / b - (c : Rat) / d)
  have m3 := mul_bound (a := td ((a : Rat) / b - (c : Rat) / d)) (b := 1) (A := 1000000) (B := 1000) (by omega) (by omega) (by omega) (by omega)
  refine Ev.bind (spec_meRelative_ev a b s c d t h1 h2) ?_
  have := spec_meTimes_ev (tn ((a : Rat) / b - (c : Rat) / d)) (td ((a : Rat) / b - (c : Rat) / d)) (s - t) 0 1 (by omega) (by omega) (by omega) g0 (by omega) (by omega) (by omega) (by omega) (by omega) (by omega)
  rw [tn_td] at this
  exact Ev.bind this (Ev.now _)

/-! spec_meAt -/
theorem spec_meAt_ev (a b s c d : Int) (h1 : isT a b = true) (h2 : isT c d = true) (h0 : -1000 ≤ s) (h3 : s ≤ 1000) : Ev (fun k => spec_meAt.f k a b s c d) (mk ((a : Rat) / b + s * ((c : Rat) / d))) := by
  unfold spec_meAt.f
  exact Ev.bind (spec_diAdd_T a b c d s h1 h2 h0 h3) (Ev.now _)

/-! h_first -/
def vFirst (a b s c d t : Int) : Int × Int × Bool := if (vAheadT a b s c d t 0 1).2 = true then ((rd_T26 (vAheadT a b s c d t 0 1).1 0).f0, (rd_T26 (vAheadT a b s c d t 0 1).1 0).f1, true) else (0, 0, false)
theorem vRoots_ok {w : Rat} {s : Int} (h : (vRoots w s).2 = true) : okR w s s.toNat = true ∧ (vRoots w s).1 = rl w s s.toNat := by
  unfold vRoots at h ⊢
  split at h
  · rename_i e; rw [if_pos e]; exact ⟨e, rfl⟩
  · cases h
theorem vAheadT_pos {a b s c d t m n : Int} (h : (vAheadT a b s c d t m n).2 = true) : 0 < ((vAheadT a b s c d t m n).1.length : Int) := by
  unfold vAheadT at h ⊢
  split at h
  · rename_i e
    rw [if_pos e]
    unfold vAsked at e
    simp only [Bool.and_eq_true, bne_iff_ne, ne_eq] at e
    unfold vTimesAt at h ⊢
    split at h
    · rename_i hs
      rw [if_pos hs, (vRoots_ok h).2, rl_length]; omega
    · rename_i hs
      rw [if_neg hs, (vRoots_ok h).2, rl_length]; omega
  · cases h

/-! h_next -/
/-- The place of the first turn behind m / n, from place i on; -1 if there is none. -/
def nxG : List S26 → Int → Int → Int → Int
  | [], _, _, _ => -1
  | x :: xs, m, n, i => if sg (x.f0 * n - m * x.f1) > 0 then i else nxG xs m n (i + 1)
theorem nxG_range : ∀ (l : List S26) (m n i : Int), 0 ≤ i → nxG l m n i = -1 ∨ (i ≤ nxG l m n i ∧ nxG l m n i < i + l.length)
  | [], _, _, _, _ => Or.inl rfl
  | x :: xs, m, n, i, hi => by
    unfold nxG
    split
    · right; simp only [List.length_cons]; omega
    · rcases nxG_range xs m n (i + 1) (by omega) with h | h
      · left; exact h
      · right; simp only [List.length_cons]; omega
theorem vAheadT_all {a b s c d t m n : Int} (h : (vAheadT a b s c d t m n).2 = true) : ((vAheadT a b s c d t m n).1.all fun x => isT x.f0 x.f1) = true := by
  unfold vAheadT at h ⊢
  split at h
  · rename_i e
    rw [if_pos e]
    unfold vTimesAt at h ⊢
    split at h
    · rename_i hs
      rw [if_pos hs, (vRoots_ok h).2]; exact (vRoots_ok h).1
    · rename_i hs
      rw [if_neg hs, (vRoots_ok h).2]; exact (vRoots_ok h).1
  · cases h
def nxP (l : List S26) (m n : Int) : Int × Int × Bool := ((rd_T26 l (mx (nxG l m n 0) 0)).f0, (rd_T26 l (mx (nxG l m n 0) 0)).f1, true)
def vNext (a b s c d t m n : Int) : Int × Int × Bool := if (vAheadT a b s c d t 0 1).2 = true then if isT m n = true then nxP (vAheadT a b s c d t 0 1).1 m n else (0, 0, false) else (0, 0, false)
theorem mx_nx (l : List S26) (m n : Int) (hl : 0 < (l.length : Int)) : 0 ≤ mx (nxG l m n 0) 0 ∧ mx (nxG l m n 0) 0 < l.length := by
  unfold mx
  rcases nxG_range l m n 0 (by omega) with h | h
  · rw [h]; simp; omega
  · rw [if_neg (by omega)]; omega

/-! h_three -/
/-- whether the third hand stands where the first one stands -/
def thP (a b s m n u : Int) (x : S26) : Bool := decide (fr (((a : Rat) / b - (m : Rat) / n) + ((s - u : Int) : Rat) * ((x.f0 : Rat) / x.f1)) = 0)
theorem fr_zero_iff (p q : Rat) : fr p = fr q ↔ fr (p - q) = 0 := by
  constructor
  · intro h
    obtain ⟨z1, e1⟩ := fr_exists p
    obtain ⟨z2, e2⟩ := fr_exists q
    have e : p - q = 0 + ((z1 - z2 : Int) : Rat) := by rw [e1, e2, h, Rat.intCast_sub]; grind
    rw [e, fr_add_int]
    unfold fr; rw [show (0 : Rat).floor = 0 by decide]; grind
  · intro h
    obtain ⟨z, e⟩ := fr_exists (p - q)
    rw [h] at e
    have e2 : p = q + (z : Rat) := by grind
    rw [e2, fr_add_int]
theorem tn_zero_iff (q : Rat) : tn q = 0 ↔ fr q = 0 := by unfold tn; exact Rat.num_eq_zero
theorem th_same (a b s m n u : Int) (x : S26) : (tn ((a : Rat) / b + s * ((x.f0 : Rat) / x.f1)) = tn ((m : Rat) / n + u * ((x.f0 : Rat) / x.f1)) ∧ td ((a : Rat) / b + s * ((x.f0 : Rat) / x.f1)) = td ((m : Rat) / n + u * ((x.f0 : Rat) / x.f1))) ↔ thP a b s m n u x = true := by
  unfold thP
  rw [decide_eq_true_iff]
  have e : ((a : Rat) / b - (m : Rat) / n) + ((s - u : Int) : Rat) * ((x.f0 : Rat) / x.f1) = ((a : Rat) / b + s * ((x.f0 : Rat) / x.f1)) - ((m : Rat) / n + u * ((x.f0 : Rat) / x.f1)) := by rw [Rat.intCast_sub]; grind
  rw [e, ← fr_zero_iff]
  constructor
  · rintro ⟨h1, h2⟩; exact fr_of_eq h1 h2
  · intro h; have := tt_of_fr h; exact ⟨congrArg Prod.fst this, congrArg Prod.snd this⟩
def vThree (a b s c d t m n u : Int) : List S26 × Bool := if (vAheadT a b s c d t 0 1).2 = true then if isH m n u = true then ((vAheadT a b s c d t 0 1).1.filter (thP a b s m n u), true) else ([], false) else ([], false)
theorem vThree_len (a b s c d t m n u : Int) : (vThree a b s c d t m n u).1.length ≤ 1000 := by
  have h := vAheadT_len a b s c d t 0 1
  unfold vThree
  split
  · split
    · exact Nat.le_trans (List.length_filter_le _ _) h
    · simp
  · simp
theorem vAheadT_hands {a b s c d t m n : Int} (h : (vAheadT a b s c d t m n).2 = true) : isH a b s = true ∧ isH c d t = true := by
  unfold vAheadT vAsked at h
  split at h
  · rename_i e; simp at e; exact ⟨by simp [e.1], by simp [e.1]⟩
  · cases h

/-! spec_ThreeMeet -/
theorem th_td (q : Rat) (h : fr q = 0) : td q = 1 := by unfold td; rw [h]; rfl
theorem spec_ThreeMeet_l0 (l : List S26) (hl : l.length ≤ 1000) (ha : (l.all fun x => isT x.f0 x.f1) = true) (a b s m n u : Int) (h1 : isH a b s = true) (h2 : isH m n u = true) : ∀ (r i : Nat), l.length - i = r → i ≤ l.length →
    Ev (fun k => spec_ThreeMeet.l0 k ((l.take i).filter (thP a b s m n u)) l (l.length : Int) (i : Int) a b s m n u) (l.filter (thP a b s m n u), true) := by
  intro r
  induction r with
  | zero =>
    intro i h0 hi
    have e : i = l.length := by omega
    subst e
    refine Ev.step (f := fun k => some ((l.take l.length).filter (thP a b s m n u), true)) (fun k => ?_) ?_
    · simp only [spec_ThreeMeet.l0]; rw [if_neg (by omega)]
    · rw [List.take_length]; exact Ev.now _
  | succ r ih =>
    intro i h0 hi
    have hlt : i < l.length := by omega
    obtain ⟨x, hx⟩ : ∃ x, x = l[i] := ⟨_, rfl⟩
    have hr : rd_T26 l (i : Int) = x := by unfold rd_T26; rw [List.getD_eq_getElem?_getD, show ((i : Int)).toNat = i from Int.toNat_natCast i, List.getElem?_eq_getElem hlt, hx]; rfl
    have hT : isT x.f0 x.f1 = true := by rw [hx]; exact List.all_eq_true.1 ha _ (List.getElem_mem hlt)
    have ht : l.take (i + 1) = l.take i ++ [x] := by rw [List.take_add_one, List.getElem?_eq_getElem hlt, hx]; rfl
    obtain ⟨u1, u2⟩ := isH_speed h1
    obtain ⟨u3, u4⟩ := isH_speed h2
    have hst := td_start h1 h2
    have ih' := ih (i + 1) (by omega) (by omega)
    rw [ht, List.filter_append] at ih'
    have hlen : ((l.take i).filter (thP a b s m n u)).length ≤ 1000 := Nat.le_trans (List.length_filter_le _ _) (Nat.le_trans (by rw [List.length_take]; omega) hl)
    generalize (l.take i).filter (thP a b s m n u) = acc at ih' hlen ⊢
    refine Ev.step (f := fun k => (spec_meRelative.f k a b s m n u).bind fun bt => ((spec_meAt.f k bt.1 bt.2.1 bt.2.2 x.f0 x.f1).bind fun bq => (if bq.2.2 = true then (if bq.1 = 0 then (if acc.length < 8796093022208 then (spec_ThreeMeet.l0 k (acc ++ [x]) l (l.length : Int) ((i + 1 : Nat) : Int) a b s m n u) else none) else (spec_ThreeMeet.l0 k acc l (l.length : Int) ((i + 1 : Nat) : Int) a b s m n u)) else (spec_ThreeMeet.l0 k acc l (l.length : Int) ((i + 1 : Nat) : Int) a b s m n u)))) (fun k => ?_) ?_
    · simp only [spec_ThreeMeet.l0]
      rw [if_pos (by omega), if_pos (by omega), if_pos (by omega), hr, wrap_id (x := (i : Int) + 1) (by omega) (by omega)]
      rfl
    · refine Ev.bind (spec_meRelative_ev a b s m n u h1 h2) ?_
      refine Ev.bind (spec_meAt_ev _ _ (s - u) x.f0 x.f1 (by rw [isT_tn]; simpa using hst) hT (by omega) (by omega)) ?_
      rw [tn_td, mk_of_fr (fr_fr_add _ _)]
      have hp : thP a b s m n u x = decide (fr (((a : Rat) / b - (m : Rat) / n) + ((s - u : Int) : Rat) * ((x.f0 : Rat) / x.f1)) = 0) := rfl
      generalize (((a : Rat) / b - (m : Rat) / n) + ((s - u : Int) : Rat) * ((x.f0 : Rat) / x.f1)) = q at hp ⊢
      rw [List.filter_cons, List.filter_nil, hp] at ih'
      by_cases hq : fr q = 0
      · rw [mk_of (by rw [th_td q hq]; omega)]
        simp only [hq, decide_true, if_true] at ih'
        exact Ev.pos rfl (Ev.pos ((tn_zero_iff q).2 hq) (Ev.pos (by omega) ih'))
      · simp only [hq, decide_false, Bool.false_eq_true, if_false, List.append_nil] at ih'
        by_cases hd : td q ≤ 1000000
        · rw [mk_of hd]
          exact Ev.pos rfl (Ev.neg (fun h => hq ((tn_zero_iff q).1 h)) ih')
        · rw [show mk q = (0, 0, false) from if_neg hd]
          exact Ev.neg (by decide) ih'
theorem spec_ThreeMeet_ev (a b s c d t m n u : Int) : Ev (fun k => spec_ThreeMeet.f k a b s c d t m n u) (vThree a b s c d t m n u) := by
  unfold spec_ThreeMeet.f vThree
  have hl := vAheadT_len a b s c d t 0 1
  have no : ∀ l, Ev (fun k => spec_ThreeMeet.j0 k l true a b s m n u) ([], false) := fun l => by
    refine Ev.step (f := fun _ => some ([], false)) (fun k => ?_) (Ev.now _)
    simp only [spec_ThreeMeet.j0]; rfl
  refine Ev.bind (spec_MeetTimes_ev a b s c d t) ?_
  by_cases h : (vAheadT a b s c d t 0 1).2 = true
  · refine Ev.pos h ?_
    rw [if_pos h]
    refine Ev.bind (spec_meGood_ev m n u) ?_
    cases h2 : isH m n u
    · exact no _
    · rw [if_pos rfl]
      refine Ev.step (f := fun k => spec_ThreeMeet.l0 k [] (vAheadT a b s c d t 0 1).1 ((vAheadT a b s c d t 0 1).1.length : Int) 0 a b s m n u) (fun k => ?_) ?_
      · simp only [spec_ThreeMeet.j0]; rfl
      · exact spec_ThreeMeet_l0 _ hl (vAheadT_all h) a b s m n u (vAheadT_hands h).1 h2 _ 0 rfl (by omega)
  · refine Ev.neg h ?_
    rw [if_neg h]; exact no _

/-! impl_within -/
theorem impl_within_eq (a b c : Int) : impl_within.f a b c = some (decide (b ≤ a ∧ a ≤ c)) := by
  unfold impl_within.f
  by_cases h : a ≥ b
  · rw [if_pos h]; simp [show b ≤ a from h]
  · rw [if_neg h]; simp [show ¬ b ≤ a from h]

/-! impl_gcd -/
theorem impl_gcd_l0 : ∀ (n : Nat) (a b : Int), 0 ≤ a → a ≤ 9223372036854775807 → 0 ≤ b → b ≤ 9223372036854775807 → b < n → Ev (fun k => impl_gcd.l0 k a b) (Int.gcd a b : Int) := by
  intro n
  induction n with
  | zero => intro a b _ _ h1 _ h2; omega
  | succ n ih =>
    intro a b ha ha' hb hb' hn
    by_cases h : b = 0
    · subst h
      refine Ev.step (f := fun _ => some a) (fun k => ?_) ?_
      · simp only [impl_gcd.l0]
        rw [wrap_id (by omega) (by omega)]
        unfold mx; simp; omega
      · rw [gcd_zero ha]; exact Ev.now a
    · have h1 := tmod_range ha (show 0 < b by omega)
      refine Ev.step (f := fun k => impl_gcd.l0 k b (Int.tmod a b)) (fun k => ?_) ?_
      · simp only [impl_gcd.l0]
        rw [if_neg h]
      · rw [← gcd_step ha (show 0 < b by omega)]
        exact ih b _ (by omega) (by omega) (by omega) (by omega) (by omega)
theorem impl_gcd_ev (a b : Int) (ha : 0 ≤ a) (ha' : a ≤ 9223372036854775807) (hb : 0 ≤ b) (hb' : b ≤ 9223372036854775807) : Ev (fun k => impl_gcd.f k a b) (Int.gcd a b : Int) := by
  unfold impl_gcd.f
  exact impl_gcd_l0 (b.toNat + 1) a b ha ha' hb hb' (by omega)

/-! impl_IsTurn -/
theorem impl_IsTurn_ev (n d : Int) : Ev (fun k => impl_IsTurn.f k n d) (isT n d) := by
  unfold impl_IsTurn.f
  simp only [impl_within_eq, Option.bind_some]
  by_cases h : 1 ≤ d ∧ d ≤ 1000000
  · refine Ev.pos (by simpa using h) ?_
    rw [wrap_id (by omega) (by omega)]
    by_cases h2 : 0 ≤ n ∧ n ≤ d - 1
    · refine Ev.pos (by simpa using h2) ?_
      refine Ev.bind (impl_gcd_ev n d (by omega) (by omega) (by omega) (by omega)) ?_
      refine Ev.val (Ev.now _) ?_
      unfold isT
      rw [Bool.eq_iff_iff]; simp; omega
    · refine Ev.neg (by simpa using h2) ?_
      refine Ev.val (Ev.now _) ?_
      unfold isT
      rw [Bool.eq_iff_iff]; simp; omega
  · refine Ev.neg (by simpa using h) ?_
    refine Ev.val (Ev.now _) ?_
    unfold isT
    rw [Bool.eq_iff_iff]; simp; omega

/-! impl_isCoarse -/
theorem impl_isCoarse_ev (n d : Int) : Ev (fun k => impl_isCoarse.f k n d) (isC n d) := by
  unfold impl_isCoarse.f isC
  refine Ev.bind (impl_IsTurn_ev n d) ?_
  cases isT n d
  · exact Ev.val (Ev.now _) (by simp)
  · exact Ev.val (Ev.now _) (by simp)

/-! impl_IsHand -/
theorem impl_IsHand_ev (n d s : Int) : Ev (fun k => impl_IsHand.f k n d s) (isH n d s) := by
  unfold impl_IsHand.f isH
  refine Ev.bind (impl_isCoarse_ev n d) ?_
  simp only [impl_within_eq, Option.bind_some]
  cases isC n d
  · exact Ev.val (Ev.now _) (by simp)
  · exact Ev.val (Ev.now _) (by simp)

/-! impl_areHands_1 -/
theorem impl_areHands_1_ev (n d s : Int) : Ev (fun k => impl_areHands_1.f k n d s) (!isH n d s) := by
  unfold impl_areHands_1.f
  exact Ev.bind (impl_IsHand_ev n d s) (Ev.now _)

/-! impl_areHands -/
theorem impl_areHands_g : ∀ l : List S30, Ev (fun k => impl_areHands.g k l) (l.all fun x => isH x.f0.f0 x.f0.f1 x.f1)
  | [] => Ev.now _
  | x :: xs => by
    have e : (fun k => impl_areHands.g k (x :: xs)) = fun k => (impl_areHands_1.f k x.f0.f0 x.f0.f1 x.f1).bind fun b => if b = true then some false else impl_areHands.g k xs := by funext k; rfl
    rw [e]
    refine Ev.bind (impl_areHands_1_ev _ _ _) ?_
    rw [List.all_cons]
    cases isH x.f0.f0 x.f0.f1 x.f1
    · exact Ev.pos rfl (Ev.now _)
    · exact Ev.neg (by decide) (impl_areHands_g xs)
theorem impl_areHands_ev (l : List S30) (hl : l.length < 4611686018427387904) : Ev (fun k => impl_areHands.f k l) (l.all fun x => isH x.f0.f0 x.f0.f1 x.f1) := by
  unfold impl_areHands.f
  exact Ev.pos hl (impl_areHands_g l)
theorem impl_areHands_two (a b s c d t : Int) : Ev (fun k => impl_areHands.f k [(⟨(⟨a, b⟩ : S26), s⟩ : S30), (⟨(⟨c, d⟩ : S26), t⟩ : S30)]) (isH a b s && isH c d t) :=
  Ev.val (impl_areHands_ev _ (by simp)) (by simp)

/-! impl_floorDiv -/
theorem impl_floorDiv_eq (a b : Int) (hb : 0 < b) (hb' : b ≤ 4000000000000000000) (ha : -4000000000000000000 ≤ a) (ha' : a ≤ 4000000000000000000) : impl_floorDiv.f a b = some (a / b, a % b) := by
  obtain ⟨h1, h2, h3⟩ := floor_of_trunc a b hb
  obtain ⟨h4, h5⟩ := tdiv_bound a b hb
  have h8 := tmod_bound a b hb
  obtain ⟨h6, h7⟩ := ediv_bound a b hb
  unfold impl_floorDiv.f
  rw [if_neg (by omega)]
  by_cases h : Int.tmod a b < 0
  · rw [if_pos h]
    obtain ⟨e1, e2⟩ := h2 h
    rw [wrap_id (x := Int.tdiv a b) (by omega) (by omega), wrap_id (by omega) (by omega), wrap_id (by omega) (by omega), e1, e2]
  · rw [if_neg h]
    obtain ⟨e1, e2⟩ := h3 (by omega)
    rw [wrap_id (by omega) (by omega), e1, e2]

/-! impl_part -/
theorem impl_part_ev (n d : Int) (hd : 0 < d) (hd' : d ≤ 4000000000000000000) (hn : -4000000000000000000 ≤ n) (hn' : n ≤ 4000000000000000000) : Ev (fun k => impl_part.f k n d) (tn ((n : Rat) / d), td ((n : Rat) / d)) := by
  unfold impl_part.f
  rw [impl_floorDiv_eq n d hd hd' hn hn']
  simp only [Option.bind_some]
  have h0 := Int.emod_nonneg n (show d ≠ 0 by omega)
  have h1 := Int.emod_lt_of_pos n hd
  refine Ev.bind (impl_gcd_ev (n % d) d h0 (by omega) (by omega) (by omega)) ?_
  have hg := gcd_pos' (n % d) hd
  refine Ev.neg (by omega) ?_
  have e1 := Int.tdiv_eq_ediv_of_nonneg (b := (Int.gcd (n % d) d : Int)) h0
  have e2 := Int.tdiv_eq_ediv_of_nonneg (b := (Int.gcd (n % d) d : Int)) (show 0 ≤ d by omega)
  have b1 := ediv_le' h0 hg
  have b2 := ediv_le' (show 0 ≤ d by omega) hg
  rw [e1, e2, wrap_id (by omega) (by omega), wrap_id (by omega) (by omega), tn_div n d hd, td_div n d hd]
  exact Ev.now _

/-! impl_Turn_minus -/
theorem impl_Turn_minus_ev (a b c d : Int) (hb : 0 < b) (hd : 0 < d) (hm : b * d ≤ 1000000000000000000) (ha : -b ≤ a) (ha' : a ≤ b) (hc : -d ≤ c) (hc' : c ≤ d) : Ev (fun k => impl_Turn_minus.f k a b c d) (tn ((a : Rat) / b - (c : Rat) / d), td ((a : Rat) / b - (c : Rat) / d)) := by
  have m1 := mul_bound (a := a) (b := d) (A := b) (B := d) (by omega) (by omega) (by omega) (by omega)
  have m2 := mul_bound (a := c) (b := b) (A := d) (B := b) (by omega) (by omega) (by omega) (by omega)
  have m3 := Int.mul_pos hb hd
  rw [Int.mul_comm d b] at m2
  unfold impl_Turn_minus.f
  rw [wrap_id (x := a * d) (by omega) (by omega), wrap_id (x := c * b) (by omega) (by omega), wrap_id (x := b * d) (by omega) (by omega), wrap_id (by omega) (by omega)]
  rw [← q_sub hb hd]
  exact Ev.bind (impl_part_ev _ _ (by omega) (by omega) (by omega) (by omega)) (Ev.now _)
theorem impl_Turn_minus_fr (p q : Rat) (hm : td p * td q ≤ 1000000000000000000) : Ev (fun k => impl_Turn_minus.f k (tn p) (td p) (tn q) (td q)) (tn (p - q), td (p - q)) := by
  have h1 := tn_nonneg p
  have h2 := tn_lt p
  have h3 := tn_nonneg q
  have h4 := tn_lt q
  refine Ev.val (impl_Turn_minus_ev _ _ _ _ (td_pos p) (td_pos q) hm (by omega) (by omega) (by omega) (by omega)) ?_
  rw [tn_td, tn_td]
  exact tt_of_fr (fr_minus p q)

/-! impl_relative -/
theorem impl_relative_ev (a b s c d t : Int) (h1 : isH a b s = true) (h2 : isH c d t = true) : Ev (fun k => impl_relative.f k a b s c d t) (tn ((a : Rat) / b - (c : Rat) / d), td ((a : Rat) / b - (c : Rat) / d), s - t) := by
  obtain ⟨u1, u2⟩ := isH_speed h1
  obtain ⟨u3, u4⟩ := isH_speed h2
  obtain ⟨p0, p5⟩ := isC_iff.1 (isH_iff.1 h1).1
  obtain ⟨r0, r5⟩ := isC_iff.1 (isH_iff.1 h2).1
  obtain ⟨p1, p2, p3, p4, _⟩ := isT_iff.1 p0
  obtain ⟨r1, r2, r3, r4, _⟩ := isT_iff.1 r0
  have m3 := mul_bound (a := b) (b := d) (A := 1000) (B := 1000) (by omega) (by omega) (by omega) (by omega)
  unfold impl_relative.f
  rw [wrap_id (x := s - t) (by omega) (by omega)]
  exact Ev.bind (impl_Turn_minus_ev a b c d (by omega) (by omega) (by omega) (by omega) (by omega) (by omega) (by omega)) (Ev.now _)

/-! impl_areTurns_1 -/
theorem impl_areTurns_1_ev (n d : Int) : Ev (fun k => impl_areTurns_1.f k n d) (!isT n d) := by
  unfold impl_areTurns_1.f
  exact Ev.bind (impl_IsTurn_ev n d) (Ev.now _)

/-! impl_areTurns -/
theorem impl_areTurns_g : ∀ l : List S26, Ev (fun k => impl_areTurns.g k l) (l.all fun x => isT x.f0 x.f1)
  | [] => Ev.now _
  | x :: xs => by
    have e : (fun k => impl_areTurns.g k (x :: xs)) = fun k => (impl_areTurns_1.f k x.f0 x.f1).bind fun b => if b = true then some false else impl_areTurns.g k xs := by funext k; rfl
    rw [e]
    refine Ev.bind (impl_areTurns_1_ev _ _) ?_
    rw [List.all_cons]
    cases isT x.f0 x.f1
    · exact Ev.pos rfl (Ev.now _)
    · exact Ev.neg (by decide) (impl_areTurns_g xs)
theorem impl_areTurns_ev (l : List S26) (hl : l.length < 4611686018427387904) : Ev (fun k => impl_areTurns.f k l) (l.all fun x => isT x.f0 x.f1) := by
  unfold impl_areTurns.f
  exact Ev.pos hl (impl_areTurns_g l)
theorem impl_areTurns_two (a b c d : Int) : Ev (fun k => impl_areTurns.f k [(⟨a, b⟩ : S26), (⟨c, d⟩ : S26)]) (isT a b && isT c d) :=
  Ev.val (impl_areTurns_ev _ (by simp)) (by simp)

/-! impl_ifTurns -/
theorem impl_ifTurns_ev (l : List S26) (b : Bool) (hl : l.length < 4611686018427387904) : Ev (fun k => impl_ifTurns.f k l b) (if (b && l.all fun x => isT x.f0 x.f1) = true then (l, true) else ([], false)) := by
  unfold impl_ifTurns.f
  cases b
  · exact Ev.neg (by decide) (Ev.now _)
  refine Ev.pos rfl ?_
  refine Ev.bind (impl_areTurns_ev l hl) ?_
  rw [Bool.true_and]
  split <;> exact Ev.now _
theorem impl_ifTurns_roots (w : Rat) (s : Int) (hs : s ≤ 100000) : Ev (fun k => impl_ifTurns.f k (rl w s s.toNat) (okR w s s.toNat)) (vRoots w s) := by
  refine Ev.val (impl_ifTurns_ev _ _ (by rw [rl_length]; omega)) ?_
  show (if (okR w s s.toNat && okR w s s.toNat) = true then _ else _) = _
  rw [Bool.and_self]; rfl

/-! impl_Turn_times -/
theorem impl_Turn_times_ev (a b k : Int) (hb : 0 < b) (hb' : b ≤ 4000000000000000000) (h0 : -4000000000000000000 ≤ a * k) (h1 : a * k ≤ 4000000000000000000) : Ev (fun n => impl_Turn_times.f n a b k) (tn (k * ((a : Rat) / b)), td (k * ((a : Rat) / b))) := by
  unfold impl_Turn_times.f
  rw [wrap_id (by omega) (by omega), ← q_mul hb]
  exact Ev.bind (impl_part_ev _ _ hb hb' h0 h1) (Ev.now _)
theorem impl_Turn_times_fr (p : Rat) (k : Int) (hp : td p ≤ 10000000000) (h0 : -100000 ≤ k) (h1 : k ≤ 100000) : Ev (fun n => impl_Turn_times.f n (tn p) (td p) k) (tn (k * p), td (k * p)) := by
  have h2 := tn_nonneg p
  have h3 := tn_lt p
  have m1 := mul_bound (a := tn p) (b := k) (A := 10000000000) (B := 100000) (by omega) (by omega) h0 h1
  refine Ev.val (impl_Turn_times_ev _ _ k (td_pos p) (by omega) (by omega) (by omega)) ?_
  rw [tn_td]
  exact tt_of_fr (fr_mul_fr k p)
theorem impl_Turn_times_T (a b k : Int) (h : isT a b = true) (h0 : -100000 ≤ k) (h1 : k ≤ 100000) : Ev (fun n => impl_Turn_times.f n a b k) (tn (k * ((a : Rat) / b)), td (k * ((a : Rat) / b))) := by
  obtain ⟨p1, p2, p3, p4, _⟩ := isT_iff.1 h
  have m1 := mul_bound (a := a) (b := k) (A := 1000000) (B := 100000) (by omega) (by omega) h0 h1
  exact impl_Turn_times_ev a b k (by omega) (by omega) (by omega) (by omega)

/-! impl_Turn_mirror -/
theorem impl_Turn_mirror_fr (p : Rat) (hp : td p ≤ 10000000000) : Ev (fun n => impl_Turn_mirror.f n (tn p) (td p)) (tn (-p), td (-p)) := by
  unfold impl_Turn_mirror.f
  refine Ev.bind (impl_Turn_times_fr p (-1) hp (by omega) (by omega)) ?_
  rw [neg_one_mul']
  exact Ev.now _
theorem impl_Turn_mirror_T (a b : Int) (h : isT a b = true) : Ev (fun n => impl_Turn_mirror.f n a b) (tn (-((a : Rat) / b)), td (-((a : Rat) / b))) := by
  unfold impl_Turn_mirror.f
  refine Ev.bind (impl_Turn_times_T a b (-1) h (by omega) (by omega)) ?_
  rw [neg_one_mul']
  exact Ev.now _

/-! impl_roots -/
theorem impl_roots_l0 (w : Rat) (s : Int) (hs : 0 < s) (hs' : s ≤ 100000) (hw : td w ≤ 10000000000) : ∀ (n i : Nat), s.toNat - i = n → i ≤ s.toNat →
    Ev (fun k => impl_roots.l0 k s (rl (fr w) s i) s i (tn w) (td w)) (rl (fr w) s s.toNat, okR (fr w) s s.toNat) := by
  intro n
  induction n with
  | zero =>
    intro i h0 h1
    have hi : i = s.toNat := by omega
    refine Ev.step (f := fun k => ((impl_areTurns.f k (rl (fr w) s i)).bind fun t => (some (rl (fr w) s i, t)))) (fun k => ?_) ?_
    · simp only [impl_roots.l0]; rw [if_neg (by omega)]
    · refine Ev.bind (impl_areTurns_ev _ (by rw [rl_length]; omega)) ?_
      rw [hi]; exact Ev.now _
  | succ n ih =>
    intro i h0 h1
    have hb := td_pos w
    have h2 := tn_nonneg w
    have h3 := tn_lt w
    have m1 := mul_bound (a := (i : Int)) (b := td w) (A := 100000) (B := 10000000000) (by omega) (by omega) (by omega) (by omega)
    have m2 := mul_bound (a := td w) (b := s) (A := 10000000000) (B := 100000) (by omega) (by omega) (by omega) (by omega)
    have m3 := Int.mul_pos hb hs
    have e1 : ((tn w + (i : Int) * td w : Int) : Rat) / ((td w * s : Int) : Rat) = (fr w + (((i : Nat) : Int) : Rat)) / (s : Rat) := q_root hb hs i
    refine Ev.step (f := fun k => ((impl_part.f k (tn w + (i : Int) * td w) (td w * s)).bind fun bt => (if (rl (fr w) s i).length < 8796093022208 then (impl_roots.l0 k s (rl (fr w) s i ++ [⟨bt.1, bt.2⟩]) s ((i + 1 : Nat) : Int) (tn w) (td w)) else none))) (fun k => ?_) ?_
    · simp only [impl_roots.l0]
      rw [if_pos (by omega), wrap_id (x := (i : Int) * td w) (by omega) (by omega), wrap_id (x := td w * s) (by omega) (by omega), wrap_id (x := tn w + (i : Int) * td w) (by omega) (by omega), wrap_id (x := (i : Int) + 1) (by omega) (by omega)]
      rfl
    · refine Ev.bind (impl_part_ev _ _ m3 (by omega) (by omega) (by omega)) ?_
      refine Ev.pos (by rw [rl_length]; omega) ?_
      rw [e1]
      have := ih (i + 1) (by omega) (by omega)
      rw [rl_succ] at this
      exact this
theorem impl_roots_ev (w : Rat) (s : Int) (hs : 0 < s) (hs' : s ≤ 100000) (hw : td w ≤ 10000000000) : Ev (fun k => impl_roots.f k (tn w) (td w) s) (rl (fr w) s s.toNat, okR (fr w) s s.toNat) := by
  unfold impl_roots.f
  exact impl_roots_l0 w s hs hs' hw s.toNat 0 (by omega) (by omega)

/-! impl_Hand_timesAt -/
theorem impl_Hand_timesAt_ev (a b s c d : Int) (hs : s ≠ 0) (h0 : -1000 ≤ s) (h1 : s ≤ 1000) (hb : 0 < b) (hd : 0 < d) (hm : b * d ≤ 10000000000) (ha : -b ≤ a) (ha' : a ≤ b) (hc : -d ≤ c) (hc' : c ≤ d) : Ev (fun k => impl_Hand_timesAt.f k a b s c d) (vTimesAt ((c : Rat) / d - (a : Rat) / b) s) := by
  have hq : td ((c : Rat) / d - (a : Rat) / b) ≤ 10000000000 := by
    rw [← q_sub hd hb]
    have m3 := Int.mul_pos hd hb
    have := td_div_le (c * b - a * d) (d * b) m3
    rw [Int.mul_comm d b] at this
    rw [Int.mul_comm d b]
    omega
  unfold impl_Hand_timesAt.f
  refine Ev.bind (impl_Turn_minus_ev c d a b hd hb (by rw [Int.mul_comm]; omega) hc hc' ha ha') ?_
  generalize (c : Rat) / d - (a : Rat) / b = q at hq ⊢
  unfold vTimesAt
  by_cases hn : s < 0
  · refine Ev.pos hn ?_
    rw [if_pos hn, wrap_id (by omega) (by omega)]
    refine Ev.bind (impl_Turn_mirror_fr q hq) ?_
    refine Ev.bind (impl_roots_ev (-q) (-s) (by omega) (by omega) (by have := td_neg q; omega)) ?_
    exact Ev.bind (impl_ifTurns_roots _ (-s) (by omega)) (Ev.now _)
  · refine Ev.neg hn ?_
    rw [if_neg hn]
    refine Ev.bind (impl_roots_ev q s (by omega) (by omega) hq) ?_
    exact Ev.bind (impl_ifTurns_roots _ s (by omega)) (Ev.now _)

/-! impl_aheadTimes -/
theorem impl_aheadTimes_ev (a b s c d t m n : Int) (hn : 0 < n) (hn' : n ≤ 1000) (hm : 0 ≤ m) (hm' : m ≤ n) : Ev (fun k => impl_aheadTimes.f k a b s c d t m n) (vAheadT a b s c d t m n) := by
  unfold impl_aheadTimes.f vAheadT vAsked
  have no : Ev (fun k => impl_aheadTimes.j0 k true a b s c d t m n) ([], false) := by
    refine Ev.step (f := fun _ => some ([], false)) (fun k => ?_) (Ev.now _)
    simp only [impl_aheadTimes.j0]; rfl
  refine Ev.bind (impl_areHands_two a b s c d t) ?_
  cases h : isH a b s && isH c d t
  · exact Ev.neg (by decide) no
  refine Ev.pos rfl ?_
  rw [Bool.and_eq_true] at h
  obtain ⟨h1, h2⟩ := h
  by_cases hs : s = t
  · rw [show (s == t) = true by simpa using hs, show (true && (s != t)) = false by simp [hs]]
    exact no
  rw [show (s == t) = false by simpa using hs, show (true && (s != t)) = true by simpa using hs, if_pos rfl]
  obtain ⟨u1, u2⟩ := isH_speed h1
  obtain ⟨u3, u4⟩ := isH_speed h2
  have hst := td_start h1 h2
  have g0 := td_pos ((a : Rat) / b - (c : Rat) / d)
  have g1 := tn_nonneg ((a : Rat) / b - (c : Rat) / d)
  have g2 := tn_lt ((a : Rat) / b - (c : Rat) / d)
  have m3 := mul_bound (a := td ((a : Rat) / b - (c : Rat) / d)) (b := n) (A := 1000000) (B := 1000) (by omega) (by omega) (by omega) (by omega)
  refine Ev.step (f := fun k => (impl_relative.f k a b s c d t).bind fun bt => ((impl_Hand_timesAt.f k bt.1 bt.2.1 bt.2.2 m n).bind fun bt => (some (bt.1, bt.2)))) (fun k => ?_) ?_
  · simp only [impl_aheadTimes.j0]; simp
  refine Ev.bind (impl_relative_ev a b s c d t h1 h2) ?_
  have := impl_Hand_timesAt_ev (tn ((a : Rat) / b - (c : Rat) / d)) (td ((a : Rat) / b - (c : Rat) / d)) (s - t) m n (by omega) (by omega) (by omega) g0 hn (by omega) (by omega) (by omega) (by omega) (by omega)
  rw [tn_td] at this
  exact Ev.bind this (Ev.now _)

/-! impl_MeetTimes -/
theorem impl_MeetTimes_ev (a b s c d t : Int) : Ev (fun k => impl_MeetTimes.f k a b s c d t) (vAheadT a b s c d t 0 1) := by
  unfold impl_MeetTimes.f
  exact Ev.bind (impl_aheadTimes_ev a b s c d t 0 1 (by omega) (by omega) (by omega) (by omega)) (Ev.now _)

/-! impl_Turn_plus -/
theorem impl_Turn_plus_ev (a b c d : Int) (hb : 0 < b) (hd : 0 < d) (hm : b * d ≤ 1000000000000000000) (ha : -b ≤ a) (ha' : a ≤ b) (hc : -d ≤ c) (hc' : c ≤ d) : Ev (fun k => impl_Turn_plus.f k a b c d) (tn ((a : Rat) / b + (c : Rat) / d), td ((a : Rat) / b + (c : Rat) / d)) := by
  have m1 := mul_bound (a := a) (b := d) (A := b) (B := d) (by omega) (by omega) (by omega) (by omega)
  have m2 := mul_bound (a := c) (b := b) (A := d) (B := b) (by omega) (by omega) (by omega) (by omega)
  have m3 := Int.mul_pos hb hd
  rw [Int.mul_comm d b] at m2
  unfold impl_Turn_plus.f
  rw [wrap_id (x := a * d) (by omega) (by omega), wrap_id (x := c * b) (by omega) (by omega), wrap_id (x := b * d) (by omega) (by omega), wrap_id (by omega) (by omega)]
  rw [← q_add hb hd]
  exact Ev.bind (impl_part_ev _ _ (by omega) (by omega) (by omega) (by omega)) (Ev.now _)
theorem impl_Turn_plus_fr (p q : Rat) (hm : td p * td q ≤ 1000000000000000000) : Ev (fun k => impl_Turn_plus.f k (tn p) (td p) (tn q) (td q)) (tn (p + q), td (p + q)) := by
  have h1 := tn_nonneg p
  have h2 := tn_lt p
  have h3 := tn_nonneg q
  have h4 := tn_lt q
  refine Ev.val (impl_Turn_plus_ev _ _ _ _ (td_pos p) (td_pos q) hm (by omega) (by omega) (by omega) (by omega)) ?_
  rw [tn_td, tn_td]
  exact tt_of_fr (fr_plus p q)

/-! impl_Hand_at -/
theorem impl_Hand_at_ev (p q : Rat) (s : Int) (hp : td p * td (s * q) ≤ 1000000000000000000) (hq : td q ≤ 10000000000) (h0 : -100000 ≤ s) (h1 : s ≤ 100000) : Ev (fun k => impl_Hand_at.f k (tn p) (td p) s (tn q) (td q)) (tn (p + s * q), td (p + s * q)) := by
  unfold impl_Hand_at.f
  refine Ev.bind (impl_Turn_times_fr q s hq h0 h1) ?_
  exact Ev.bind (impl_Turn_plus_fr p (s * q) hp) (Ev.now _)
theorem impl_Hand_at_T (a b s c d : Int) (h1 : isT a b = true) (h2 : isT c d = true) (h0 : -1000 ≤ s) (h3 : s ≤ 1000) : Ev (fun k => impl_Hand_at.f k a b s c d) (tn ((a : Rat) / b + s * ((c : Rat) / d)), td ((a : Rat) / b + s * ((c : Rat) / d))) := by
  obtain ⟨e1, e2⟩ := isT_canon h1
  obtain ⟨e3, e4⟩ := isT_canon h2
  obtain ⟨p1, p2, p3, p4, _⟩ := isT_iff.1 h1
  obtain ⟨r1, r2, r3, r4, _⟩ := isT_iff.1 h2
  have hq : td ((s : Rat) * ((c : Rat) / d)) ≤ 1000000 := Int.le_trans (td_mul_le (show 0 < d by omega)) r2
  have hq' := td_pos ((s : Rat) * ((c : Rat) / d))
  have := impl_Hand_at_ev ((a : Rat) / b) ((c : Rat) / d) s (by
    have m3 := mul_bound (a := td ((a : Rat) / b)) (b := td ((s : Rat) * ((c : Rat) / d))) (A := 1000000) (B := 1000000) (by omega) (by omega) (by omega) (by omega)
    omega) (by omega) (by omega) (by omega)
  rwa [e1, e2, e3, e4] at this

/-! impl_ThreeMeet_1 -/
theorem impl_ThreeMeet_1_ev (x : S26) (a b s m n u : Int) (hx : isT x.f0 x.f1 = true) (h1 : isH a b s = true) (h2 : isH m n u = true) : Ev (fun k => impl_ThreeMeet_1.f k x.f0 x.f1 a b s m n u) (!thP a b s m n u x) := by
  obtain ⟨u1, u2⟩ := isH_speed h1
  obtain ⟨u3, u4⟩ := isH_speed h2
  have p0 := (isC_iff.1 (isH_iff.1 h1).1).1
  have r0 := (isC_iff.1 (isH_iff.1 h2).1).1
  unfold impl_ThreeMeet_1.f
  refine Ev.bind (impl_Hand_at_T a b s x.f0 x.f1 p0 hx (by omega) (by omega)) ?_
  refine Ev.bind (impl_Hand_at_T m n u x.f0 x.f1 r0 hx (by omega) (by omega)) ?_
  have e := th_same a b s m n u x
  refine Ev.val (Ev.now _) ?_
  cases h : thP a b s m n u x
  · rw [h] at e
    have e2 : ¬ (tn ((a : Rat) / b + s * ((x.f0 : Rat) / x.f1)) = tn ((m : Rat) / n + u * ((x.f0 : Rat) / x.f1)) ∧ td ((a : Rat) / b + s * ((x.f0 : Rat) / x.f1)) = td ((m : Rat) / n + u * ((x.f0 : Rat) / x.f1))) := fun hh => absurd (e.1 hh) (by decide)
    clear e
    generalize tn ((a : Rat) / b + s * ((x.f0 : Rat) / x.f1)) = y1 at *
    generalize tn ((m : Rat) / n + u * ((x.f0 : Rat) / x.f1)) = y2 at *
    generalize td ((a : Rat) / b + s * ((x.f0 : Rat) / x.f1)) = y3 at *
    generalize td ((m : Rat) / n + u * ((x.f0 : Rat) / x.f1)) = y4 at *
    by_cases hy : y1 = y2
    · by_cases hz : y3 = y4
      · exact (e2 ⟨hy, hz⟩).elim
      · simp [hz]
    · simp [hy]
  · obtain ⟨e1, e2⟩ := e.2 h
    rw [e1, e2]; simp

/-! impl_ThreeMeet_del -/
theorem impl_ThreeMeet_del_g (a b s m n u : Int) (h1 : isH a b s = true) (h2 : isH m n u = true) : ∀ (l : List S26), (l.all fun x => isT x.f0 x.f1) = true → Ev (fun k => impl_ThreeMeet_del.g k a b s m n u l) (l.filter (thP a b s m n u))
  | [], _ => by
    exact Ev.cong (f := fun _ => some []) (Ev.now _) (funext fun k => by simp only [impl_ThreeMeet_del.g])
  | x :: xs, h => by
    simp only [List.all_cons, Bool.and_eq_true] at h
    refine Ev.cong (f := fun k => (impl_ThreeMeet_1.f k x.f0 x.f1 a b s m n u).bind fun q => (impl_ThreeMeet_del.g k a b s m n u xs).bind fun r => some (if q = true then r else x :: r)) ?_ (funext fun k => by simp only [impl_ThreeMeet_del.g])
    · refine Ev.bind (impl_ThreeMeet_1_ev x a b s m n u h.1 h1 h2) ?_
      refine Ev.bind (impl_ThreeMeet_del_g a b s m n u h1 h2 xs h.2) ?_
      refine Ev.val (Ev.now _) ?_
      rw [List.filter_cons]
      cases thP a b s m n u x <;> simp
theorem impl_ThreeMeet_del_ev (a b s m n u : Int) (h1 : isH a b s = true) (h2 : isH m n u = true) (l : List S26) (hl : l.length ≤ 1000) (h : (l.all fun x => isT x.f0 x.f1) = true) : Ev (fun k => impl_ThreeMeet_del.f k l a b s m n u) (l.filter (thP a b s m n u)) := by
  unfold impl_ThreeMeet_del.f
  exact Ev.pos (by omega) (impl_ThreeMeet_del_g a b s m n u h1 h2 l h)

/-! impl_ThreeMeet -/
theorem impl_ThreeMeet_ev (a b s c d t m n u : Int) : Ev (fun k => impl_ThreeMeet.f k a b s c d t m n u) (vThree a b s c d t m n u) := by
  unfold impl_ThreeMeet.f vThree
  refine Ev.bind (impl_MeetTimes_ev a b s c d t) ?_
  have hl := vAheadT_len a b s c d t 0 1
  by_cases h : (vAheadT a b s c d t 0 1).2 = true
  · refine Ev.pos h ?_
    rw [if_pos h]
    refine Ev.bind (impl_IsHand_ev m n u) ?_
    cases h2 : isH m n u
    · exact Ev.neg (by decide) (Ev.now _)
    refine Ev.pos rfl ?_
    rw [if_pos rfl]
    exact Ev.bind (impl_ThreeMeet_del_ev a b s m n u (vAheadT_hands h).1 h2 _ hl (vAheadT_all h)) (Ev.now _)
  · refine Ev.neg h ?_
    rw [if_neg h]; exact Ev.now _

/-! laws_eqTurn -/
theorem laws_eqTurn_self (a b : Int) : laws_eqTurn.f a b a b = some true := by
  unfold laws_eqTurn.f; rw [if_pos rfl, if_pos rfl]

/-! laws_eqTurnS -/
theorem laws_eqTurnS_l0 (l : List S26) (hl : l.length ≤ 100000) : ∀ (n i : Nat), l.length - i = n → i ≤ l.length → Ev (fun k => laws_eqTurnS.l0 k l l i) true := by
  intro n
  induction n with
  | zero =>
    intro i h0 h1
    refine Ev.step (f := fun k => some true) (fun k => ?_) (Ev.now _)
    simp only [laws_eqTurnS.l0]; rw [if_neg (by omega)]
  | succ n ih =>
    intro i h0 h1
    refine Ev.step (f := fun k => laws_eqTurnS.l0 k l l ((i + 1 : Nat) : Int)) (fun k => ?_) (ih (i + 1) (by omega) (by omega))
    simp only [laws_eqTurnS.l0]
    rw [if_pos (by omega), if_pos (by omega), if_pos (by omega)]
    simp only [laws_eqTurn_self, Option.bind_some, if_true]
    rw [wrap_id (by omega) (by omega)]
    rfl
theorem laws_eqTurnS_self (l : List S26) (hl : l.length ≤ 100000) : Ev (fun k => laws_eqTurnS.f k l l) true := by
  unfold laws_eqTurnS.f
  exact Ev.pos rfl (laws_eqTurnS_l0 l hl l.length 0 (by omega) (by omega))

/-! laws_markTurnS -/
def mkdT (n : Nat) : List S26 := (List.range n).map fun (i : Nat) => (⟨2 * (i : Int) + 1, 2 * (i : Int) + 2⟩ : S26)
theorem mkdT_length (n : Nat) : (mkdT n).length = n := by unfold mkdT; simp
theorem mkdT_succ (n : Nat) : mkdT (n + 1) = mkdT n ++ [⟨2 * (n : Int) + 1, 2 * (n : Int) + 2⟩] := by
  unfold mkdT; rw [List.range_succ, List.map_append]; rfl
theorem set_mid {α : Type} (a : List α) (x y : α) (c : List α) : (a ++ x :: c).set a.length y = a ++ y :: c := by
  induction a with
  | nil => rfl
  | cons z a ih => simp only [List.cons_append, List.length_cons, List.set_cons_succ, ih]
theorem laws_markTurnS_l0 (l : List S26) (hl : l.length ≤ 100000) : ∀ (n i : Nat), l.length - i = n → i ≤ l.length → Ev (fun k => laws_markTurnS.l0 k (mkdT i ++ l.drop i) (2 * (i : Int) + 1) i) (2 * (l.length : Int) + 1, mkdT l.length) := by
  intro n
  induction n with
  | zero =>
    intro i h0 h1
    have hi : i = l.length := by omega
    refine Ev.step (f := fun k => some (2 * (i : Int) + 1, mkdT i ++ l.drop i)) (fun k => ?_) ?_
    · simp only [laws_markTurnS.l0]; rw [if_neg (by rw [List.length_append, mkdT_length, List.length_drop]; omega)]
    · rw [hi, List.drop_length, List.append_nil]; exact Ev.now _
  | succ n ih =>
    intro i h0 h1
    have hlt : i < l.length := by omega
    refine Ev.step (f := fun k => laws_markTurnS.l0 k (mkdT (i + 1) ++ l.drop (i + 1)) (2 * ((i + 1 : Nat) : Int) + 1) ((i + 1 : Nat) : Int)) (fun k => ?_) (ih (i + 1) (by omega) (by omega))
    simp only [laws_markTurnS.l0]
    rw [if_pos (by rw [List.length_append, mkdT_length, List.length_drop]; omega), if_pos (by omega)]
    simp only [Option.bind_some]
    rw [wrap_id (x := 2 * (i : Int) + 1 + 1) (by omega) (by omega), wrap_id (x := 2 * (i : Int) + 1 + 1 + 1) (by omega) (by omega), wrap_id (x := (i : Int) + 1) (by omega) (by omega)]
    have e0 : ((i : Int)).toNat = (mkdT i).length := by rw [mkdT_length]; omega
    rw [List.drop_eq_getElem_cons hlt, e0]
    rw [set_mid, set_mid]
    have e1 : ∀ (y : Int) (c : List S26), rd_T26 (mkdT i ++ (⟨2 * (i : Int) + 1, y⟩ : S26) :: c) i = ⟨2 * (i : Int) + 1, y⟩ := by
      intro y c
      unfold rd_T26
      rw [e0]
      simp
    rw [e1, mkdT_succ, List.append_assoc]
    show laws_markTurnS.l0 k (mkdT i ++ (⟨2 * (i : Int) + 1, 2 * (i : Int) + 1 + 1⟩ : S26) :: l.drop (i + 1)) (2 * (i : Int) + 1 + 1 + 1) ((i : Int) + 1) = _
    rw [show 2 * (i : Int) + 1 + 1 + 1 = 2 * ((i + 1 : Nat) : Int) + 1 by omega, show 2 * (i : Int) + 1 + 1 = 2 * (i : Int) + 2 by omega]
    rfl
theorem laws_markTurnS_ev (l : List S26) (hl : l.length ≤ 100000) : Ev (fun k => laws_markTurnS.f k l 1) (2 * (l.length : Int) + 1, mkdT l.length) := by
  unfold laws_markTurnS.f
  exact laws_markTurnS_l0 l hl l.length 0 (by omega) (by omega)

/-! laws_heldTurnS -/
theorem laws_heldTurnS_l0 (m : Nat) (hl : m ≤ 100000) : ∀ (n i : Nat), m - i = n → i ≤ m → Ev (fun k => laws_heldTurnS.l0 k (mkdT m) (2 * (i : Int) + 1) i) (2 * (m : Int) + 1) := by
  intro n
  induction n with
  | zero =>
    intro i h0 h1
    have hi : i = m := by omega
    refine Ev.step (f := fun k => some (2 * (i : Int) + 1)) (fun k => ?_) ?_
    · simp only [laws_heldTurnS.l0]; rw [if_neg (by rw [mkdT_length]; omega)]
    · rw [hi]; exact Ev.now _
  | succ n ih =>
    intro i h0 h1
    have hlt : i < (mkdT m).length := by rw [mkdT_length]; omega
    have e1 : rd_T26 (mkdT m) i = ⟨2 * (i : Int) + 1, 2 * (i : Int) + 2⟩ := by
      unfold rd_T26 mkdT
      rw [show ((i : Int)).toNat = i by omega, List.getD_eq_getElem?_getD, List.getElem?_map, List.getElem?_range (by omega)]
      rfl
    refine Ev.step (f := fun k => laws_heldTurnS.l0 k (mkdT m) (2 * ((i + 1 : Nat) : Int) + 1) ((i + 1 : Nat) : Int)) (fun k => ?_) (ih (i + 1) (by omega) (by omega))
    simp only [laws_heldTurnS.l0]
    rw [if_pos (by rw [mkdT_length]; omega), if_pos (by omega), e1, wrap_id (x := 2 * (i : Int) + 1 + 1) (by omega) (by omega), wrap_id (x := 2 * (i : Int) + 1 + 1 + 1) (by omega) (by omega), wrap_id (x := (i : Int) + 1) (by omega) (by omega)]
    rw [if_pos rfl, if_pos (show 2 * (i : Int) + 2 = 2 * (i : Int) + 1 + 1 by omega), show 2 * (i : Int) + 1 + 1 + 1 = 2 * ((i + 1 : Nat) : Int) + 1 by omega]
    rfl
theorem laws_heldTurnS_ev (m : Nat) (hl : m ≤ 100000) : Ev (fun k => laws_heldTurnS.f k (mkdT m) 1) (2 * (m : Int) + 1) := by
  unfold laws_heldTurnS.f
  exact laws_heldTurnS_l0 m hl m 0 (by omega) (by omega)

/-! laws_FnExactThreeMeet -/
theorem FnExactThreeMeet : laws_FnExactThreeMeet.Pure := by
  intro a b s c d t m n u _ _ _ _ _ _ _ _ _
  apply Ev.rounds (g := fun k => laws_FnExactThreeMeet.f k a b s c d t m n u)
  have hl := vThree_len a b s c d t m n u
  have hs := spec_ThreeMeet_ev a b s c d t m n u
  have hi := impl_ThreeMeet_ev a b s c d t m n u
  generalize vThree a b s c d t m n u = v at hl hs hi
  obtain ⟨l, o⟩ := v
  have hl' : l.length ≤ 1000 := hl
  unfold laws_FnExactThreeMeet.f laws_toHand.f laws_toTurn.f
  simp only [Option.bind_some]
  refine Ev.bind hs (Ev.bind hi (Ev.bind (laws_eqTurnS_self l (by omega)) ?_))
  refine Ev.pos rfl ?_
  simp only [bne_self_eq_false]
  refine Ev.step (f := fun k => (laws_markTurnS.f k l 1).bind fun bt => ((laws_heldTurnS.f k bt.2 1).bind fun tq => (if tq < 0 then (some false) else (if tq = bt.1 then ((impl_ThreeMeet.f k a b s c d t m n u).bind fun bq => ((laws_eqTurnS.f k bq.1 l).bind fun tr => (if tr = true then (laws_FnExactThreeMeet.j1 k bt.2 bt.1 (bq.2 != o)) else (laws_FnExactThreeMeet.j1 k bt.2 bt.1 true)))) else (some false))))) (fun k => ?_) ?_
  · simp only [laws_FnExactThreeMeet.j0, Option.bind_some]
    unfold laws_toHand.f laws_toTurn.f
    simp only [Option.bind_some]
    rfl
  refine Ev.bind (laws_markTurnS_ev l (by omega)) ?_
  refine Ev.bind (laws_heldTurnS_ev l.length (by omega)) ?_
  refine Ev.neg (by omega) (Ev.pos rfl ?_)
  refine Ev.bind hi (Ev.bind (laws_eqTurnS_self l (by omega)) ?_)
  refine Ev.pos rfl ?_
  simp only [bne_self_eq_false]
  refine Ev.step (f := fun k => (laws_heldTurnS.f k (mkdT l.length) 1).bind fun tq => (if tq < 0 then (some false) else (if tq = 2 * (l.length : Int) + 1 then (some true) else (some false)))) (fun k => ?_) ?_
  · simp only [laws_FnExactThreeMeet.j1]; rfl
  refine Ev.bind (laws_heldTurnS_ev l.length (by omega)) ?_
  exact Ev.neg (by omega) (Ev.pos rfl (Ev.now _))

end Go.Proofs.Ytioggbokjfdoaaa.Pure
