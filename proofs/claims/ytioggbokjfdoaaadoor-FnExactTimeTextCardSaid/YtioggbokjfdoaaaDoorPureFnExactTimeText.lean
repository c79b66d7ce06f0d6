/- TimeText of the program answers as the reference does, whatever is given: the pure part of the proof. No condition. -/
import Derived.Test.YtioggbokjfdoaaaDoorPFnExactTimeTextx0
import Derived.Test.YtioggbokjfdoaaaDoorPFnExactTimeTextx1
import Derived.Test.YtioggbokjfdoaaaDoorPFnExactTimeTextx2
import Derived.Test.YtioggbokjfdoaaaDoorPFnExactTimeTextx3
import Derived.Test.YtioggbokjfdoaaaDoorPFnExactTimeTextx4
import Derived.Test.YtioggbokjfdoaaaDoorMath
import Derived.Lib.ItoaLen
set_option linter.unusedVariables false
set_option linter.unusedSimpArgs false
namespace Go.Proofs.YtioggbokjfdoaaaDoor.Pure
open Go.RowKit Go.Proofs.YtioggbokjfdoaaaDoor.PFnExactTimeText Go.Proofs.YtioggbokjfdoaaaDoorW.PrintWords Go.Proofs.YtioggbokjfdoaaaDoorW.PrintLast Go.Proofs.YtioggbokjfdoaaaDoorW.PrintMore Go.Proofs.YtioggbokjfdoaaaDoor.Math

/-! spec_l1In -/
theorem spec_l1In_eq (a b c : Int) : spec_l1In.f a b c = some (decide (b ≤ a ∧ a ≤ c)) := by
  unfold spec_l1In.f
  by_cases h : a ≥ b
  · rw [if_pos h]; simp [show b ≤ a from h]
  · rw [if_neg h]; simp [show ¬ b ≤ a from h]

/-! spec_diHours -/
theorem spec_diHours_eq (h : Int) : spec_diHours.f h = some (isD h) := by
  unfold spec_diHours.f isD; simp only [spec_l1In_eq, Option.bind_some]

/-! spec_diCommon -/
theorem spec_diCommon_l0 : ∀ (n : Nat) (a b : Int), 0 ≤ a → 0 ≤ b → b < n → Ev (fun k => spec_diCommon.l0 k a b) (Int.gcd a b : Int) := by
  intro n
  induction n with
  | zero => intro a b _ h1 h2; omega
  | succ n ih =>
    intro a b ha hb hn
    by_cases h : b = 0
    · subst h
      refine Ev.step (f := fun _ => some a) (fun k => ?_) ?_
      · simp only [spec_diCommon.l0]
        rw [if_neg (by omega)]
      · rw [gcd_zero ha]; exact Ev.now a
    · have h1 := tmod_range ha (show 0 < b by omega)
      refine Ev.step (f := fun k => spec_diCommon.l0 k b (Int.tmod a b)) (fun k => ?_) ?_
      · simp only [spec_diCommon.l0]
        rw [if_pos (by omega), if_neg h]
      · rw [← gcd_step ha (show 0 < b by omega)]
        exact ih b _ (by omega) (by omega) (by omega)
theorem spec_diCommon_ev (a b : Int) (ha : 0 ≤ a) (hb : 0 ≤ b) : Ev (fun k => spec_diCommon.f k a b) (Int.gcd a b : Int) := by
  unfold spec_diCommon.f
  exact spec_diCommon_l0 (b.toNat + 1) a b ha hb (by omega)

/-! spec_diGood -/
theorem spec_diGood_ev (n d : Int) : Ev (fun k => spec_diGood.f k n d) (isT n d) := by
  unfold spec_diGood.f
  simp only [spec_l1In_eq, Option.bind_some]
  by_cases h : 1 ≤ d ∧ d ≤ 1000000
  · refine Ev.pos (by simpa using h) ?_
    rw [wrap_id (by omega) (by omega)]
    by_cases h2 : 0 ≤ n ∧ n ≤ d - 1
    · refine Ev.pos (by simpa using h2) ?_
      refine Ev.bind (spec_diCommon_ev n d (by omega) (by omega)) ?_
      refine Ev.val (Ev.now _) ?_
      unfold isT
      rw [Bool.eq_iff_iff]; simp; omega
    · refine Ev.neg (by simpa using h2) ?_
      refine Ev.val (Ev.now _) ?_
      unfold isT
      rw [Bool.eq_iff_iff]; simp; omega
  · refine Ev.neg (by simpa using h) ?_
    refine Ev.val (Ev.now _) ?_
    unfold isT
    rw [Bool.eq_iff_iff]; simp; omega

/-! spec_diAsked -/
theorem spec_diAsked_ev (h n d : Int) : Ev (fun k => spec_diAsked.f k h n d) (isD h && isT n d) := by
  unfold spec_diAsked.f
  simp only [spec_diHours_eq, Option.bind_some]
  cases isD h
  · exact Ev.neg (by decide) (Ev.now _)
  · exact Ev.pos rfl (Ev.bind (spec_diGood_ev n d) (Ev.now _))

/-! h_text -/
/-- The digits of a number that is not below zero. -/
def dg (a : Int) : ByteArray := ⟨(Lib.decDigits a.toNat).toArray⟩
theorem sz1 (c : UInt8) : (⟨#[c]⟩ : ByteArray).size = 1 := rfl
theorem dg_size (a : Int) (h : a ≤ 1000000000000) : (dg a).size ≤ 20 := by
  show (Lib.decDigits a.toNat).toArray.size ≤ 20
  rw [List.size_toArray, Lib.decDigits_length]
  exact Lib.nDigits_le20 a.toNat (by omega)
theorem dg_one {a : Int} (h0 : 0 ≤ a) (h : a < 10) : strOfNums [(wrap64 (48 + a)) % 256] = dg a := by
  rw [wrap_id (by omega) (by omega), Int.emod_eq_of_lt (by omega) (by omega)]
  unfold dg strOfNums
  rw [Lib.decDigits_one (show a.toNat < 10 by omega)]
  simp only [List.map_cons, List.map_nil]
  rw [show (48 + a).toNat = 48 + a.toNat by omega]
theorem dg_more {a : Int} (h : 10 ≤ a) : dg (a / 10) ++ strOfNums [(wrap64 (48 + a % 10)) % 256] = dg a := by
  have h1 := Int.emod_nonneg a (show (10 : Int) ≠ 0 by decide)
  have h2 := Int.emod_lt_of_pos a (show (0 : Int) < 10 by decide)
  rw [dg_one h1 h2]
  unfold dg
  rw [show (a % 10).toNat = a.toNat % 10 by omega, show (a / 10).toNat = a.toNat / 10 by omega]
  conv => rhs; rw [Lib.decDigits, dif_neg (show ¬ a.toNat < 10 by omega)]
  rw [Lib.decDigits_one (show a.toNat % 10 < 10 by omega)]
  apply ByteArray.ext
  rw [ByteArray.data_append]
  simp
def two (a : Int) : ByteArray := if a < 10 then (⟨#[48]⟩ : ByteArray) ++ dg a else dg a
theorem two_size (a : Int) (h : a ≤ 1000000000000) : (two a).size ≤ 21 := by
  have := dg_size a h
  unfold two
  split
  · rw [ByteArray.size_append, sz1]; omega
  · omega
def tBase (x y z : Int) : ByteArray := (((two x ++ (⟨#[58]⟩ : ByteArray)) ++ two y) ++ (⟨#[58]⟩ : ByteArray)) ++ two z
def tMore (n d : Int) : ByteArray := (((⟨#[43]⟩ : ByteArray) ++ dg n) ++ (⟨#[47]⟩ : ByteArray)) ++ dg d
def tText (x y z n d : Int) : ByteArray := if n > 0 then tBase x y z ++ tMore n d else tBase x y z
def qA (h n d : Int) : Rat := ((60 * h : Int) : Rat) * ((n : Rat) / d)
def qB (h n d : Int) : Rat := ((h * 3600 : Int) : Rat) * ((n : Rat) / d)
def vText (h n d : Int) : ByteArray := tText (n * h * 60 / d / 60) (n * h * 60 / d % 60) (tn (qA h n d) * 60 / td (qA h n d)) (tn (qB h n d)) (td (qB h n d))
def vTimeText (h n d : Int) : ByteArray × Bool := if (isD h && isT n d) = true then (vText h n d, true) else ((⟨#[]⟩ : ByteArray), false)
theorem sec_key {A d : Int} (hd : 0 < d) : A * 60 / d = (A % d) * 60 / d + 60 * (A / d) := by
  have e := Int.emod_add_mul_ediv A d
  have e2 : A * 60 = (A % d) * 60 + d * (60 * (A / d)) := by
    rw [Int.mul_left_comm]
    omega
  rw [e2, Int.add_mul_ediv_left _ _ (by omega)]
theorem sec_range {A d : Int} (hd : 0 < d) : 0 ≤ (A % d) * 60 / d ∧ (A % d) * 60 / d < 60 := by
  have h0 := Int.emod_nonneg A (show d ≠ 0 by omega)
  have h1 := Int.emod_lt_of_pos A hd
  exact ⟨Int.ediv_nonneg (by omega) (by omega), Int.ediv_lt_of_lt_mul hd (by omega)⟩
theorem sec_red {r d g : Int} (hg : 0 < g) (h1 : g ∣ r) (h2 : g ∣ d) : r / g * 60 / (d / g) = r * 60 / d := by
  obtain ⟨x, rfl⟩ := h1
  obtain ⟨y, rfl⟩ := h2
  rw [Int.mul_ediv_cancel_left _ (by omega), Int.mul_ediv_cancel_left _ (by omega), Int.mul_assoc, Int.mul_ediv_mul_of_pos _ _ hg]
theorem sec_qA (h n d : Int) (hd : 0 < d) : tn (qA h n d) * 60 / td (qA h n d) = (n * h * 60 % d) * 60 / d := by
  have e : qA h n d = ((n * h * 60 : Int) : Rat) / (d : Rat) := by
    unfold qA
    rw [show n * h * 60 = n * (60 * h) by rw [Int.mul_assoc, Int.mul_comm h], q_mul (k := 60 * h) hd]
  rw [e, tn_div _ d hd, td_div _ d hd]
  exact sec_red (gcd_pos' _ hd) (Int.gcd_dvd_left ..) (Int.gcd_dvd_right ..)
theorem fr_qAB (h n d : Int) : fr (((60 : Int) : Rat) * fr (qA h n d)) = fr (qB h n d) := by
  rw [fr_mul_fr]
  congr 1
  unfold qA qB
  rw [Rat.intCast_mul, Rat.intCast_mul]
  have e : ((3600 : Int) : Rat) = ((60 : Int) : Rat) * ((60 : Int) : Rat) := by rw [← Rat.intCast_mul]; rfl
  rw [e]
  grind

/-! spec_l1Num -/
theorem spec_l1Num_n : ∀ (n : Nat) (a : Int), 0 ≤ a → a < n → a ≤ 1000000000000 → Ev (fun k => spec_l1Num.f k a) (dg a) := by
  intro n
  induction n with
  | zero => intro a h0 h1; omega
  | succ n ih =>
    intro a h0 h1 h2
    by_cases h : a < 10
    · refine Ev.step (f := fun _ => some (dg a)) (fun k => ?_) (Ev.now _)
      show spec_l1Num.f (k + 1) a = _
      rw [spec_l1Num.f, if_pos h, dg_one h0 h]
    · refine Ev.step (f := fun k => (spec_l1Num.f k (a / 10)).bind fun t => if t.size + (strOfNums [(wrap64 (48 + a % 10)) % 256]).size ≤ 9223372036854775807 then some (t ++ strOfNums [(wrap64 (48 + a % 10)) % 256]) else none) (fun k => ?_) ?_
      · show spec_l1Num.f (k + 1) a = _
        rw [spec_l1Num.f, if_neg h, Int.tdiv_eq_ediv_of_nonneg h0, Int.tmod_eq_emod_of_nonneg h0, wrap_id (x := a / 10) (by omega) (by omega)]
        rfl
      · refine Ev.bind (ih (a / 10) (by omega) (by omega) (by omega)) ?_
        have z := dg_size (a / 10) (by omega)
        refine Ev.pos ?_ ?_
        · show (dg (a / 10)).size + 1 ≤ _
          omega
        · rw [dg_more (by omega)]; exact Ev.now _
theorem spec_l1Num_ev (a : Int) (h0 : 0 ≤ a) (h1 : a ≤ 1000000000000) : Ev (fun k => spec_l1Num.f k a) (dg a) := spec_l1Num_n (a.toNat + 1) a h0 (by omega) h1

/-! spec_diTwo -/
theorem spec_diTwo_ev (a : Int) (h0 : 0 ≤ a) (h1 : a ≤ 1000000000000) : Ev (fun k => spec_diTwo.f k a) (two a) := by
  unfold spec_diTwo.f two
  have z := dg_size a h1
  have v := spec_l1Num_ev a h0 h1
  by_cases h : a < 10
  · rw [if_pos h]; exact Ev.pos h (Ev.bind v (Ev.pos (by omega) (Ev.now _)))
  · rw [if_neg h]; exact Ev.neg h (Ev.bind v (Ev.now _))

/-! spec_diMake -/
theorem spec_diMake_ev (n d : Int) (hd : 0 < d) (hd' : d ≤ 4000000000000000000) (hn : -4000000000000000000 ≤ n) (hn' : n ≤ 4000000000000000000) : Ev (fun k => spec_diMake.f k n d) (mk ((n : Rat) / d)) := by
  unfold spec_diMake.f
  refine Ev.neg (by omega) ?_
  have h0 := Int.emod_nonneg n (show d ≠ 0 by omega)
  have h1 := Int.emod_lt_of_pos n hd
  obtain ⟨t1, t2⟩ := tmod_bound n d hd
  have e0 : Int.tmod (wrap64 (Int.tmod n d + d)) d = n % d := by
    rw [wrap_id (by omega) (by omega)]; exact tmod_tmod n d hd
  rw [e0]
  refine Ev.bind (spec_diCommon_ev (n % d) d h0 (by omega)) ?_
  have hg := gcd_pos' (n % d) hd
  refine Ev.neg (by omega) ?_
  have e1 := Int.tdiv_eq_ediv_of_nonneg (b := (Int.gcd (n % d) d : Int)) h0
  have e2 := Int.tdiv_eq_ediv_of_nonneg (b := (Int.gcd (n % d) d : Int)) (show 0 ≤ d by omega)
  have b1 := ediv_le' h0 hg
  have b2 := ediv_le' (show 0 ≤ d by omega) hg
  rw [e1, e2, wrap_id (by omega) (by omega), wrap_id (by omega) (by omega)]
  unfold mk
  rw [tn_div n d hd, td_div n d hd]
  by_cases h : d / (Int.gcd (n % d) d : Int) > 1000000
  · rw [if_pos h, if_neg (by omega)]; exact Ev.now _
  · rw [if_neg h, if_pos (by omega)]; exact Ev.now _

/-! spec_diTimes -/
theorem spec_diTimes_ev (a b k : Int) (h : isT a b = true) (h0 : -100000 ≤ k) (h1 : k ≤ 100000) : Ev (fun n => spec_diTimes.f n a b k) (tn (k * ((a : Rat) / b)), td (k * ((a : Rat) / b))) := by
  obtain ⟨p1, p2, p3, p4, _⟩ := isT_iff.1 h
  have m1 := mul_bound (a := a) (b := k) (A := 1000000) (B := 100000) (by omega) (by omega) h0 h1
  unfold spec_diTimes.f
  rw [wrap_id (by omega) (by omega)]
  refine Ev.bind (spec_diMake_ev _ _ (by omega) (by omega) (by omega) (by omega)) ?_
  rw [q_mul (show 0 < b by omega), mk_of (Int.le_trans (td_mul_le (show 0 < b by omega)) p2)]
  exact Ev.now _
theorem spec_diTimes_fr (p : Rat) (k : Int) (hp : td p ≤ 1000000) (h0 : -100000 ≤ k) (h1 : k ≤ 100000) : Ev (fun n => spec_diTimes.f n (tn p) (td p) k) (tn (k * p), td (k * p)) := by
  refine Ev.val (spec_diTimes_ev (tn p) (td p) k (by rw [isT_tn]; simpa using hp) h0 h1) ?_
  rw [tn_td]
  exact tt_of_fr (fr_mul_fr k p)

/-! spec_diText -/
theorem spec_diText_ev (h n d : Int) (hh : isD h = true) (ht : isT n d = true) : Ev (fun k => spec_diText.f k h n d) (vText h n d) := by
  obtain ⟨p1, p2, p3, p4, _⟩ := isT_iff.1 ht
  obtain ⟨q1, q2⟩ := isD_iff.1 hh
  have m1 := mul_bound (a := n) (b := h) (A := 1000000) (B := 24) (by omega) (by omega) (by omega) (by omega)
  have n1 := Int.mul_nonneg p3 (show 0 ≤ h by omega)
  have k1 := sec_key (A := n * h * 60) (show 0 < d by omega)
  have k2 := sec_range (A := n * h * 60) (show 0 < d by omega)
  have k3 := sec_qA h n d (by omega)
  have b0 := ediv_le' (show 0 ≤ n * h * 60 by omega) (show 0 < d by omega)
  rw [show n * h * 60 * 60 = n * h * 3600 by omega] at k1
  have e1 := Int.tdiv_eq_ediv_of_nonneg (b := d) (show 0 ≤ n * h * 3600 by omega)
  have b1 := ediv_le' (show 0 ≤ n * h * 3600 by omega) (show 0 < d by omega)
  have e2 := Int.tdiv_eq_ediv_of_nonneg (b := 3600) b1.1
  have e3 := Int.tdiv_eq_ediv_of_nonneg (b := 60) b1.1
  have e4 := Int.tmod_eq_emod_of_nonneg (b := 60) b1.1
  have e5 := Int.tmod_eq_emod_of_nonneg (b := 60) (show 0 ≤ n * h * 3600 / d / 60 by omega)
  unfold spec_diText.f vText
  refine Ev.neg (by omega) ?_
  rw [wrap_id (x := n * h) (by omega) (by omega), wrap_id (x := n * h * 3600) (by omega) (by omega), e1, wrap_id (x := n * h * 3600 / d) (by omega) (by omega), e2, e3, e4, wrap_id (x := n * h * 3600 / d / 3600) (by omega) (by omega), wrap_id (x := n * h * 3600 / d / 60) (by omega) (by omega), e5, wrap_id (x := h * 3600) (by omega) (by omega)]
  rw [k3, show n * h * 3600 / d / 3600 = n * h * 60 / d / 60 by omega, show n * h * 3600 / d / 60 = n * h * 60 / d by omega, show n * h * 3600 / d % 60 = (n * h * 60 % d) * 60 / d by omega]
  have z1 := two_size (n * h * 60 / d / 60) (by omega)
  have z2 := two_size (n * h * 60 / d % 60) (by omega)
  have z3 := two_size ((n * h * 60 % d) * 60 / d) (by omega)
  refine Ev.bind (spec_diTwo_ev _ (by omega) (by omega)) ?_
  refine Ev.pos (by omega) ?_
  refine Ev.bind (spec_diTwo_ev _ (by omega) (by omega)) ?_
  refine Ev.pos (by simp only [ByteArray.size_append, sz1]; omega) ?_
  refine Ev.pos (by simp only [ByteArray.size_append, sz1]; omega) ?_
  refine Ev.bind (spec_diTwo_ev _ (by omega) (by omega)) ?_
  refine Ev.pos (by simp only [ByteArray.size_append, sz1]; omega) ?_
  have s3 : Ev (fun k => spec_diTimes.f k n d (h * 3600)) (tn (qB h n d), td (qB h n d)) := spec_diTimes_ev n d (h * 3600) ht (by omega) (by omega)
  refine Ev.bind s3 ?_
  dsimp only
  have t0 := tn_nonneg (qB h n d)
  have t1 := tn_lt (qB h n d)
  have t2 : td (qB h n d) ≤ d := td_mul_le (show 0 < d by omega)
  have y1 := dg_size (tn (qB h n d)) (by omega)
  have y2 := dg_size (td (qB h n d)) (by omega)
  unfold tText
  by_cases c : tn (qB h n d) > 0
  · rw [if_pos c]
    refine Ev.pos c ?_
    refine Ev.bind (spec_l1Num_ev _ (by omega) (by omega)) ?_
    refine Ev.pos (by omega) ?_
    refine Ev.pos (by simp only [ByteArray.size_append, sz1]; omega) ?_
    refine Ev.bind (spec_l1Num_ev _ (by omega) (by omega)) ?_
    refine Ev.pos (by simp only [ByteArray.size_append, sz1]; omega) ?_
    refine Ev.pos (by simp only [ByteArray.size_append, sz1]; omega) ?_
    exact Ev.now _
  · rw [if_neg c]
    exact Ev.neg c (Ev.now _)

/-! spec_TimeText -/
theorem spec_TimeText_ev (h n d : Int) : Ev (fun k => spec_TimeText.f k h n d) (vTimeText h n d) := by
  unfold spec_TimeText.f vTimeText
  refine Ev.bind (spec_diAsked_ev h n d) ?_
  cases e : isD h && isT n d
  · exact Ev.neg (by decide) (Ev.now _)
  refine Ev.pos rfl ?_
  rw [Bool.and_eq_true] at e
  exact Ev.bind (spec_diText_ev h n d e.1 e.2) (Ev.now _)

/-! impl_within -/
theorem impl_within_eq (a b c : Int) : impl_within.f a b c = some (decide (b ≤ a ∧ a ≤ c)) := by
  unfold impl_within.f
  by_cases h : a ≥ b
  · rw [if_pos h]; simp [show b ≤ a from h]
  · rw [if_neg h]; simp [show ¬ b ≤ a from h]

/-! impl_isDial -/
theorem impl_isDial_eq (h : Int) : impl_isDial.f h = some (isD h) := by
  unfold impl_isDial.f isD; simp only [impl_within_eq, Option.bind_some]

/-! impl_gcd -/
theorem impl_gcd_l0 : ∀ (n : Nat) (a b : Int), 0 ≤ a → a ≤ 9223372036854775807 → 0 ≤ b → b ≤ 9223372036854775807 → b < n → Ev (fun k => impl_gcd.l0 k a b) (Int.gcd a b : Int) := by
  intro n
  induction n with
  | zero => intro a b _ _ h1 _ h2; omega
  | succ n ih =>
    intro a b ha ha' hb hb' hn
    by_cases h : b = 0
    · subst h
      refine Ev.step (f := fun _ => some a) (fun k => ?_) ?_
      · simp only [impl_gcd.l0]
        rw [wrap_id (by omega) (by omega)]
        unfold mx; simp; omega
      · rw [gcd_zero ha]; exact Ev.now a
    · have h1 := tmod_range ha (show 0 < b by omega)
      refine Ev.step (f := fun k => impl_gcd.l0 k b (Int.tmod a b)) (fun k => ?_) ?_
      · simp only [impl_gcd.l0]
        rw [if_neg h]
      · rw [← gcd_step ha (show 0 < b by omega)]
        exact ih b _ (by omega) (by omega) (by omega) (by omega) (by omega)
theorem impl_gcd_ev (a b : Int) (ha : 0 ≤ a) (ha' : a ≤ 9223372036854775807) (hb : 0 ≤ b) (hb' : b ≤ 9223372036854775807) : Ev (fun k => impl_gcd.f k a b) (Int.gcd a b : Int) := by
  unfold impl_gcd.f
  exact impl_gcd_l0 (b.toNat + 1) a b ha ha' hb hb' (by omega)

/-! impl_IsTurn -/
theorem impl_IsTurn_ev (n d : Int) : Ev (fun k => impl_IsTurn.f k n d) (isT n d) := by
  unfold impl_IsTurn.f
  simp only [impl_within_eq, Option.bind_some]
  by_cases h : 1 ≤ d ∧ d ≤ 1000000
  · refine Ev.pos (by simpa using h) ?_
    rw [wrap_id (by omega) (by omega)]
    by_cases h2 : 0 ≤ n ∧ n ≤ d - 1
    · refine Ev.pos (by simpa using h2) ?_
      refine Ev.bind (impl_gcd_ev n d (by omega) (by omega) (by omega) (by omega)) ?_
      refine Ev.val (Ev.now _) ?_
      unfold isT
      rw [Bool.eq_iff_iff]; simp; omega
    · refine Ev.neg (by simpa using h2) ?_
      refine Ev.val (Ev.now _) ?_
      unfold isT
      rw [Bool.eq_iff_iff]; simp; omega
  · refine Ev.neg (by simpa using h) ?_
    refine Ev.val (Ev.now _) ?_
    unfold isT
    rw [Bool.eq_iff_iff]; simp; omega

/-! impl_isTime -/
theorem impl_isTime_ev (h n d : Int) : Ev (fun k => impl_isTime.f k h n d) (isD h && isT n d) := by
  unfold impl_isTime.f
  simp only [impl_isDial_eq, Option.bind_some]
  cases isD h
  · exact Ev.neg (by decide) (Ev.now _)
  · exact Ev.pos rfl (Ev.bind (impl_IsTurn_ev n d) (Ev.now _))

/-! impl_floorDiv -/
theorem impl_floorDiv_eq (a b : Int) (hb : 0 < b) (hb' : b ≤ 4000000000000000000) (ha : -4000000000000000000 ≤ a) (ha' : a ≤ 4000000000000000000) : impl_floorDiv.f a b = some (a / b, a % b) := by
  obtain ⟨h1, h2, h3⟩ := floor_of_trunc a b hb
  obtain ⟨h4, h5⟩ := tdiv_bound a b hb
  have h8 := tmod_bound a b hb
  obtain ⟨h6, h7⟩ := ediv_bound a b hb
  unfold impl_floorDiv.f
  rw [if_neg (by omega)]
  by_cases h : Int.tmod a b < 0
  · rw [if_pos h]
    obtain ⟨e1, e2⟩ := h2 h
    rw [wrap_id (x := Int.tdiv a b) (by omega) (by omega), wrap_id (by omega) (by omega), wrap_id (by omega) (by omega), e1, e2]
  · rw [if_neg h]
    obtain ⟨e1, e2⟩ := h3 (by omega)
    rw [wrap_id (by omega) (by omega), e1, e2]

/-! impl_part -/
theorem impl_part_ev (n d : Int) (hd : 0 < d) (hd' : d ≤ 4000000000000000000) (hn : -4000000000000000000 ≤ n) (hn' : n ≤ 4000000000000000000) : Ev (fun k => impl_part.f k n d) (tn ((n : Rat) / d), td ((n : Rat) / d)) := by
  unfold impl_part.f
  rw [impl_floorDiv_eq n d hd hd' hn hn']
  simp only [Option.bind_some]
  have h0 := Int.emod_nonneg n (show d ≠ 0 by omega)
  have h1 := Int.emod_lt_of_pos n hd
  refine Ev.bind (impl_gcd_ev (n % d) d h0 (by omega) (by omega) (by omega)) ?_
  have hg := gcd_pos' (n % d) hd
  refine Ev.neg (by omega) ?_
  have e1 := Int.tdiv_eq_ediv_of_nonneg (b := (Int.gcd (n % d) d : Int)) h0
  have e2 := Int.tdiv_eq_ediv_of_nonneg (b := (Int.gcd (n % d) d : Int)) (show 0 ≤ d by omega)
  have b1 := ediv_le' h0 hg
  have b2 := ediv_le' (show 0 ≤ d by omega) hg
  rw [e1, e2, wrap_id (by omega) (by omega), wrap_id (by omega) (by omega), tn_div n d hd, td_div n d hd]
  exact Ev.now _

/-! impl_split -/
theorem impl_split_ev (h n d : Int) (hh : isD h = true) (ht : isT n d = true) : Ev (fun k => impl_split.f k h n d) (n * h * 60 / d / 60, n * h * 60 / d % 60, tn (((60 * h : Int) : Rat) * ((n : Rat) / d)), td (((60 * h : Int) : Rat) * ((n : Rat) / d))) := by
  obtain ⟨p1, p2, p3, p4, _⟩ := isT_iff.1 ht
  obtain ⟨q1, q2⟩ := isD_iff.1 hh
  have m1 := mul_bound (a := n) (b := h) (A := 1000000) (B := 24) (by omega) (by omega) (by omega) (by omega)
  have n1 := Int.mul_nonneg p3 (show 0 ≤ h by omega)
  have e1 := Int.tdiv_eq_ediv_of_nonneg (b := d) (show 0 ≤ n * h * 60 by omega)
  have b1 := ediv_le' (show 0 ≤ n * h * 60 by omega) (show 0 < d by omega)
  have e2 := Int.tdiv_eq_ediv_of_nonneg (b := 60) b1.1
  have e3 := Int.tmod_eq_emod_of_nonneg (b := 60) b1.1
  unfold impl_split.f
  refine Ev.neg (by omega) ?_
  rw [wrap_id (x := n * h) (by omega) (by omega), wrap_id (x := n * h * 60) (by omega) (by omega), e1, wrap_id (x := n * h * 60 / d) (by omega) (by omega), e2, e3, wrap_id (by omega) (by omega)]
  refine Ev.bind (impl_part_ev _ d (by omega) (by omega) (by omega) (by omega)) ?_
  rw [show n * h * 60 = n * (60 * h) by rw [Int.mul_assoc, Int.mul_comm h], q_mul (k := 60 * h) (show 0 < d by omega)]
  exact Ev.now _

/-! impl_twoDigits -/
theorem strconv_Itoa_eq (a : Int) (h0 : 0 ≤ a) (h1 : a ≤ 1000000000000) : strconv_Itoa_13.f a = some (dg a) := by
  unfold strconv_Itoa_13.f dg
  rw [if_pos ⟨by omega, by omega⟩]
  unfold Lib.itoa
  rw [if_neg (by omega)]
theorem impl_twoDigits_eq (a : Int) (h0 : 0 ≤ a) (h1 : a ≤ 1000000000000) : impl_twoDigits.f a = some (two a) := by
  unfold impl_twoDigits.f two
  have z := dg_size a h1
  rw [strconv_Itoa_eq a h0 h1]
  simp only [Option.bind_some]
  by_cases h : a < 10
  · rw [if_pos h, if_pos h, if_pos (by omega)]
  · rw [if_neg h, if_neg h]

/-! impl_TimeText -/
theorem impl_TimeText_ev (h n d : Int) : Ev (fun k => impl_TimeText.f k h n d) (vTimeText h n d) := by
  unfold impl_TimeText.f vTimeText
  refine Ev.bind (impl_isTime_ev h n d) ?_
  cases e : isD h && isT n d
  · exact Ev.neg (by decide) (Ev.now _)
  refine Ev.pos rfl ?_
  rw [Bool.and_eq_true] at e
  obtain ⟨p1, p2, p3, p4, _⟩ := isT_iff.1 e.2
  obtain ⟨q1, q2⟩ := isD_iff.1 e.1
  have m1 := mul_bound (a := n) (b := h) (A := 1000000) (B := 24) (by omega) (by omega) (by omega) (by omega)
  have n1 := Int.mul_nonneg p3 (show 0 ≤ h by omega)
  have b0 := ediv_le' (show 0 ≤ n * h * 60 by omega) (show 0 < d by omega)
  have k2 := sec_range (A := n * h * 60) (show 0 < d by omega)
  have k3 := sec_qA h n d (by omega)
  refine Ev.bind (impl_split_ev h n d e.1 e.2) ?_
  have s0 := tn_nonneg (qA h n d)
  have s1 := tn_lt (qA h n d)
  have s2 : td (qA h n d) ≤ d := td_mul_le (show 0 < d by omega)
  have s3 : Ev (fun k => impl_part.f k (tn (qA h n d) * 60) (td (qA h n d))) (tn (qB h n d), td (qB h n d)) := by
    refine Ev.val (impl_part_ev (tn (qA h n d) * 60) (td (qA h n d)) (by omega) (by omega) (by omega) (by omega)) ?_
    apply tt_of_fr
    rw [q_mul (k := 60) (show 0 < td (qA h n d) by omega), tn_td]
    exact fr_qAB h n d
  have t0 := tn_nonneg (qB h n d)
  have t1 := tn_lt (qB h n d)
  have t2 : td (qB h n d) ≤ d := td_mul_le (show 0 < d by omega)
  have y1 := dg_size (tn (qB h n d)) (by omega)
  have y2 := dg_size (td (qB h n d)) (by omega)
  have z1 := two_size (n * h * 60 / d / 60) (by omega)
  have z2 := two_size (n * h * 60 / d % 60) (by omega)
  have z3 := two_size (tn (qA h n d) * 60 / td (qA h n d)) (by omega)
  have w1 := impl_twoDigits_eq (n * h * 60 / d / 60) (by omega) (by omega)
  have w2 := impl_twoDigits_eq (n * h * 60 / d % 60) (by omega) (by omega)
  have w3 := impl_twoDigits_eq (tn (qA h n d) * 60 / td (qA h n d)) (by omega) (by omega)
  have i1 := strconv_Itoa_eq (tn (qB h n d)) (by omega) (by omega)
  have i2 := strconv_Itoa_eq (td (qB h n d)) (by omega) (by omega)
  have f1 := Int.tdiv_eq_ediv_of_nonneg (b := td (qA h n d)) (show 0 ≤ tn (qA h n d) * 60 by omega)
  dsimp only
  rw [w1]
  simp only [Option.bind_some]
  refine Ev.pos (by omega) ?_
  rw [w2]
  simp only [Option.bind_some]
  refine Ev.pos (by simp only [ByteArray.size_append, sz1]; omega) ?_
  refine Ev.pos (by simp only [ByteArray.size_append, sz1]; omega) ?_
  refine Ev.neg (show ¬ td (qA h n d) = 0 by omega) ?_
  change Ev (fun k => (impl_twoDigits.f (wrap64 (Int.tdiv (wrap64 (tn (qA h n d) * 60)) (td (qA h n d))))).bind _) _
  rw [wrap_id (x := tn (qA h n d) * 60) (by omega) (by omega), f1, wrap_id (by omega) (by omega), w3]
  simp only [Option.bind_some]
  refine Ev.pos (by simp only [ByteArray.size_append, sz1]; omega) ?_
  change Ev (fun k => (impl_part.f k (wrap64 (tn (qA h n d) * 60)) (td (qA h n d))).bind _) _
  rw [wrap_id (x := tn (qA h n d) * 60) (by omega) (by omega)]
  refine Ev.bind s3 ?_
  dsimp only
  unfold vText tText
  by_cases c : tn (qB h n d) > 0
  · rw [if_pos (c := True) trivial]
    simp only [if_pos c]
    rw [i1, i2]
    simp only [Option.bind_some]
    refine Ev.pos (by omega) ?_
    refine Ev.pos (by simp only [ByteArray.size_append, sz1]; omega) ?_
    refine Ev.pos (by simp only [ByteArray.size_append, sz1]; omega) ?_
    refine Ev.pos (by simp only [ByteArray.size_append, sz1]; omega) ?_
    exact Ev.now _
  · rw [if_pos (c := True) trivial]
    simp only [if_neg c]
    exact Ev.now _

/-! laws_FnExactTimeText -/
theorem FnExactTimeText : laws_FnExactTimeText.Pure := by
  intro h a b _ _ _
  apply Ev.rounds (g := fun k => laws_FnExactTimeText.f k h a b)
  unfold laws_FnExactTimeText.f laws_toTurn.f
  simp only [Option.bind_some]
  refine Ev.bind (spec_TimeText_ev h a b) ?_
  refine Ev.bind (impl_TimeText_ev h a b) ?_
  refine Ev.pos rfl ?_
  exact Ev.neg (by simp) (Ev.now _)

end Go.Proofs.YtioggbokjfdoaaaDoor.Pure
