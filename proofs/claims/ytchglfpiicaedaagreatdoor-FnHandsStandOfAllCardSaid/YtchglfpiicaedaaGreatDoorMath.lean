/- Plain mathematics of this program's turns: parts of a turn are rationals without their whole part. Nothing here speaks of Go or of memory. -/
import Derived.Test.YtchglfpiicaedaaGreatDoorWWords
import Derived.Test.YtchglfpiicaedaaGreatDoorWMore
namespace Go.Proofs.YtchglfpiicaedaaGreatDoor.Math
open Go.RowKit Go.Proofs.YtchglfpiicaedaaGreatDoorW.PrintWords Go.Proofs.YtchglfpiicaedaaGreatDoorW.PrintMore

theorem floor_unique {q : Rat} {z : Int} (h0 : (z : Rat) ≤ q) (h1 : q < (z : Rat) + 1) : q.floor = z := by
  have a : z ≤ q.floor := Rat.le_floor_iff.2 h0
  have b : q.floor < z + 1 := Rat.floor_lt_iff.2 (by simpa using h1)
  omega
/-- A rational without its whole part. -/
def fr (q : Rat) : Rat := q - (q.floor : Rat)
def tn (q : Rat) : Int := (fr q).num
def td (q : Rat) : Int := ((fr q).den : Int)
theorem fr_nonneg (q : Rat) : 0 ≤ fr q := by
  have := Rat.floor_le q
  unfold fr; grind
theorem fr_lt (q : Rat) : fr q < 1 := by
  have := Rat.lt_floor_add_one q
  simp at this
  unfold fr; grind
theorem fr_add_int (q : Rat) (z : Int) : fr (q + z) = fr q := by
  unfold fr
  rw [Rat.floor_add_intCast]
  simp only [Rat.intCast_add]
  grind
theorem fr_of_range {q : Rat} (h0 : 0 ≤ q) (h1 : q < 1) : fr q = q := by
  have : q.floor = 0 := floor_unique (by simpa using h0) (by simp; grind)
  unfold fr; rw [this]; simp; grind
theorem fr_eq_of (p q : Rat) (z : Int) (h : p = q + z) : fr p = fr q := by rw [h, fr_add_int]
theorem td_pos (q : Rat) : 0 < td q := by unfold td; have := (fr q).den_pos; omega
theorem tn_nonneg (q : Rat) : 0 ≤ tn q := Rat.num_nonneg.2 (fr_nonneg q)
theorem tn_lt (q : Rat) : tn q < td q := by
  have h := fr_lt q
  rw [Rat.lt_iff] at h
  unfold tn td
  simpa using h
theorem tn_td (q : Rat) : (tn q : Rat) / (td q : Rat) = fr q := by
  unfold tn td
  have := Rat.num_divInt_den (fr q)
  rw [Rat.divInt_eq_div] at this
  exact this
theorem co (q : Rat) : Int.gcd (tn q) (td q) = 1 := by
  unfold tn td
  have := (fr q).reduced
  simp [Int.gcd]; exact this
theorem fr_div (n d : Int) (hd : 0 < d) : fr ((n : Rat) / d) = ((n % d : Int) : Rat) / (d : Rat) := by
  have hd' : (d : Rat) ≠ 0 := by
    intro h; have := Rat.intCast_eq_zero_iff.1 h; omega
  have hdp : (0 : Rat) < d := Rat.intCast_pos.2 hd
  have e : (n : Rat) / d = ((n % d : Int) : Rat) / (d : Rat) + ((n / d : Int) : Rat) := by
    have : (n : Rat) = ((n % d : Int) : Rat) + (d : Rat) * ((n / d : Int) : Rat) := by
      rw [← Rat.intCast_mul, ← Rat.intCast_add, Int.emod_add_mul_ediv]
    grind
  have h0 := Int.emod_nonneg n (show d ≠ 0 by omega)
  have h1 := Int.emod_lt_of_pos n hd
  rw [fr_eq_of _ _ _ e]
  apply fr_of_range
  · have : (0 : Rat) ≤ ((n % d : Int) : Rat) := by simpa using Rat.intCast_le_intCast.2 h0
    rw [Rat.div_def]
    exact Rat.mul_nonneg this (Rat.le_of_lt (Rat.inv_pos.2 hdp))
  · rw [Rat.div_lt_iff hdp]
    have := Rat.intCast_lt_intCast.2 h1
    grind
theorem tn_div (n d : Int) (hd : 0 < d) : tn ((n : Rat) / d) = (n % d) / (Int.gcd (n % d) d : Int) := by
  unfold tn
  rw [fr_div n d hd, ← Rat.divInt_eq_div, Rat.num_divInt, Int.sign_eq_one_of_pos hd, Int.one_mul, Int.gcd_comm]
theorem td_div (n d : Int) (hd : 0 < d) : td ((n : Rat) / d) = d / (Int.gcd (n % d) d : Int) := by
  unfold td
  rw [fr_div n d hd, ← Rat.divInt_eq_div, Rat.den_divInt, if_neg (by omega), Int.gcd_comm]
  rw [Int.natCast_ediv, Int.natAbs_of_nonneg (by omega)]
/-- A pair in lowest terms tells its own part. -/
theorem canon {n d : Int} (h0 : 0 ≤ n) (h1 : n < d) (hc : Int.gcd n d = 1) : tn ((n : Rat) / d) = n ∧ td ((n : Rat) / d) = d := by
  have hd : 0 < d := by omega
  rw [tn_div n d hd, td_div n d hd, Int.emod_eq_of_lt h0 h1, hc]
  simp
theorem fr_canon {n d : Int} (h0 : 0 ≤ n) (h1 : n < d) : fr ((n : Rat) / d) = (n : Rat) / d := by
  have hd : 0 < d := by omega
  rw [fr_div n d hd, Int.emod_eq_of_lt h0 h1]
theorem fr_of_eq {p q : Rat} (h1 : tn p = tn q) (h2 : td p = td q) : fr p = fr q := by rw [← tn_td p, ← tn_td q, h1, h2]
theorem fr_exists (q : Rat) : ∃ z : Int, q = fr q + z := ⟨q.floor, by unfold fr; grind⟩
theorem td_div_le (n d : Int) (hd : 0 < d) : td ((n : Rat) / d) ≤ d := by
  rw [td_div n d hd]
  exact Int.ediv_le_self _ (by omega)

/-! words of whole numbers -/
theorem wrap_id {x : Int} (h0 : -9223372036854775808 ≤ x) (h1 : x ≤ 9223372036854775807) : wrap64 x = x := by unfold wrap64; omega
def isT (n d : Int) : Bool := decide (1 ≤ d ∧ d ≤ 1000000 ∧ 0 ≤ n ∧ n ≤ d - 1 ∧ Int.gcd n d = 1)
theorem isT_iff {n d : Int} : isT n d = true ↔ 1 ≤ d ∧ d ≤ 1000000 ∧ 0 ≤ n ∧ n ≤ d - 1 ∧ Int.gcd n d = 1 := by unfold isT; simp
def isS (n d : Int) : Bool := decide (0 ≤ n ∧ n ≤ 1000000 ∧ 1 ≤ d ∧ d ≤ 10000 ∧ Int.gcd n d = 1)
theorem isS_iff {n d : Int} : isS n d = true ↔ 0 ≤ n ∧ n ≤ 1000000 ∧ 1 ≤ d ∧ d ≤ 10000 ∧ Int.gcd n d = 1 := by unfold isS; simp
def isC (n d : Int) : Bool := isT n d && decide (d ≤ 1000)
def isH (n d s : Int) : Bool := isC n d && decide (-400 ≤ s ∧ s ≤ 400)
def isK (n d a b : Int) : Bool := isC n d && decide (1 ≤ a ∧ a ≤ 1000 ∧ 1 ≤ b ∧ b ≤ 1000 ∧ Int.gcd a b = 1)
theorem gcd_step {a b : Int} (ha : 0 ≤ a) (hb : 0 < b) : Int.gcd b (Int.tmod a b) = Int.gcd a b := by
  rw [Int.tmod_eq_emod_of_nonneg ha]
  obtain ⟨m, rfl⟩ := Int.eq_ofNat_of_zero_le ha
  obtain ⟨n, rfl⟩ := Int.eq_ofNat_of_zero_le (show 0 ≤ b by omega)
  rw [← Int.natCast_emod]
  simp only [Int.gcd_natCast_natCast]
  rw [Nat.gcd_comm n, ← Nat.gcd_rec, Nat.gcd_comm]
theorem gcd_zero {a : Int} (ha : 0 ≤ a) : (Int.gcd a 0 : Int) = a := by simp [Int.gcd]; omega
theorem tmod_range {a b : Int} (ha : 0 ≤ a) (hb : 0 < b) : 0 ≤ Int.tmod a b ∧ Int.tmod a b < b := by
  rw [Int.tmod_eq_emod_of_nonneg ha]
  exact ⟨Int.emod_nonneg _ (by omega), Int.emod_lt_of_pos _ hb⟩
theorem Ev.cong {α : Type} {g f : Nat → Option α} {r : α} (h : Ev f r) (e : g = f) : Ev g r := by rw [e]; exact h
theorem Ev.val {α : Type} {g : Nat → Option α} {r r' : α} (h : Ev g r) (e : r = r') : Ev g r' := by rw [← e]; exact h
theorem Ev.pos {α : Type} {c : Prop} [Decidable c] {f g : Nat → Option α} {r : α} (h : c) (k : Ev f r) : Ev (fun n => if c then f n else g n) r := by simpa only [if_pos h] using k
theorem Ev.neg {α : Type} {c : Prop} [Decidable c] {f g : Nat → Option α} {r : α} (h : ¬ c) (k : Ev g r) : Ev (fun n => if c then f n else g n) r := by simpa only [if_neg h] using k

/-! division -/
theorem gcd_pos' (a : Int) {d : Int} (hd : 0 < d) : 0 < (Int.gcd a d : Int) := by
  have : 0 < Int.gcd a d := Int.gcd_pos_of_ne_zero_right a (by omega)
  omega
theorem ediv_le' {a g : Int} (ha : 0 ≤ a) (hg : 0 < g) : 0 ≤ a / g ∧ a / g ≤ a := ⟨Int.ediv_nonneg ha (by omega), Int.ediv_le_self _ ha⟩
theorem tmod_bound (a b : Int) (hb : 0 < b) : -b < Int.tmod a b ∧ Int.tmod a b < b := by
  rw [Int.tmod_eq_emod]
  have h0 := Int.emod_nonneg a (show b ≠ 0 by omega)
  have h1 := Int.emod_lt_of_pos a hb
  split
  · omega
  · have : a % b ≠ 0 := fun h => by
      have := Int.dvd_of_emod_eq_zero h
      simp_all
    omega
theorem tmod_tmod (a b : Int) (hb : 0 < b) : Int.tmod (Int.tmod a b + b) b = a % b := by
  have h := tmod_bound a b hb
  rw [Int.tmod_eq_emod_of_nonneg (by omega), Int.add_emod_right, Int.tmod_eq_emod]
  split
  · simp
  · rw [show (b.natAbs : Int) = b by omega, Int.sub_emod_right]; simp
theorem floor_of_trunc (a b : Int) (hb : 0 < b) : True ∧ (Int.tmod a b < 0 → Int.tdiv a b - 1 = a / b ∧ Int.tmod a b + b = a % b) ∧ (0 ≤ Int.tmod a b → Int.tdiv a b = a / b ∧ Int.tmod a b = a % b) := by
  have h := tmod_bound a b hb
  have e := Int.tmod_add_mul_tdiv a b
  refine ⟨trivial, fun h1 => ?_, fun h1 => ?_⟩
  · have := Int.ediv_emod_unique hb (a := a) (q := Int.tdiv a b - 1) (r := Int.tmod a b + b)
    obtain ⟨x, y⟩ := this.2 ⟨by rw [Int.mul_sub]; omega, by omega, by omega⟩
    exact ⟨x.symm, y.symm⟩
  · have := Int.ediv_emod_unique hb (a := a) (q := Int.tdiv a b) (r := Int.tmod a b)
    obtain ⟨x, y⟩ := this.2 ⟨by omega, by omega, by omega⟩
    exact ⟨x.symm, y.symm⟩
theorem ediv_bound (a b : Int) (hb : 0 < b) : (0 ≤ a → 0 ≤ a / b ∧ a / b ≤ a) ∧ (a < 0 → a ≤ a / b ∧ a / b < 0) := by
  refine ⟨fun h => ⟨Int.ediv_nonneg h (by omega), Int.ediv_le_self _ h⟩, fun h => ⟨?_, Int.ediv_neg_of_neg_of_pos h hb⟩⟩
  rw [Int.le_ediv_iff_mul_le hb]
  have : a * b ≤ a * 1 := Int.mul_le_mul_of_nonpos_left (by omega) (by omega)
  omega
theorem tdiv_bound (a b : Int) (hb : 0 < b) : (0 ≤ a → 0 ≤ Int.tdiv a b ∧ Int.tdiv a b ≤ a) ∧ (a < 0 → a ≤ Int.tdiv a b ∧ Int.tdiv a b ≤ 0) := by
  obtain ⟨_, h2, h3⟩ := floor_of_trunc a b hb
  obtain ⟨h4, h5⟩ := ediv_bound a b hb
  refine ⟨fun h => ?_, fun h => ?_⟩
  · have : 0 ≤ Int.tmod a b := Int.tmod_nonneg _ h
    have := (h3 this).1; have := h4 h; omega
  · have := h5 h
    by_cases h6 : Int.tmod a b < 0
    · have := (h2 h6).1; omega
    · have := (h3 (by omega)).1; omega

/-! turns -/
/-- What diMake tells: the part of a rational behind whole ones, if its denominator isn't too great. -/
def mk (q : Rat) : Int × Int × Bool := if td q ≤ 1000000 then (tn q, td q, true) else (0, 0, false)
theorem isT_tn (q : Rat) : isT (tn q) (td q) = decide (td q ≤ 1000000) := by
  have h1 := tn_nonneg q
  have h2 := tn_lt q
  have h3 := co q
  unfold isT
  rw [Bool.eq_iff_iff]
  simp only [decide_eq_true_eq]
  constructor
  · intro h; omega
  · intro h; refine ⟨by omega, h, h1, by omega, h3⟩
theorem mk_of {q : Rat} (h : td q ≤ 1000000) : mk q = (tn q, td q, true) := if_pos h
theorem isT_canon {n d : Int} (h : isT n d = true) : tn ((n : Rat) / d) = n ∧ td ((n : Rat) / d) = d := by
  obtain ⟨_, _, h0, h1, h2⟩ := isT_iff.1 h
  exact canon h0 (by omega) h2
theorem isT_fr {n d : Int} (h : isT n d = true) : fr ((n : Rat) / d) = (n : Rat) / d := by
  obtain ⟨_, _, h0, h1, h2⟩ := isT_iff.1 h
  exact fr_canon h0 (by omega)
theorem cast_pos {d : Int} (hd : 0 < d) : (0 : Rat) < (d : Rat) := Rat.intCast_pos.2 hd
theorem cast_ne {d : Int} (hd : 0 < d) : (d : Rat) ≠ 0 := fun h => by have := Rat.intCast_eq_zero_iff.1 h; omega
theorem q_add {a b c d : Int} (hb : 0 < b) (hd : 0 < d) : ((a * d + c * b : Int) : Rat) / ((b * d : Int) : Rat) = (a : Rat) / b + (c : Rat) / d := by
  have h1 := cast_ne hb
  have h2 := cast_ne hd
  simp only [Rat.intCast_add, Rat.intCast_mul]
  grind
theorem q_sub {a b c d : Int} (hb : 0 < b) (hd : 0 < d) : ((a * d - c * b : Int) : Rat) / ((b * d : Int) : Rat) = (a : Rat) / b - (c : Rat) / d := by
  have h1 := cast_ne hb
  have h2 := cast_ne hd
  simp only [Rat.intCast_sub, Rat.intCast_mul]
  grind
theorem q_mul {a b k : Int} (hb : 0 < b) : ((a * k : Int) : Rat) / (b : Rat) = k * ((a : Rat) / b) := by
  have h1 := cast_ne hb
  simp only [Rat.intCast_mul]
  grind
theorem q_add_mul {a b c d k : Int} (hb : 0 < b) (hd : 0 < d) : ((a * d + k * c * b : Int) : Rat) / ((b * d : Int) : Rat) = (a : Rat) / b + k * ((c : Rat) / d) := by
  have h1 := cast_ne hb
  have h2 := cast_ne hd
  simp only [Rat.intCast_add, Rat.intCast_mul]
  grind
theorem q_part {a b k : Int} (hb : 0 < b) (hk : 0 < k) : (a : Rat) / ((b * k : Int) : Rat) = (a : Rat) / b / k := by
  have h1 := cast_ne hb
  have h2 := cast_ne hk
  simp only [Rat.intCast_mul]
  grind
/-- Equal but for whole turns. -/
theorem tt_of_fr {p q : Rat} (h : fr p = fr q) : (tn p, td p) = (tn q, td q) := by unfold tn td; rw [h]
theorem mk_of_fr {p q : Rat} (h : fr p = fr q) : mk p = mk q := by unfold mk tn td; rw [h]
theorem fr_fr_add (p q : Rat) : fr (fr p + q) = fr (p + q) := by
  obtain ⟨z, hz⟩ := fr_exists p
  exact (fr_eq_of _ _ z (by rw (occs := .pos [1]) [hz]; grind)).symm
theorem fr_add_fr (p q : Rat) : fr (p + fr q) = fr (p + q) := by
  rw [Rat.add_comm, fr_fr_add, Rat.add_comm]
theorem fr_neg_fr (p : Rat) : fr (- fr p) = fr (-p) := by
  obtain ⟨z, hz⟩ := fr_exists p
  exact (fr_eq_of _ _ (-z) (by rw (occs := .pos [1]) [hz]; simp only [Rat.intCast_neg]; grind)).symm
theorem fr_mul_fr (k : Int) (p : Rat) : fr (k * fr p) = fr (k * p) := by
  obtain ⟨z, hz⟩ := fr_exists p
  exact (fr_eq_of _ _ (k * z) (by rw (occs := .pos [1]) [hz]; simp only [Rat.intCast_mul]; grind)).symm
theorem td_mul_le {n d k : Int} (hd : 0 < d) : td ((k : Rat) * ((n : Rat) / d)) ≤ d := by
  rw [← q_mul hd]; exact td_div_le _ _ hd
/-- bounds of products -/
theorem mul_bound {a b A B : Int} (ha0 : -A ≤ a) (ha : a ≤ A) (hb0 : -B ≤ b) (hb : b ≤ B) : -(A * B) ≤ a * b ∧ a * b ≤ A * B := by
  have hA : 0 ≤ A := by omega
  have hB : 0 ≤ B := by omega
  have h1 : a * b ≤ A * B ∧ -(A * B) ≤ a * b := by
    rcases Int.le_total 0 a with h | h <;> rcases Int.le_total 0 b with h' | h'
    · have := Int.mul_le_mul ha hb h' hA; have := Int.mul_nonneg h h'; have := Int.mul_nonneg hA hB; omega
    · have h2 := Int.mul_le_mul ha (show -b ≤ B by omega) (by omega) hA
      have h3 := Int.mul_nonneg h (show 0 ≤ -b by omega)
      rw [Int.mul_neg] at h2 h3; omega
    · have h2 := Int.mul_le_mul (show -a ≤ A by omega) hb h' hA
      have h3 := Int.mul_nonneg (show 0 ≤ -a by omega) h'
      rw [Int.neg_mul] at h2 h3; omega
    · have h2 := Int.mul_le_mul (show -a ≤ A by omega) (show -b ≤ B by omega) (by omega) hA
      have h3 := Int.mul_nonneg (show 0 ≤ -a by omega) (show 0 ≤ -b by omega)
      rw [Int.neg_mul_neg] at h2 h3; omega
  omega

/-! what the functions tell -/
theorem gcd_le (a : Int) {d : Int} (hd : 0 < d) : (Int.gcd a d : Int) ≤ d := by
  have := Int.gcd_le_right (a := a) hd
  omega
def isD (h : Int) : Bool := decide (2 ≤ h ∧ h ≤ 24)
theorem isD_iff {h : Int} : isD h = true ↔ 2 ≤ h ∧ h ≤ 24 := by unfold isD; simp
def sg (x : Int) : Int := if x > 0 then 1 else if x < 0 then -1 else 0
def sp (n d : Int) : Int × Int × Bool := if isS (n / (Int.gcd n d : Int)) (d / (Int.gcd n d : Int)) = true then (n / (Int.gcd n d : Int), d / (Int.gcd n d : Int), true) else (0, 0, false)
def vMakeSpan (n d : Int) : Int × Int × Bool := if (0 ≤ n ∧ n ≤ 1000000000000) ∧ (1 ≤ d ∧ d ≤ 1000000000000) then sp n d else (0, 0, false)
def vAddSpans (a b c d : Int) : Int × Int × Bool := if isS a b = true then if isS c d = true then sp (a * d + c * b) (b * d) else (0, 0, false) else (0, 0, false)
def vCmpSpans (a b c d : Int) : Int × Bool := if isS a b = true then if isS c d = true then (sg (a * d - c * b), true) else (0, false) else (0, false)
def vCommon (a b c d : Int) : Int × Int × Bool := if isS a b = true then if isS c d = true then if (decide (a = 0) || decide (c = 0)) = true then (0, 0, false) else sp (a / (Int.gcd a c : Int) * c) (Int.gcd b d : Int) else (0, 0, false) else (0, 0, false)
def vMakeTurn (n d : Int) : Int × Int × Bool := if (-1000000000000 ≤ n ∧ n ≤ 1000000000000) ∧ (1 ≤ d ∧ d ≤ 1000000000000) then mk ((n : Rat) / d) else (0, 0, false)
def vHour (h n d : Int) : Int × Bool := if (isD h && isT n d) = true then (n * h / d, true) else (0, false)
def vMinute (h n d : Int) : Int × Bool := if (isD h && isT n d) = true then (n * h * 60 / d % 60, true) else (0, false)
def qTime (h a b c : Int) : Rat := ((a * 3600 + b * 60 + c : Int) : Rat) / ((h * 3600 : Int) : Rat)
def vTimeOf (h a b c : Int) : Int × Int × Bool := if isD h = true ∧ (0 ≤ a ∧ a ≤ h - 1) ∧ (0 ≤ b ∧ b ≤ 59) ∧ (0 ≤ c ∧ c ≤ 59) then (tn (qTime h a b c), td (qTime h a b c), true) else (0, 0, false)
/-! hands -/
theorem isC_iff {n d : Int} : isC n d = true ↔ isT n d = true ∧ d ≤ 1000 := by unfold isC; simp
theorem isH_iff {n d s : Int} : isH n d s = true ↔ isC n d = true ∧ -400 ≤ s ∧ s ≤ 400 := by unfold isH; simp
theorem isH_speed {n d s : Int} (h : isH n d s = true) : -400 ≤ s ∧ s ≤ 400 := (isH_iff.1 h).2
def ab (x : Int) : Int := if x < 0 then -x else x
def vAsked (a b s c d t : Int) : Bool := isH a b s && isH c d t && (s != t)
def vCount (a b s c d t : Int) : Int × Bool := if vAsked a b s c d t = true then (ab (s - t), true) else (0, false)
theorem fr_plus (p q : Rat) : fr (fr p + fr q) = fr (p + q) := by rw [fr_fr_add, fr_add_fr]
theorem fr_minus (p q : Rat) : fr (fr p - fr q) = fr (p - q) := by
  obtain ⟨y, hy⟩ := fr_exists p
  obtain ⟨z, hz⟩ := fr_exists q
  exact (fr_eq_of _ _ (y - z) (by rw (occs := .pos [1]) [hy]; rw (occs := .pos [1]) [hz]; simp only [Rat.intCast_sub]; grind)).symm
theorem neg_one_mul' (p : Rat) : ((-1 : Int) : Rat) * p = -p := by
  have : ((-1 : Int) : Rat) = -1 := rfl
  rw [this]; grind
theorem add_neg_one_mul' (p q : Rat) : p + ((-1 : Int) : Rat) * q = p - q := by rw [neg_one_mul']; grind
theorem one_mul' (p : Rat) : ((1 : Int) : Rat) * p = p := by
  have : ((1 : Int) : Rat) = 1 := rfl
  rw [this]; grind
/-- k times a part of a turn has no greater denominator. -/
theorem td_mul_le' (k : Int) (q : Rat) : td ((k : Rat) * q) ≤ td q := by
  have : td ((k : Rat) * q) = td ((k : Rat) * fr q) := congrArg Prod.snd (tt_of_fr (fr_mul_fr k q)).symm
  rw [this, ← tn_td]
  exact td_mul_le (td_pos q)
theorem td_neg_le (q : Rat) : td (-q) ≤ td q := by
  have := td_mul_le' (-1) q
  rwa [neg_one_mul'] at this
theorem td_neg (q : Rat) : td (-q) = td q := by
  have h1 := td_neg_le q
  have h2 := td_neg_le (-q)
  rw [show - -q = q by grind] at h2
  omega
theorem td_start {a b s c d t : Int} (h1 : isH a b s = true) (h2 : isH c d t = true) : td ((a : Rat) / b - (c : Rat) / d) ≤ 1000000 := by
  obtain ⟨p0, p5⟩ := isC_iff.1 (isH_iff.1 h1).1
  obtain ⟨r0, r5⟩ := isC_iff.1 (isH_iff.1 h2).1
  obtain ⟨p1, p2, p3, p4, _⟩ := isT_iff.1 p0
  obtain ⟨r1, r2, r3, r4, _⟩ := isT_iff.1 r0
  have m3 := mul_bound (a := b) (b := d) (A := 1000) (B := 1000) (by omega) (by omega) (by omega) (by omega)
  have m4 := Int.mul_pos (show 0 < b by omega) (show 0 < d by omega)
  rw [← q_sub (show 0 < b by omega) (show 0 < d by omega)]
  have := td_div_le (a * d - c * b) (b * d) m4
  omega
theorem isK_iff {n d a b : Int} : isK n d a b = true ↔ isC n d = true ∧ 1 ≤ a ∧ a ≤ 1000 ∧ (1 ≤ b ∧ b ≤ 1000) ∧ Int.gcd a b = 1 := by unfold isK; simp; omega
def vAdd (a b c d : Int) : Int × Int × Bool := if (isT a b && isT c d) = true then mk ((a : Rat) / b + (c : Rat) / d) else (0, 0, false)
def vLess (a b c d : Int) : Int × Int × Bool := if (isT a b && isT c d) = true then mk ((a : Rat) / b - (c : Rat) / d) else (0, 0, false)
def vCmp (a b c d : Int) : Int × Bool := if (isT a b && isT c d) = true then (sg (a * d - c * b), true) else (0, false)
def vTimesTurn (a b n : Int) : Int × Int × Bool := if isT a b = true ∧ (-10000 ≤ n ∧ n ≤ 10000) then (tn (n * ((a : Rat) / b)), td (n * ((a : Rat) / b)), true) else (0, 0, false)
def vPart (a b n : Int) : Int × Int × Bool := if isT a b = true ∧ (1 ≤ n ∧ n ≤ 10000) then mk ((a : Rat) / b / n) else (0, 0, false)
def vMirror (a b : Int) : Int × Int × Bool := if isT a b = true then (tn (-((a : Rat) / b)), td (-((a : Rat) / b)), true) else (0, 0, false)
def vLong (h a b : Int) : Int × Int × Bool := if (isD h && isT a b) = true then (tn (h * ((a : Rat) / b)), td (h * ((a : Rat) / b)), true) else (0, 0, false)
def vAngle (h a b : Int) : Int × Int × Bool := if (isD h && isT a b) = true then (tn (((h - 1 : Int) : Rat) * ((a : Rat) / b)), td (((h - 1 : Int) : Rat) * ((a : Rat) / b)), true) else (0, 0, false)
def vSecond (h a b : Int) : Int × Int × Bool := if (isD h && isT a b) = true then (tn (((60 * h : Int) : Rat) * ((a : Rat) / b)), td (((60 * h : Int) : Rat) * ((a : Rat) / b)), true) else (0, 0, false)
def small (q : Rat) : Int × Int × Bool := if sg (tn (-q) * td q - tn q * td (-q)) < 0 then (tn (-q), td (-q), true) else (tn q, td q, true)
def vSmall (h a b : Int) : Int × Int × Bool := if (isD h && isT a b) = true then (if sg (tn (-(((h - 1 : Int) : Rat) * ((a : Rat) / b))) * td (((h - 1 : Int) : Rat) * ((a : Rat) / b)) - tn (((h - 1 : Int) : Rat) * ((a : Rat) / b)) * td (-(((h - 1 : Int) : Rat) * ((a : Rat) / b)))) < 0 then (tn (-(((h - 1 : Int) : Rat) * ((a : Rat) / b))), td (-(((h - 1 : Int) : Rat) * ((a : Rat) / b))), true) else (tn (((h - 1 : Int) : Rat) * ((a : Rat) / b)), td (((h - 1 : Int) : Rat) * ((a : Rat) / b)), true)) else (0, 0, false)
def vHandAt (a b s c d : Int) : Int × Int × Bool := if isH a b s = true then if isT c d = true then mk ((a : Rat) / b + s * ((c : Rat) / d)) else (0, 0, false) else (0, 0, false)
def vAheadAt (a b s c d t m n : Int) : Int × Int × Bool := if (isH a b s && isH c d t) = true then if isT m n = true then mk ((a : Rat) / b - (c : Rat) / d + ((s - t : Int) : Rat) * ((m : Rat) / n)) else (0, 0, false) else (0, 0, false)
def vRelative (a b s c d t : Int) : Int × Int × Int × Bool := if (isH a b s && isH c d t) = true then if isH (tn ((a : Rat) / b - (c : Rat) / d)) (td ((a : Rat) / b - (c : Rat) / d)) (s - t) = true then (tn ((a : Rat) / b - (c : Rat) / d), td ((a : Rat) / b - (c : Rat) / d), s - t, true) else (0, 0, 0, false) else (0, 0, 0, false)
def vShownQ (a b m n c d : Int) : Rat := (a : Rat) / b + ((c * m : Int) : Rat) / ((d * n : Int) : Rat)
def vShown (a b m n c d : Int) : Int × Int × Bool := if isK a b m n = true then if isS c d = true then mk (vShownQ a b m n c d) else (0, 0, false) else (0, 0, false)
def vAheadQ (a b m n c d : Int) : Rat := (a : Rat) / b + ((c * (m - n) : Int) : Rat) / ((d * n : Int) : Rat)
def vAhead (a b m n c d : Int) : Int × Int × Bool := if isK a b m n = true then if isS c d = true then mk (vAheadQ a b m n c d) else (0, 0, false) else (0, 0, false)
def vEvery (a b m n : Int) : Int × Int × Bool := if isK a b m n = true then if m = n then (0, 0, false) else sp n (ab (m - n)) else (0, 0, false)
/-! roots -/
theorem q_root {w : Rat} {s : Int} (hb : 0 < td w) (hs : 0 < s) (i : Nat) : ((tn w + (i : Int) * td w : Int) : Rat) / ((td w * s : Int) : Rat) = (fr w + (((i : Nat) : Int) : Rat)) / (s : Rat) := by
  have h1 := cast_ne hb
  have h2 := cast_ne hs
  rw [← tn_td w]
  simp only [Rat.intCast_add, Rat.intCast_mul]
  grind
theorem td_root (q : Rat) (s : Int) (i : Int) (hs : 0 < s) : td q ≤ td ((fr q + (i : Rat)) / (s : Rat)) := by
  have h2 := cast_ne hs
  have e : (s : Rat) * ((fr q + (i : Rat)) / (s : Rat)) = fr q + (i : Rat) := by grind
  have h := td_mul_le' s ((fr q + (i : Rat)) / (s : Rat))
  rw [e] at h
  have e2 : td (fr q + (i : Rat)) = td q := by
    have : fr (fr q + (i : Rat)) = fr q := by rw [fr_fr_add, fr_add_int]
    exact congrArg Prod.snd (tt_of_fr this)
  omega
end Go.Proofs.YtchglfpiicaedaaGreatDoor.Math
