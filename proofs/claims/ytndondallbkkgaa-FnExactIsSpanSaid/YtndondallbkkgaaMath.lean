/- Plain mathematics of this program's turns: parts of a turn are rationals without their whole part. Nothing here speaks of Go or of memory. -/
import Derived.Test.YtndondallbkkgaaWWords
import Derived.Test.YtndondallbkkgaaWMore
namespace Go.Proofs.Ytndondallbkkgaa.Math
open Go.RowKit Go.Proofs.YtndondallbkkgaaW.PrintWords Go.Proofs.YtndondallbkkgaaW.PrintMore

theorem floor_unique {q : Rat} {z : Int} (h0 : (z : Rat) ≤ q) (h1 : q < (z : Rat) + 1) : q.floor = z := by
  have a : z ≤ q.floor := Rat.le_floor_iff.2 h0
  have b : q.floor < z + 1 := Rat.floor_lt_iff.2 (by simpa using h1)
  omega
/-- A rational without its whole part. -/
def fr (q : Rat) : Rat := q - (q.floor : Rat)
def tn (q : Rat) : Int := (fr q).num
def td (q : Rat) : Int := ((fr q).den : Int)
theorem fr_nonneg (q : Rat) : 0 ≤ fr q := by
  have := Rat.floor_le q
  unfold fr; grind
theorem fr_lt (q : Rat) : fr q < 1 := by
  have := Rat.lt_floor_add_one q
  simp at this
  unfold fr; grind
theorem fr_add_int (q : Rat) (z : Int) : fr (q + z) = fr q := by
  unfold fr
  rw [Rat.floor_add_intCast]
  simp only [Rat.intCast_add]
  grind
theorem fr_of_range {q : Rat} (h0 : 0 ≤ q) (h1 : q < 1) : fr q = q := by
  have : q.floor = 0 := floor_unique (by simpa using h0) (by simp; grind)
  unfold fr; rw [this]; simp; grind
theorem fr_eq_of (p q : Rat) (z : Int) (h : p = q + z) : fr p = fr q := by rw [h, fr_add_int]
theorem td_pos (q : Rat) : 0 < td q := by unfold td; have := (fr q).den_pos; omega
theorem tn_nonneg (q : Rat) : 0 ≤ tn q := Rat.num_nonneg.2 (fr_nonneg q)
theorem tn_lt (q : Rat) : tn q < td q := by
  have h := fr_lt q
  rw [Rat.lt_iff] at h
  unfold tn td
  simpa using h
theorem tn_td (q : Rat) : (tn q : Rat) / (td q : Rat) = fr q := by
  unfold tn td
  have := Rat.num_divInt_den (fr q)
  rw [Rat.divInt_eq_div] at this
  exact this
theorem co (q : Rat) : Int.gcd (tn q) (td q) = 1 := by
  unfold tn td
  have := (fr q).reduced
  simp [Int.gcd]; exact this
theorem fr_div (n d : Int) (hd : 0 < d) : fr ((n : Rat) / d) = ((n % d : Int) : Rat) / (d : Rat) := by
  have hd' : (d : Rat) ≠ 0 := by
    intro h; have := Rat.intCast_eq_zero_iff.1 h; omega
  have hdp : (0 : Rat) < d := Rat.intCast_pos.2 hd
  have e : (n : Rat) / d = ((n % d : Int) : Rat) / (d : Rat) + ((n / d : Int) : Rat) := by
    have : (n : Rat) = ((n % d : Int) : Rat) + (d : Rat) * ((n / d : Int) : Rat) := by
      rw [← Rat.intCast_mul, ← Rat.intCast_add, Int.emod_add_mul_ediv]
    grind
  have h0 := Int.emod_nonneg n (show d ≠ 0 by omega)
  have h1 := Int.emod_lt_of_pos n hd
  rw [fr_eq_of _ _ _ e]
  apply fr_of_range
  · have : (0 : Rat) ≤ ((n % d : Int) : Rat) := by simpa using Rat.intCast_le_intCast.2 h0
    rw [Rat.div_def]
    exact Rat.mul_nonneg this (Rat.le_of_lt (Rat.inv_pos.2 hdp))
  · rw [Rat.div_lt_iff hdp]
    have := Rat.intCast_lt_intCast.2 h1
    grind
theorem tn_div (n d : Int) (hd : 0 < d) : tn ((n : Rat) / d) = (n % d) / (Int.gcd (n % d) d : Int) := by
  unfold tn
  rw [fr_div n d hd, ← Rat.divInt_eq_div, Rat.num_divInt, Int.sign_eq_one_of_pos hd, Int.one_mul, Int.gcd_comm]
theorem td_div (n d : Int) (hd : 0 < d) : td ((n : Rat) / d) = d / (Int.gcd (n % d) d : Int) := by
  unfold td
  rw [fr_div n d hd, ← Rat.divInt_eq_div, Rat.den_divInt, if_neg (by omega), Int.gcd_comm]
  rw [Int.natCast_ediv, Int.natAbs_of_nonneg (by omega)]
/-- A pair in lowest terms tells its own part. -/
theorem canon {n d : Int} (h0 : 0 ≤ n) (h1 : n < d) (hc : Int.gcd n d = 1) : tn ((n : Rat) / d) = n ∧ td ((n : Rat) / d) = d := by
  have hd : 0 < d := by omega
  rw [tn_div n d hd, td_div n d hd, Int.emod_eq_of_lt h0 h1, hc]
  simp
theorem fr_canon {n d : Int} (h0 : 0 ≤ n) (h1 : n < d) : fr ((n : Rat) / d) = (n : Rat) / d := by
  have hd : 0 < d := by omega
  rw [fr_div n d hd, Int.emod_eq_of_lt h0 h1]
theorem fr_of_eq {p q : Rat} (h1 : tn p = tn q) (h2 : td p = td q) : fr p = fr q := by rw [← tn_td p, ← tn_td q, h1, h2]
theorem fr_exists (q : Rat) : ∃ z : Int, q = fr q + z := ⟨q.floor, by unfold fr; grind⟩
theorem td_div_le (n d : Int) (hd : 0 < d) : td ((n : Rat) / d) ≤ d := by
  rw [td_div n d hd]
  exact Int.ediv_le_self _ (by omega)

/-! words of whole numbers -/
theorem wrap_id {x : Int} (h0 : -9223372036854775808 ≤ x) (h1 : x ≤ 9223372036854775807) : wrap64 x = x := by unfold wrap64; omega
def isT (n d : Int) : Bool := decide (1 ≤ d ∧ d ≤ 1000000 ∧ 0 ≤ n ∧ n ≤ d - 1 ∧ Int.gcd n d = 1)
theorem isT_iff {n d : Int} : isT n d = true ↔ 1 ≤ d ∧ d ≤ 1000000 ∧ 0 ≤ n ∧ n ≤ d - 1 ∧ Int.gcd n d = 1 := by unfold isT; simp
def isS (n d : Int) : Bool := decide (0 ≤ n ∧ n ≤ 1000000 ∧ 1 ≤ d ∧ d ≤ 10000 ∧ Int.gcd n d = 1)
theorem isS_iff {n d : Int} : isS n d = true ↔ 0 ≤ n ∧ n ≤ 1000000 ∧ 1 ≤ d ∧ d ≤ 10000 ∧ Int.gcd n d = 1 := by unfold isS; simp
def isC (n d : Int) : Bool := isT n d && decide (d ≤ 1000)
def isH (n d s : Int) : Bool := isC n d && decide (-400 ≤ s ∧ s ≤ 400)
def isK (n d a b : Int) : Bool := isC n d && decide (1 ≤ a ∧ a ≤ 1000 ∧ 1 ≤ b ∧ b ≤ 1000 ∧ Int.gcd a b = 1)
theorem gcd_step {a b : Int} (ha : 0 ≤ a) (hb : 0 < b) : Int.gcd b (Int.tmod a b) = Int.gcd a b := by
  rw [Int.tmod_eq_emod_of_nonneg ha]
  obtain ⟨m, rfl⟩ := Int.eq_ofNat_of_zero_le ha
  obtain ⟨n, rfl⟩ := Int.eq_ofNat_of_zero_le (show 0 ≤ b by omega)
  rw [← Int.natCast_emod]
  simp only [Int.gcd_natCast_natCast]
  rw [Nat.gcd_comm n, ← Nat.gcd_rec, Nat.gcd_comm]
theorem gcd_zero {a : Int} (ha : 0 ≤ a) : (Int.gcd a 0 : Int) = a := by simp [Int.gcd]; omega
theorem tmod_range {a b : Int} (ha : 0 ≤ a) (hb : 0 < b) : 0 ≤ Int.tmod a b ∧ Int.tmod a b < b := by
  rw [Int.tmod_eq_emod_of_nonneg ha]
  exact ⟨Int.emod_nonneg _ (by omega), Int.emod_lt_of_pos _ hb⟩
theorem Ev.cong {α : Type} {g f : Nat → Option α} {r : α} (h : Ev f r) (e : g = f) : Ev g r := by rw [e]; exact h
theorem Ev.val {α : Type} {g : Nat → Option α} {r r' : α} (h : Ev g r) (e : r = r') : Ev g r' := by rw [← e]; exact h
theorem Ev.pos {α : Type} {c : Prop} [Decidable c] {f g : Nat → Option α} {r : α} (h : c) (k : Ev f r) : Ev (fun n => if c then f n else g n) r := by simpa only [if_pos h] using k
theorem Ev.neg {α : Type} {c : Prop} [Decidable c] {f g : Nat → Option α} {r : α} (h : ¬ c) (k : Ev g r) : Ev (fun n => if c then f n else g n) r := by simpa only [if_neg h] using k
end Go.Proofs.Ytndondallbkkgaa.Math
