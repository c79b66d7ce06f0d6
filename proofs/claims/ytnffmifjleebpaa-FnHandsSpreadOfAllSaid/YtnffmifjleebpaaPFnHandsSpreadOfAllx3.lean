-- WRITTEN BY A PROGRAM OF THIS SESSION (wip/tools): its own text, not the kit's printed one.
import Derived.Test.YtnffmifjleebpaaPFnHandsSpreadOfAllx0
namespace Go.Proofs.Ytnffmifjleebpaa.PFnHandsSpreadOfAll
open Go.RowKit Go.Proofs.YtnffmifjleebpaaW.PrintWords Go.Proofs.YtnffmifjleebpaaW.PrintLast Go.Proofs.YtnffmifjleebpaaW.PrintMore
attribute [local go_sem] max2_int min2_int max_two min_two max_three min_three max_four min_four   -- for this text's walks alone
set_option linter.unusedVariables false
set_option linter.unusedSimpArgs false

/-! ### impl_within: function 19 -/
def impl_within.f (a0 : Int) (a1 : Int) (a2 : Int) : Option (Bool) := if a0 ≥ a1 then (some (decide (a0 ≤ a2))) else (some false)
set_option maxHeartbeats 8000000 in
set_option maxRecDepth 100000 in
theorem impl_within.calls (a0 : Int) (a1 : Int) (a2 : Int) (r : Bool) (w : World) (h : impl_within.f a0 a1 a2 = some r) :
  Calls Try.prog 19 #[.int .i64 a0, .int .i64 a1, .int .i64 a2] w fun e w' => e = .returned (.bool r) ∧ Drawn0 w w' := by
 have H : (if a0 ≥ a1 then (some (decide (a0 ≤ a2))) else (some false)) = some r := h
 clear h
 by_cases c4 : a0 ≥ a1
 ·rw [if_pos c4] at H
  have c4b0 : decide (a1 ≤ a0) = true := decide_eq_true c4
  clear c4
  focus
   obtain rfl := Option.some.inj H
   go_enter Try.func19, Try.ntmps19
   go_wp2
   go_ret
   exact ⟨by first | rfl | (simp; done) | (simp [*]; done), by repeat (first | exact Drawn0.refl _ | apply Drawn0.step)⟩
 rw [if_neg c4] at H
 have c4b0 : decide (a1 ≤ a0) = false := decide_eq_false c4
 clear c4
 focus
  obtain rfl := Option.some.inj H
  go_enter Try.func19, Try.ntmps19
  go_wp2
  go_ret
  exact ⟨by first | rfl | (simp; done) | (simp [*]; done), by repeat (first | exact Drawn0.refl _ | apply Drawn0.step)⟩
-- NOT PRINTED: function 52 (impl_Hand_52)

-- NOT PRINTED: function 38 (impl_Hand_38)

/-! ### impl_gcd: function 40 -/
def impl_gcd.l0 : Nat → Int → Int → Option (Int)
 | 0, _, _ => none
 | k + 1, x0, x1 => if x1 = 0 then (some (mx x0 (wrap64 (-x0)))) else (impl_gcd.l0 k x1 (Int.tmod x0 x1))
def impl_gcd.f (k : Nat) (a0 : Int) (a1 : Int) : Option (Int) := impl_gcd.l0 k a0 a1
theorem impl_gcd.mono_l : ∀ k, (∀ y0 y1, LeO (impl_gcd.l0 k y0 y1) (impl_gcd.l0 (k + 1) y0 y1))
 | 0 => fun _ _ r h => by simp [impl_gcd.l0] at h
 | k + 1 => by
  have ih0 := impl_gcd.mono_l k
  ·intro y0 y1
   unfold impl_gcd.l0
   repeat' first
   | (with_reducible apply ih0)
   | (with_reducible exact LeO.refl _)
   | (with_reducible exact LeO.none _)
   | (with_reducible refine LeO.ite ?_ ?_)
   | (with_reducible refine LeO.bind ?_ (fun _ => ?_))
   | apply ih0
   | exact LeO.none _
   | refine LeO.ite ?_ ?_
   | refine LeO.bind ?_ (fun _ => ?_)
theorem impl_gcd.mono : ∀ a0 a1 k, LeO (impl_gcd.f k a0 a1) (impl_gcd.f (k + 1) a0 a1) := by
 intro a0 a1 k
 have ih0 := impl_gcd.mono_l k
 unfold impl_gcd.f
 repeat' first
   | (with_reducible apply ih0)
   | (with_reducible exact LeO.refl _)
   | (with_reducible exact LeO.none _)
   | (with_reducible refine LeO.ite ?_ ?_)
   | (with_reducible refine LeO.bind ?_ (fun _ => ?_))
   | apply ih0
   | exact LeO.none _
   | refine LeO.ite ?_ ?_
   | refine LeO.bind ?_ (fun _ => ?_)
set_option maxHeartbeats 8000000 in
set_option maxRecDepth 100000 in
theorem impl_gcd.calls (k : Nat) (a0 : Int) (a1 : Int) (r : Int) (w : World) (h : impl_gcd.f k a0 a1 = some r) :
  Calls Try.prog 40 #[.int .i64 a0, .int .i64 a1] w fun e w' => e = .returned (.int .i64 r) ∧ Below w.heap.size w w' := by
 have HB := Am (Below.refl w.heap.size w)
 have H : (impl_gcd.l0 k a0 a1) = some r := h
 clear h
 have H' := Am H
 clear H
 go_enter Try.func40, Try.ntmps40
 go_wp2
 repeat (go_quiet (fail); try go_wp2)
 go_loopg [0, 1] k (fun kq v0 v1 w' => ∃ (x0_1 : Int) (x1_1 : Int), v0 = .int .i64 x0_1 ∧ v1 = .int .i64 x1_1 ∧ Aside0 (impl_gcd.l0 kq x0_1 x1_1 = some r) ∧ Aside0 (kq ≤ k) ∧ Aside0 (Below w.heap.size w w'))
 case atStart => exact ⟨(a0), (a1), (by first | rfl | (simp; done) | (simp [*]; done)), (by first | rfl | (simp; done) | (simp [*]; done)), H', ⟨Nat.le_refl _⟩, ⟨by repeat (first | (with_reducible first | exact HB.out | apply bA | apply bN | apply bD) | exact HB.out)⟩⟩
 case round =>
  clear H'
  obtain ⟨x0_1, x1_1, rfl, rfl, HA, HK1, HB⟩ := hrel
  cases gk with
  | zero => exact absurd HA.out (by simp [impl_gcd.l0])
  | succ k1 =>
   have H := HA.out
   clear HA
   simp only [impl_gcd.l0] at H
   by_cases c3 : x1_1 = 0
   ·rw [if_pos c3] at H
    have c3b0 : (x1_1 == 0) = true := beq_iff_eq.mpr c3
    have c3b1 : (x1_1 != 0) = false := bne_eq_false_iff_eq.mpr c3
    clear c3
    obtain ⟨ji4, hji4⟩ : ∃ j_ : Int, (mx x0_1 (wrap64 (-x0_1))) = j_ := ⟨_, rfl⟩
    replace H : (some ji4) = some r := by first | (rw [hji4] at H; exact H) | (simp only [hji4] at H ⊢; exact H)
    have hji4_ : (if x0_1 < (wrap64 (-x0_1)) then (wrap64 (-x0_1)) else x0_1) = ji4 := hji4
    focus
     obtain rfl := Option.some.inj H
     go_wp2
     repeat (go_quiet (fail); try go_wp2)
     go_ret
     exact ⟨by first | rfl | (simp [errW_none, errW_some] <;> rfl) | (simp only [← hji4]; first | rfl | (simp [errW_none, errW_some] <;> rfl)) | (simp [*, errW_none, errW_some] <;> rfl), by repeat (first | (with_reducible first | exact HB.out | apply bA | apply bN | apply bD) | exact HB.out)⟩
   rw [if_neg c3] at H
   have c3b0 : (x1_1 == 0) = false := beq_eq_false_iff_ne.mpr c3
   have c3b1 : (x1_1 != 0) = true := bne_iff_ne.mpr c3
   focus
    have H' := Am H
    clear H
    go_wp2
    repeat (go_quiet (fail); try go_wp2)
    go_roundg k1
    case measure => have := HK1.out; omega
    case rel => exact ⟨(x1_1), (Int.tmod x0_1 x1_1), (by first | rfl | (simp; done) | (simp [*]; done)), (by first | rfl | (simp; done) | (simp [*]; done)), H', ⟨by have := HK1.out; omega⟩, ⟨by repeat (first | (with_reducible first | exact HB.out | apply bA | apply bN | apply bD) | exact HB.out)⟩⟩
/-! ### impl_IsTurn: function 21 -/
def impl_IsTurn.f (k : Nat) (a0_0 : Int) (a0_1 : Int) : Option (Bool) := (impl_within.f a0_1 1 1000000).bind fun t102 => (if t102 = true then ((impl_within.f a0_0 0 (wrap64 (a0_1 - 1))).bind fun t103 => (if t103 = true then ((impl_gcd.f k a0_0 a0_1).bind fun t104 => (some (t104 == 1))) else (some false))) else (some false))
theorem impl_IsTurn.mono : ∀ a0 a1 k, LeO (impl_IsTurn.f k a0 a1) (impl_IsTurn.f (k + 1) a0 a1) := by
 intro a0 a1 k
 unfold impl_IsTurn.f
 repeat' first
   | (with_reducible exact impl_gcd.mono _ _ _)
   | (with_reducible exact LeO.refl _)
   | (with_reducible exact LeO.none _)
   | (with_reducible refine LeO.ite ?_ ?_)
   | (with_reducible refine LeO.bind ?_ (fun _ => ?_))
   | exact impl_gcd.mono _ _ _
   | exact LeO.none _
   | refine LeO.ite ?_ ?_
   | refine LeO.bind ?_ (fun _ => ?_)
set_option maxHeartbeats 8000000 in
set_option maxRecDepth 100000 in
theorem impl_IsTurn.calls (k : Nat) (a0_0 : Int) (a0_1 : Int) (r : Bool) (w : World) (h : impl_IsTurn.f k a0_0 a0_1 = some r) :
  Calls Try.prog 21 #[.agg #[.int .i64 a0_0, .int .i64 a0_1]] w fun e w' => e = .returned (.bool r) ∧ Below w.heap.size w w' := by
 have hu24 := Try.underlying24
 have HB := Am (Below.refl w.heap.size w)
 have H : ((impl_within.f a0_1 1 1000000).bind fun t102 => (if t102 = true then ((impl_within.f a0_0 0 (wrap64 (a0_1 - 1))).bind fun t103 => (if t103 = true then ((impl_gcd.f k a0_0 a0_1).bind fun t104 => (some (t104 == 1))) else (some false))) else (some false))) = some r := h
 clear h
 replace H := Option.bind_eq_some_iff.mp H
 obtain ⟨t102, A20, H⟩ := H
 try dsimp only at H
 have A2 := Am A20
 clear A20
 by_cases c3 : t102 = true
 ·subst c3
  have H1 : ((impl_within.f a0_0 0 (wrap64 (a0_1 - 1))).bind fun t103 => (if t103 = true then ((impl_gcd.f k a0_0 a0_1).bind fun t104 => (some (t104 == 1))) else (some false))) = some r := by rw [if_pos rfl] at H; exact H
  clear H
  have H := H1
  clear H1
  replace H := Option.bind_eq_some_iff.mp H
  obtain ⟨t103, A40, H⟩ := H
  try dsimp only at H
  have A4 := Am A40
  clear A40
  by_cases c5 : t103 = true
  ·subst c5
   have H1 : ((impl_gcd.f k a0_0 a0_1).bind fun t104 => (some (t104 == 1))) = some r := by rw [if_pos rfl] at H; exact H
   clear H
   have H := H1
   clear H1
   replace H := Option.bind_eq_some_iff.mp H
   obtain ⟨t104, A60, H⟩ := H
   try dsimp only at H
   have A6 := Am A60
   clear A60
   focus
    obtain rfl := Option.some.inj H
    go_enter Try.func21, Try.ntmps21
    go_wp2_with (first | ((with_reducible refine gate_dst (N := 1) rfl ?_); refine bE 1 #[.int .i64 a0_0, .int .i64 a0_1] 24 ?_; intro gb101 hg w7 hbox hb; have hv := vK HB hb; have n0_ := Am (bT hv hb); have n1_ := Am (hbox); have GE101 := kG hg hv; clear HB; have HB := n0_; have BK101 := n1_; clear n0_ n1_ hv; clear hb hbox hg; have zq8 := c2 BK101) | ((with_reducible refine gate_callee (f := 19) rfl ?_); refine gL (some 5) Try.func19 #[.int .i64 a0_1, .int .i64 1, .int .i64 1000000] rfl ?_; (with_reducible refine (impl_within.calls a0_1 1 1000000 true _ A2.out).mono ?_); rintro e w' ⟨rfl, ⟨nd, rfl⟩⟩; refine ⟨_, rfl, ?_⟩) | (go_at_call 19; (with_reducible refine (impl_within.calls a0_0 0 (wrap64 (a0_1 - 1)) true _ A4.out).mono ?_); rintro e w' ⟨rfl, ⟨nd, rfl⟩⟩) | (go_at_call 40; (with_reducible refine (impl_gcd.calls k a0_0 a0_1 t104 _ A6.out).mono ?_); rintro e w9 ⟨rfl, hb⟩; have hp0 := pA BK101 hb; have hv := vK HB hb; have n1_ := Am (bT hv hb); clear HB; replace BK101 := hp0 BK101; have HB := n1_; clear n1_ hp0 hv; (try clear hb)))
    go_ret
    exact ⟨by first | rfl | (simp [errW_none, errW_some] <;> rfl) | (simp [*, errW_none, errW_some] <;> rfl), by repeat (first | (with_reducible first | exact HB.out | apply bA | apply bN | apply bD | refine bX ?_ (by assumption)) | exact HB.out)⟩
  replace c5 := Bool.eq_false_iff.mpr c5
  subst c5
  have H1 : (some false) = some r := by rw [if_neg (show ¬ (false = true) by decide)] at H; exact H
  clear H
  have H := H1
  clear H1
  focus
   obtain rfl := Option.some.inj H
   go_enter Try.func21, Try.ntmps21
   go_wp2_with (first | ((with_reducible refine gate_dst (N := 1) rfl ?_); refine bE 1 #[.int .i64 a0_0, .int .i64 a0_1] 24 ?_; intro gb101 hg w10 hbox hb; have hv := vK HB hb; have n0_ := Am (bT hv hb); have n1_ := Am (hbox); have GE101 := kG hg hv; clear HB; have HB := n0_; have BK101 := n1_; clear n0_ n1_ hv; clear hb hbox hg; have zq11 := c2 BK101) | ((with_reducible refine gate_callee (f := 19) rfl ?_); refine gL (some 5) Try.func19 #[.int .i64 a0_1, .int .i64 1, .int .i64 1000000] rfl ?_; (with_reducible refine (impl_within.calls a0_1 1 1000000 true _ A2.out).mono ?_); rintro e w' ⟨rfl, ⟨nd, rfl⟩⟩; refine ⟨_, rfl, ?_⟩) | (go_at_call 19; (with_reducible refine (impl_within.calls a0_0 0 (wrap64 (a0_1 - 1)) false _ A4.out).mono ?_); rintro e w' ⟨rfl, ⟨nd, rfl⟩⟩))
   go_ret
   exact ⟨by first | rfl | (simp [errW_none, errW_some] <;> rfl) | (simp [*, errW_none, errW_some] <;> rfl), by repeat (first | (with_reducible first | exact HB.out | apply bA | apply bN | apply bD | refine bX ?_ (by assumption)) | exact HB.out)⟩
 replace c3 := Bool.eq_false_iff.mpr c3
 subst c3
 have H1 : (some false) = some r := by rw [if_neg (show ¬ (false = true) by decide)] at H; exact H
 clear H
 have H := H1
 clear H1
 focus
  obtain rfl := Option.some.inj H
  go_enter Try.func21, Try.ntmps21
  go_wp2_with (first | ((with_reducible refine gate_dst (N := 1) rfl ?_); refine bE 1 #[.int .i64 a0_0, .int .i64 a0_1] 24 ?_; intro gb101 hg w12 hbox hb; have hv := vK HB hb; have n0_ := Am (bT hv hb); have n1_ := Am (hbox); have GE101 := kG hg hv; clear HB; have HB := n0_; have BK101 := n1_; clear n0_ n1_ hv; clear hb hbox hg; have zq13 := c2 BK101) | ((with_reducible refine gate_callee (f := 19) rfl ?_); refine gL (some 5) Try.func19 #[.int .i64 a0_1, .int .i64 1, .int .i64 1000000] rfl ?_; (with_reducible refine (impl_within.calls a0_1 1 1000000 false _ A2.out).mono ?_); rintro e w' ⟨rfl, ⟨nd, rfl⟩⟩; refine ⟨_, rfl, ?_⟩))
  go_ret
  exact ⟨by first | rfl | (simp [errW_none, errW_some] <;> rfl) | (simp [*, errW_none, errW_some] <;> rfl), by repeat (first | (with_reducible first | exact HB.out | apply bA | apply bN | apply bD | refine bX ?_ (by assumption)) | exact HB.out)⟩
/-! ### impl_isCoarse: function 36 -/
def impl_isCoarse.f (k : Nat) (a0_0 : Int) (a0_1 : Int) : Option (Bool) := (impl_IsTurn.f k a0_0 a0_1).bind fun t106 => (if t106 = true then (some (decide (a0_1 ≤ 1000))) else (some false))
theorem impl_isCoarse.mono : ∀ a0 a1 k, LeO (impl_isCoarse.f k a0 a1) (impl_isCoarse.f (k + 1) a0 a1) := by
 intro a0 a1 k
 unfold impl_isCoarse.f
 repeat' first
   | (with_reducible exact impl_IsTurn.mono _ _ _)
   | (with_reducible exact LeO.refl _)
   | (with_reducible exact LeO.none _)
   | (with_reducible refine LeO.ite ?_ ?_)
   | (with_reducible refine LeO.bind ?_ (fun _ => ?_))
   | exact impl_IsTurn.mono _ _ _
   | exact LeO.none _
   | refine LeO.ite ?_ ?_
   | refine LeO.bind ?_ (fun _ => ?_)
set_option maxHeartbeats 8000000 in
set_option maxRecDepth 100000 in
theorem impl_isCoarse.calls (k : Nat) (a0_0 : Int) (a0_1 : Int) (r : Bool) (w : World) (h : impl_isCoarse.f k a0_0 a0_1 = some r) :
  Calls Try.prog 36 #[.agg #[.int .i64 a0_0, .int .i64 a0_1]] w fun e w' => e = .returned (.bool r) ∧ Below w.heap.size w w' := by
 have hu24 := Try.underlying24
 have HB := Am (Below.refl w.heap.size w)
 have H : ((impl_IsTurn.f k a0_0 a0_1).bind fun t106 => (if t106 = true then (some (decide (a0_1 ≤ 1000))) else (some false))) = some r := h
 clear h
 replace H := Option.bind_eq_some_iff.mp H
 obtain ⟨t106, A20, H⟩ := H
 try dsimp only at H
 have A2 := Am A20
 clear A20
 by_cases c3 : t106 = true
 ·subst c3
  have H1 : (some (decide (a0_1 ≤ 1000))) = some r := by rw [if_pos rfl] at H; exact H
  clear H
  have H := H1
  clear H1
  focus
   obtain rfl := Option.some.inj H
   go_enter Try.func36, Try.ntmps36
   go_wp2_with (first | ((with_reducible refine gate_dst (N := 1) rfl ?_); refine bE 1 #[.int .i64 a0_0, .int .i64 a0_1] 24 ?_; intro gb105 hg w4 hbox hb; have hv := vK HB hb; have n0_ := Am (bT hv hb); have n1_ := Am (hbox); have GE105 := kG hg hv; clear HB; have HB := n0_; have BK105 := n1_; clear n0_ n1_ hv; clear hb hbox hg; have zq5 := c2 BK105) | ((with_reducible refine gate_callee (f := 21) rfl ?_); refine gL (some 4) Try.func21 #[.agg #[.int .i64 a0_0, .int .i64 a0_1]] rfl ?_; (with_reducible refine (impl_IsTurn.calls k a0_0 a0_1 true _ A2.out).mono ?_); rintro e w6 ⟨rfl, hb⟩; refine ⟨_, rfl, ?_⟩; have hp0 := pA BK105 hb; have hv := vK HB hb; have n1_ := Am (bT hv hb); clear HB; replace BK105 := hp0 BK105; have HB := n1_; clear n1_ hp0 hv; (try clear hb); have zq7 := c2 BK105))
   go_ret
   exact ⟨by first | rfl | (simp [errW_none, errW_some] <;> rfl) | (simp [*, errW_none, errW_some] <;> rfl), by repeat (first | (with_reducible first | exact HB.out | apply bA | apply bN | apply bD | refine bX ?_ (by assumption)) | exact HB.out)⟩
 replace c3 := Bool.eq_false_iff.mpr c3
 subst c3
 have H1 : (some false) = some r := by rw [if_neg (show ¬ (false = true) by decide)] at H; exact H
 clear H
 have H := H1
 clear H1
 focus
  obtain rfl := Option.some.inj H
  go_enter Try.func36, Try.ntmps36
  go_wp2_with (first | ((with_reducible refine gate_dst (N := 1) rfl ?_); refine bE 1 #[.int .i64 a0_0, .int .i64 a0_1] 24 ?_; intro gb105 hg w8 hbox hb; have hv := vK HB hb; have n0_ := Am (bT hv hb); have n1_ := Am (hbox); have GE105 := kG hg hv; clear HB; have HB := n0_; have BK105 := n1_; clear n0_ n1_ hv; clear hb hbox hg; have zq9 := c2 BK105) | ((with_reducible refine gate_callee (f := 21) rfl ?_); refine gL (some 4) Try.func21 #[.agg #[.int .i64 a0_0, .int .i64 a0_1]] rfl ?_; (with_reducible refine (impl_IsTurn.calls k a0_0 a0_1 false _ A2.out).mono ?_); rintro e w10 ⟨rfl, hb⟩; refine ⟨_, rfl, ?_⟩; have hp0 := pA BK105 hb; have hv := vK HB hb; have n1_ := Am (bT hv hb); clear HB; replace BK105 := hp0 BK105; have HB := n1_; clear n1_ hp0 hv; (try clear hb)))
  go_ret
  exact ⟨by first | rfl | (simp [errW_none, errW_some] <;> rfl) | (simp [*, errW_none, errW_some] <;> rfl), by repeat (first | (with_reducible first | exact HB.out | apply bA | apply bN | apply bD | refine bX ?_ (by assumption)) | exact HB.out)⟩
/-! ### impl_IsHand: function 17 -/
def impl_IsHand.f (k : Nat) (a0_0 : Int) (a0_1 : Int) (a0_2 : Int) : Option (Bool) := (impl_isCoarse.f k a0_0 a0_1).bind fun t108 => (if t108 = true then ((impl_within.f a0_2 (-400) 400).bind fun t109 => (some t109)) else (some false))
theorem impl_IsHand.mono : ∀ a0 a1 a2 k, LeO (impl_IsHand.f k a0 a1 a2) (impl_IsHand.f (k + 1) a0 a1 a2) := by
 intro a0 a1 a2 k
 unfold impl_IsHand.f
 repeat' first
   | (with_reducible exact impl_isCoarse.mono _ _ _)
   | (with_reducible exact LeO.refl _)
   | (with_reducible exact LeO.none _)
   | (with_reducible refine LeO.ite ?_ ?_)
   | (with_reducible refine LeO.bind ?_ (fun _ => ?_))
   | exact impl_isCoarse.mono _ _ _
   | exact LeO.none _
   | refine LeO.ite ?_ ?_
   | refine LeO.bind ?_ (fun _ => ?_)
set_option maxHeartbeats 8000000 in
set_option maxRecDepth 100000 in
theorem impl_IsHand.calls (k : Nat) (a0_0 : Int) (a0_1 : Int) (a0_2 : Int) (r : Bool) (w : World) (h : impl_IsHand.f k a0_0 a0_1 a0_2 = some r) :
  Calls Try.prog 17 #[.agg #[.int .i64 a0_0, .int .i64 a0_1, .int .i64 a0_2]] w fun e w' => e = .returned (.bool r) ∧ Below w.heap.size w w' := by
 have hu26 := Try.underlying26; have hu24 := Try.underlying24
 have HB := Am (Below.refl w.heap.size w)
 have H : ((impl_isCoarse.f k a0_0 a0_1).bind fun t108 => (if t108 = true then ((impl_within.f a0_2 (-400) 400).bind fun t109 => (some t109)) else (some false))) = some r := h
 clear h
 replace H := Option.bind_eq_some_iff.mp H
 obtain ⟨t108, A20, H⟩ := H
 try dsimp only at H
 have A2 := Am A20
 clear A20
 by_cases c3 : t108 = true
 ·subst c3
  have H1 : ((impl_within.f a0_2 (-400) 400).bind fun t109 => (some t109)) = some r := by rw [if_pos rfl] at H; exact H
  clear H
  have H := H1
  clear H1
  replace H := Option.bind_eq_some_iff.mp H
  obtain ⟨t109, A40, H⟩ := H
  try dsimp only at H
  have A4 := Am A40
  clear A40
  focus
   obtain rfl := Option.some.inj H
   go_enter Try.func17, Try.ntmps17
   go_wp2_with (first | ((with_reducible refine gate_dst (N := 1) rfl ?_); refine bE 1 #[.int .i64 a0_0, .int .i64 a0_1, .int .i64 a0_2] 26 ?_; intro gb107 hg w5 hbox hb; have hv := vK HB hb; have n0_ := Am (bT hv hb); have n1_ := Am (hbox); have GE107 := kG hg hv; clear HB; have HB := n0_; have BK107 := n1_; clear n0_ n1_ hv; clear hb hbox hg; have zq6 := c3 BK107) | ((with_reducible refine gate_callee (f := 36) rfl ?_); refine gL (some 5) Try.func36 #[.agg #[.int .i64 a0_0, .int .i64 a0_1]] rfl ?_; (with_reducible refine (impl_isCoarse.calls k a0_0 a0_1 true _ A2.out).mono ?_); rintro e w7 ⟨rfl, hb⟩; refine ⟨_, rfl, ?_⟩; have hp0 := pA BK107 hb; have hv := vK HB hb; have n1_ := Am (bT hv hb); clear HB; replace BK107 := hp0 BK107; have HB := n1_; clear n1_ hp0 hv; (try clear hb); have zq8 := c3 BK107) | (go_at_call 19; (with_reducible refine (impl_within.calls a0_2 (-400) 400 t109 _ A4.out).mono ?_); rintro e w' ⟨rfl, ⟨nd, rfl⟩⟩))
   go_ret
   exact ⟨by first | rfl | (simp [errW_none, errW_some] <;> rfl) | (simp [*, errW_none, errW_some] <;> rfl), by repeat (first | (with_reducible first | exact HB.out | apply bA | apply bN | apply bD | refine bX ?_ (by assumption)) | exact HB.out)⟩
 replace c3 := Bool.eq_false_iff.mpr c3
 subst c3
 have H1 : (some false) = some r := by rw [if_neg (show ¬ (false = true) by decide)] at H; exact H
 clear H
 have H := H1
 clear H1
 focus
  obtain rfl := Option.some.inj H
  go_enter Try.func17, Try.ntmps17
  go_wp2_with (first | ((with_reducible refine gate_dst (N := 1) rfl ?_); refine bE 1 #[.int .i64 a0_0, .int .i64 a0_1, .int .i64 a0_2] 26 ?_; intro gb107 hg w9 hbox hb; have hv := vK HB hb; have n0_ := Am (bT hv hb); have n1_ := Am (hbox); have GE107 := kG hg hv; clear HB; have HB := n0_; have BK107 := n1_; clear n0_ n1_ hv; clear hb hbox hg; have zq10 := c3 BK107) | ((with_reducible refine gate_callee (f := 36) rfl ?_); refine gL (some 5) Try.func36 #[.agg #[.int .i64 a0_0, .int .i64 a0_1]] rfl ?_; (with_reducible refine (impl_isCoarse.calls k a0_0 a0_1 false _ A2.out).mono ?_); rintro e w11 ⟨rfl, hb⟩; refine ⟨_, rfl, ?_⟩; have hp0 := pA BK107 hb; have hv := vK HB hb; have n1_ := Am (bT hv hb); clear HB; replace BK107 := hp0 BK107; have HB := n1_; clear n1_ hp0 hv; (try clear hb)))
  go_ret
  exact ⟨by first | rfl | (simp [errW_none, errW_some] <;> rfl) | (simp [*, errW_none, errW_some] <;> rfl), by repeat (first | (with_reducible first | exact HB.out | apply bA | apply bN | apply bD | refine bX ?_ (by assumption)) | exact HB.out)⟩
/-! ### impl_areHands_1: function 39 -/
def impl_areHands_1.f (k : Nat) (a0_0 : Int) (a0_1 : Int) (a0_2 : Int) : Option (Bool) := (impl_IsHand.f k a0_0 a0_1 a0_2).bind fun t111 => (some (!t111))
theorem impl_areHands_1.mono : ∀ a0 a1 a2 k, LeO (impl_areHands_1.f k a0 a1 a2) (impl_areHands_1.f (k + 1) a0 a1 a2) := by
 intro a0 a1 a2 k
 unfold impl_areHands_1.f
 repeat' first
   | (with_reducible exact impl_IsHand.mono _ _ _ _)
   | (with_reducible exact LeO.refl _)
   | (with_reducible exact LeO.none _)
   | (with_reducible refine LeO.ite ?_ ?_)
   | (with_reducible refine LeO.bind ?_ (fun _ => ?_))
   | exact impl_IsHand.mono _ _ _ _
   | exact LeO.none _
   | refine LeO.ite ?_ ?_
   | refine LeO.bind ?_ (fun _ => ?_)
set_option maxHeartbeats 8000000 in
set_option maxRecDepth 100000 in
theorem impl_areHands_1.calls (k : Nat) (a0_0 : Int) (a0_1 : Int) (a0_2 : Int) (r : Bool) (w : World) (h : impl_areHands_1.f k a0_0 a0_1 a0_2 = some r) :
  Calls Try.prog 39 #[.agg #[.int .i64 a0_0, .int .i64 a0_1, .int .i64 a0_2]] w fun e w' => e = .returned (.bool r) ∧ Below w.heap.size w w' := by
 have hu26 := Try.underlying26
 have HB := Am (Below.refl w.heap.size w)
 have H : ((impl_IsHand.f k a0_0 a0_1 a0_2).bind fun t111 => (some (!t111))) = some r := h
 clear h
 replace H := Option.bind_eq_some_iff.mp H
 obtain ⟨t111, A20, H⟩ := H
 try dsimp only at H
 have A2 := Am A20
 clear A20
 focus
  obtain rfl := Option.some.inj H
  go_enter Try.func39, Try.ntmps39
  go_wp2_with (first | ((with_reducible refine gate_dst (N := 1) rfl ?_); refine bE 1 #[.int .i64 a0_0, .int .i64 a0_1, .int .i64 a0_2] 26 ?_; intro gb110 hg w3 hbox hb; have hv := vK HB hb; have n0_ := Am (bT hv hb); have n1_ := Am (hbox); have GE110 := kG hg hv; clear HB; have HB := n0_; have BK110 := n1_; clear n0_ n1_ hv; clear hb hbox hg; have zq4 := c3 BK110) | ((with_reducible refine gate_callee (f := 17) rfl ?_); refine gL (some 4) Try.func17 #[.agg #[.int .i64 a0_0, .int .i64 a0_1, .int .i64 a0_2]] rfl ?_; (with_reducible refine (impl_IsHand.calls k a0_0 a0_1 a0_2 t111 _ A2.out).mono ?_); rintro e w5 ⟨rfl, hb⟩; refine ⟨_, rfl, ?_⟩; have hp0 := pA BK110 hb; have hv := vK HB hb; have n1_ := Am (bT hv hb); clear HB; replace BK110 := hp0 BK110; have HB := n1_; clear n1_ hp0 hv; (try clear hb)))
  go_ret
  exact ⟨by first | rfl | (simp [errW_none, errW_some] <;> rfl) | (simp [*, errW_none, errW_some] <;> rfl), by repeat (first | (with_reducible first | exact HB.out | apply bA | apply bN | apply bD | refine bX ?_ (by assumption)) | exact HB.out)⟩
/-! ### impl_areHands: function 20 -/
def impl_areHands.g (k : Nat) : List (S26) → Option (Bool)
 | [] => some true
 | x :: xs => (impl_areHands_1.f k x.f0.f0 x.f0.f1 x.f1).bind fun b => if b = true then some false else impl_areHands.g k xs
def impl_areHands.f (k : Nat) (l0 : List (S26)) : Option (Bool) := if l0.length < 4611686018427387904 then impl_areHands.g k l0 else none
theorem impl_areHands.mono_g : ∀ a0 k, LeO (impl_areHands.g k a0) (impl_areHands.g (k + 1) a0)
 | [], k => LeO.refl _
 | x :: xs, k => by
  unfold impl_areHands.g
  exact LeO.bind (impl_areHands_1.mono _ _ _ _) (fun _ => LeO.ite (LeO.refl _) (impl_areHands.mono_g xs k))
theorem impl_areHands.mono : ∀ a0 k, LeO (impl_areHands.f k a0) (impl_areHands.f (k + 1) a0) := fun a0 k => by
 unfold impl_areHands.f
 exact LeO.ite (impl_areHands.mono_g a0 k) (LeO.refl _)
theorem impl_areHands.at (k : Nat) (l0 : List (S26)) (x8 : Int) (r : Bool) (h0 : 0 ≤ x8) (h1 : x8 < (l0.length : Int)) (h : impl_areHands.g k (l0.drop x8.toNat) = some r) :
  ∃ b, impl_areHands_1.f k (rd_T26 l0 x8).f0.f0 (rd_T26 l0 x8).f0.f1 (rd_T26 l0 x8).f1 = some b ∧ (b = true → r = false) ∧ (b = false → impl_areHands.g k (l0.drop (x8 + 1).toNat) = some r) := by
 have hl : x8.toNat < l0.length := by omega
 rw [List.drop_eq_getElem_cons hl] at h
 simp only [impl_areHands.g] at h
 obtain ⟨b, hb, hr⟩ := Option.bind_eq_some_iff.mp h
 have e1 : rd_T26 l0 x8 = l0[x8.toNat] := by unfold rd_T26; rw [List.getD_eq_getElem?_getD, List.getElem?_eq_getElem hl]; rfl
 refine ⟨b, by rw [e1]; exact hb, fun e => ?_, fun e => ?_⟩
 ·rw [e, if_pos rfl] at hr; exact (Option.some.inj hr).symm
 ·rw [e, if_neg (by decide)] at hr
  rw [show (x8 + 1).toNat = x8.toNat + 1 by omega]; exact hr
set_option maxHeartbeats 8000000 in
set_option maxRecDepth 100000 in
theorem impl_areHands.idx (k : Nat) (A0 : Option Addr) (c0 : Nat) (l0 : List (S26)) (r : Bool) (w : World) (hr0 : Kd.C k26 w A0 l0.length l0) (hlen : l0.length < 4611686018427387904) (h : impl_areHands.g k l0 = some r) :
  Calls Try.prog 52 #[.slice A0 l0.length c0, .func (.func 39) #[] #[]] w fun e w' => ∃ v : Int, e = .returned (.int .i64 v) ∧ decide (0 ≤ v) = !r ∧ Below w.heap.size w w' := by
 have HR0 := Am hr0
 clear hr0
 have H' : Aside0 (impl_areHands.g k (l0.drop (0 : Int).toNat) = some r) := ⟨h⟩
 clear h
 have hu26 := Try.underlying26
 go_enter Try.func52, Try.ntmps52
 go_wp2
 go_loopg [5, 8] l0.length (fun gg v5 v8 w' => ∃ x8 : Int, 0 ≤ x8 ∧ x8 ≤ (l0.length : Int) ∧ (l0.length : Int) - x8 ≤ gg ∧ v8 = .int .i64 x8 ∧ Aside0 (impl_areHands.g k (l0.drop x8.toNat) = some r) ∧ Aside0 (Below w.heap.size w w'))
 case atStart => exact ⟨0, by omega, by omega, by omega, rfl, H', ⟨Below.refl _ w⟩⟩
 case round =>
  clear H'
  obtain ⟨x8, hx0, hx1, hg, rfl, HA, HB⟩ := hrel
  have hbd : x8 < 4611686018427387904 := by omega
  by_cases hlt : x8 < (l0.length : Int)
  ·have hltb : decide (x8 < (l0.length : Int)) = true := decide_eq_true hlt
   have hx0b : decide (0 ≤ x8) = true := decide_eq_true hx0
   obtain ⟨b, hb, hbt, hbf⟩ := impl_areHands.at k l0 x8 r hx0 hlt HA.out
   clear HA
   obtain ⟨ad, ea, hc0, hc1, hc2⟩ := at_T26 HR0.out x8 hx0 hlt
   cases ea
   replace hc0 := (HB.out.cell (World.block_lt_of_cell? w _ hc0)).trans hc0
   replace hc1 := (HB.out.cell (World.block_lt_of_cell? w _ hc1)).trans hc1
   replace hc2 := (HB.out.cell (World.block_lt_of_cell? w _ hc2)).trans hc2
   cases b with
   | true =>
    have HB1 := Am hb
    have HT := Am (hbt rfl)
    clear hb hbt hbf
    go_wp2_with (go_at_call 39; refine (impl_areHands_1.calls k _ _ _ true _ HB1.out).mono ?_; rintro e w2 ⟨rfl, hb'⟩)
    go_ret
    exact ⟨x8, rfl, by rw [HT.out]; simpa using hx0, bT HB.out hb'⟩
   | false =>
    have HB1 := Am hb
    have HF := Am (hbf rfl)
    clear hb hbt hbf
    go_wp2_with (go_at_call 39; refine (impl_areHands_1.calls k _ _ _ false _ HB1.out).mono ?_; rintro e w2 ⟨rfl, hb'⟩)
    go_roundg (l0.length - (x8 + 1).toNat)
    case measure => omega
    case rel => exact ⟨x8 + 1, by omega, by omega, by omega, by go_num, ⟨HF.out⟩, ⟨bT HB.out hb'⟩⟩
  have hltb : decide (x8 < (l0.length : Int)) = false := decide_eq_false hlt
  have e8 : r = true := by
   have := HA.out
   rw [List.drop_of_length_le (by omega)] at this
   exact (Option.some.inj this).symm
  clear HA
  have E8 := Am e8
  clear e8
  go_wp2
  go_ret
  exact ⟨-1, rfl, by rw [E8.out]; rfl, HB.out⟩
set_option maxHeartbeats 8000000 in
set_option maxRecDepth 100000 in
theorem impl_areHands.con (k : Nat) (A0 : Option Addr) (c0 : Nat) (l0 : List (S26)) (r : Bool) (w : World) (hr0 : Kd.C k26 w A0 l0.length l0) (hlen : l0.length < 4611686018427387904) (h : impl_areHands.g k l0 = some r) :
  Calls Try.prog 38 #[.slice A0 l0.length c0, .func (.func 39) #[] #[]] w fun e w' => e = .returned (.bool (!r)) ∧ Below w.heap.size w w' := by
 have HR0 := Am hr0
 have H' := Am h
 clear hr0 h
 go_enter Try.func38, Try.ntmps38
 go_wp2_with (go_at_call 52; refine (impl_areHands.idx k A0 c0 l0 r _ HR0.out hlen H'.out).mono ?_; rintro e w2 ⟨v, rfl, hv0, hb'⟩; have HV := Am hv0; clear hv0)
 go_ret
 exact ⟨congrArg (fun b => Ending.returned (.bool b)) HV.out, hb'⟩
set_option maxHeartbeats 8000000 in
set_option maxRecDepth 100000 in
theorem impl_areHands.calls (k : Nat) (A0 : Option Addr) (c0 : Nat) (l0 : List (S26)) (r : Bool) (w : World) (hr0 : Kd.C k26 w A0 l0.length l0) (hc0 : l0.length ≤ c0) (h : impl_areHands.f k l0 = some r) :
  Calls Try.prog 20 #[.slice A0 l0.length c0] w fun e w' => e = .returned (.bool r) ∧ Below w.heap.size w w' := by
 have HR0 := Am hr0
 have hlen : l0.length < 4611686018427387904 := by
  unfold impl_areHands.f at h
  by_cases hl : l0.length < 4611686018427387904
  ·exact hl
  rw [if_neg hl] at h; cases h
 have H' : Aside0 (impl_areHands.g k l0 = some r) := by
  unfold impl_areHands.f at h
  rw [if_pos hlen] at h
  exact ⟨h⟩
 clear hr0 h
 go_enter Try.func20, Try.ntmps20
 go_wp2_with (go_at_call 38; refine (impl_areHands.con k A0 c0 l0 r _ HR0.out hlen H'.out).mono ?_; rintro e w2 ⟨rfl, hb'⟩)
 go_ret
 exact ⟨by simp, hb'⟩
/-! ### impl_floorDiv: function 51 -/
def impl_floorDiv.f (a0 : Int) (a1 : Int) : Option (Int × Int) := if a1 = 0 then (none) else (if (Int.tmod a0 a1) < 0 then (some (wrap64 ((wrap64 (Int.tdiv a0 a1)) - 1), wrap64 ((Int.tmod a0 a1) + a1))) else (some (wrap64 (Int.tdiv a0 a1), Int.tmod a0 a1)))
set_option maxHeartbeats 8000000 in
set_option maxRecDepth 100000 in
theorem impl_floorDiv.calls (a0 : Int) (a1 : Int) (r1 : Int) (r2 : Int) (w : World) (h : impl_floorDiv.f a0 a1 = some (r1, r2)) :
  Calls Try.prog 51 #[.int .i64 a0, .int .i64 a1] w fun e w' => e = .returned (.tuple #[.int .i64 r1, .int .i64 r2]) ∧ Drawn0 w w' := by
 have H : (if a1 = 0 then (none) else (if (Int.tmod a0 a1) < 0 then (some (wrap64 ((wrap64 (Int.tdiv a0 a1)) - 1), wrap64 ((Int.tmod a0 a1) + a1))) else (some (wrap64 (Int.tdiv a0 a1), Int.tmod a0 a1)))) = some (r1, r2) := h
 clear h
 by_cases c3 : a1 = 0
 ·rw [if_pos c3] at H
  exact absurd H (by simp)
 rw [if_neg c3] at H
 have c3b0 : (a1 == 0) = false := beq_eq_false_iff_ne.mpr c3
 have c3b1 : (a1 != 0) = true := bne_iff_ne.mpr c3
 by_cases c4 : (Int.tmod a0 a1) < 0
 ·rw [if_pos c4] at H
  have c4b0 : decide ((Int.tmod a0 a1) < 0) = true := decide_eq_true c4
  clear c4
  focus
   simp only [Option.some.injEq, Prod.mk.injEq] at H
   obtain ⟨rfl, rfl⟩ := H
   go_enter Try.func51, Try.ntmps51
   go_wp2
   repeat (go_quiet (fail); try go_wp2)
   go_ret2
   exact ⟨by first | rfl | (simp; done) | (simp [*]; done), by repeat (first | exact Drawn0.refl _ | apply Drawn0.step)⟩
 rw [if_neg c4] at H
 have c4b0 : decide ((Int.tmod a0 a1) < 0) = false := decide_eq_false c4
 clear c4
 focus
  simp only [Option.some.injEq, Prod.mk.injEq] at H
  obtain ⟨rfl, rfl⟩ := H
  go_enter Try.func51, Try.ntmps51
  go_wp2
  repeat (go_quiet (fail); try go_wp2)
  go_ret2
  exact ⟨by first | rfl | (simp; done) | (simp [*]; done), by repeat (first | exact Drawn0.refl _ | apply Drawn0.step)⟩
/-! ### impl_part: function 33 -/
def impl_part.f (k : Nat) (a0 : Int) (a1 : Int) : Option (Int × Int) := (impl_floorDiv.f a0 a1).bind fun bt113 => ((impl_gcd.f k bt113.2 a1).bind fun t115 => (if t115 = 0 then (none) else (some (wrap64 (Int.tdiv bt113.2 t115), wrap64 (Int.tdiv a1 t115)))))
theorem impl_part.mono : ∀ a0 a1 k, LeO (impl_part.f k a0 a1) (impl_part.f (k + 1) a0 a1) := by
 intro a0 a1 k
 unfold impl_part.f
 repeat' first
   | (with_reducible exact impl_gcd.mono _ _ _)
   | (with_reducible exact LeO.refl _)
   | (with_reducible exact LeO.none _)
   | (with_reducible refine LeO.ite ?_ ?_)
   | (with_reducible refine LeO.bind ?_ (fun _ => ?_))
   | exact impl_gcd.mono _ _ _
   | exact LeO.none _
   | refine LeO.ite ?_ ?_
   | refine LeO.bind ?_ (fun _ => ?_)
def impl_part.T3 : Bool × List (List Nat × List Nat) := (true, [([], []), ([], []), ([0, 1], [0, 1]), ([], []), ([], []), ([3, 4], [3, 4]), ([2, 5], [2, 5]), ([6, 0, 1, 2, 3, 4, 5, 6], [6])])
def impl_part.B3 : List Nat := [0, 0, 3, 0, 0, 24, 63, 127]
theorem impl_part.tab3 : rtab .any (opsOf Try.f33 3) = impl_part.T3 := by kernel_rfl
theorem impl_part.bits3 : waitsOk impl_part.T3.2 impl_part.B3 = true := by kernel_rfl
set_option maxHeartbeats 8000000 in
set_option maxRecDepth 100000 in
theorem impl_part.calls (k : Nat) (a0 : Int) (a1 : Int) (r1 : Int) (r2 : Int) (w : World) (h : impl_part.f k a0 a1 = some (r1, r2)) :
  Calls Try.prog 33 #[.int .i64 a0, .int .i64 a1] w fun e w' => e = .returned (.agg #[.int .i64 r1, .int .i64 r2]) ∧ Below w.heap.size w w' := by
 have hu24 := Try.underlying24
 have HB := Am (Below.refl w.heap.size w)
 have H : ((impl_floorDiv.f a0 a1).bind fun bt113 => ((impl_gcd.f k bt113.2 a1).bind fun t115 => (if t115 = 0 then (none) else (some (wrap64 (Int.tdiv bt113.2 t115), wrap64 (Int.tdiv a1 t115)))))) = some (r1, r2) := h
 clear h
 replace H := Option.bind_eq_some_iff.mp H
 obtain ⟨⟨t113, t114⟩, A30, H⟩ := H
 try dsimp only at H
 have A3 := Am A30
 clear A30
 replace H := Option.bind_eq_some_iff.mp H
 obtain ⟨t115, A40, H⟩ := H
 try dsimp only at H
 have A4 := Am A40
 clear A40
 by_cases c5 : t115 = 0
 ·rw [if_pos c5] at H
  exact absurd H (by simp)
 rw [if_neg c5] at H
 have c5b0 : (t115 == 0) = false := beq_eq_false_iff_ne.mpr c5
 have c5b1 : (t115 != 0) = true := bne_iff_ne.mpr c5
 focus
  simp only [Option.some.injEq, Prod.mk.injEq] at H
  obtain ⟨rfl, rfl⟩ := H
  go_enter Try.func33, Try.ntmps33
  try go_wp2_with (first | ((with_reducible refine gate_dst (N := 4) rfl ?_); refine bE 4 #[.int .i64 0, .int .i64 0] 24 ?_; intro gb112 hg w6 hbox hb; have hv := vK HB hb; have n0_ := Am (bT hv hb); have n1_ := Am (hbox); have GE112 := kG hg hv; clear HB; have HB := n0_; have BK112 := n1_; clear n0_ n1_ hv; clear hb hbox hg) | ((with_reducible refine gate_callee (f := 51) rfl ?_); refine gL (some 11) Try.func51 #[.int .i64 a0, .int .i64 a1] rfl ?_; (with_reducible refine (impl_floorDiv.calls a0 a1 t113 t114 _ A3.out).mono ?_); rintro e w' ⟨rfl, ⟨nd, rfl⟩⟩; refine ⟨_, rfl, ?_⟩; (try (rw [drewN_self w6]; generalize hq_ : World.drewN w6 _ = w6; have n0_ : Aside0 (w6.heap[gb112]? = some (.cells #[.int .i64 0, .int .i64 0] 24 (0, 0))) := ⟨by rw [← hq_]; exact (kU BK112)⟩; have n1_ : Aside0 (Below w.heap.size w w6) := ⟨by rw [← hq_]; exact (by repeat (first | (with_reducible first | exact HB.out | apply bA | apply bN | apply bD | refine bX ?_ (by assumption)) | exact HB.out))⟩; clear BK112 HB hq_; have BK112 := n0_; have HB := n1_; clear n0_ n1_))) | ((with_reducible refine gate_callee (f := 40) rfl ?_); refine gL (some 16) Try.func40 #[.int .i64 t114, .int .i64 a1] rfl ?_; (with_reducible refine (impl_gcd.calls k t114 a1 t115 _ A4.out).mono ?_); rintro e w7 ⟨rfl, hb⟩; refine ⟨_, rfl, ?_⟩; have hp0 := pA BK112 hb; have hv := vK HB hb; have n1_ := Am (bT hv hb); clear HB; replace BK112 := hp0 BK112; have HB := n1_; clear n1_ hp0 hv; (try clear hb)))
  have n0_ := Am (kD BK112.out)
  have n1_ := Am (bD HB.out)
  clear BK112 HB
  have BK112 := n0_; have HB := n1_
  clear n0_ n1_
  refine start_ (n := 8) (S := fun w' => True) (ds := []) (pT 8 0) (by kernel_rfl) rfl rfl trivial (fun hHeld => ?_); refine with_tabW impl_part.tab3 impl_part.bits3 (fun HT_ HW_ => ?_)
  generalize w7.drew = w8 at BK112 HB hHeld ⊢
  iterate 7
   refine pI (v := ?_) (a' := ?_) rfl (any_of HT_.out (by kernel_rfl)) (fun _ _ _ h => h) (Or.inl ⟨by rfl, ?_⟩) ?_ ?_
   rotate_left
   ·intro w'
    go_simp
    with_reducible rfl
   rotate_left
   ·show Act.put _ (some _) _ = _
    simp only [Act.put, List.setIfInBounds_toArray, List.set_cons_zero, List.set_cons_succ, i64_w, i32_w]
    rfl
  refine one_ (i := 7) (N := none) (pT 8 8) rfl rfl (one_of HT_.out (by kernel_rfl)) (by decide) (fun K hK => ?_)
  have hs9 : w8.cell? ⟨gb112, 0, none⟩ = some (.int .i64 0) := c20 BK112.out
  have hfs9 := kF BK112.out 0
  have hs10 : w8.cell? ⟨gb112, 1, none⟩ = some (.int .i64 0) := c21 BK112.out
  have hfs10 := kF BK112.out 1
  refine skip_ (w1 := ?_) (by rfl) rfl ?_ ?_
  rotate_left
  ·go_simp
   rfl
  refine hK.out _ _ trivial (fun hHeld => ?_)
  clear hK K
  refine done_ (done_of HT_.out (by kernel_rfl)) ?_
  try go_wp2
  refine bodyPost_ret (results_cell_row rfl _ _ gb112 24 #[.int .i64 (wrap64 (Int.tdiv t114 t115)), .int .i64 (wrap64 (Int.tdiv a1 t115))] (0, 0) _ rfl (by (with_reducible repeat (first | refine kN ?_ _ | refine kD ?_ | refine kA ?_ _)); refine kP (cs := #[.int .i64 (wrap64 (Int.tdiv t114 t115)), .int .i64 0]) ?_ 1 _ rfl; (with_reducible repeat (first | refine kN ?_ _ | refine kD ?_ | refine kA ?_ _)); refine kP (cs := #[.int .i64 0, .int .i64 0]) ?_ 0 _ rfl; (with_reducible repeat (first | refine kN ?_ _ | refine kD ?_ | refine kA ?_ _)); exact BK112.out) Try.underlying24 rfl (by kernel_rfl)) rfl ?_
  exact ⟨by first | rfl | (simp [errW_none, errW_some] <;> rfl) | (simp [*, errW_none, errW_some] <;> rfl), by repeat (first | (with_reducible first | exact HB.out | apply bA | apply bN | apply bD | refine bX ?_ (by assumption)) | exact HB.out)⟩
/-! ### impl_Turn_plus: function 30 -/
def impl_Turn_plus.f (k : Nat) (a0_0 : Int) (a0_1 : Int) (a1_0 : Int) (a1_1 : Int) : Option (Int × Int) := (impl_part.f k (wrap64 ((wrap64 (a0_0 * a1_1)) + (wrap64 (a1_0 * a0_1)))) (wrap64 (a0_1 * a1_1))).bind fun bt119 => (some (bt119.1, bt119.2))
theorem impl_Turn_plus.mono : ∀ a0 a1 a2 a3 k, LeO (impl_Turn_plus.f k a0 a1 a2 a3) (impl_Turn_plus.f (k + 1) a0 a1 a2 a3) := by
 intro a0 a1 a2 a3 k
 unfold impl_Turn_plus.f
 repeat' first
   | (with_reducible exact impl_part.mono _ _ _)
   | (with_reducible exact LeO.refl _)
   | (with_reducible exact LeO.none _)
   | (with_reducible refine LeO.ite ?_ ?_)
   | (with_reducible refine LeO.bind ?_ (fun _ => ?_))
   | exact impl_part.mono _ _ _
   | exact LeO.none _
   | refine LeO.ite ?_ ?_
   | refine LeO.bind ?_ (fun _ => ?_)
set_option maxHeartbeats 8000000 in
set_option maxRecDepth 100000 in
theorem impl_Turn_plus.calls (k : Nat) (a0_0 : Int) (a0_1 : Int) (a1_0 : Int) (a1_1 : Int) (r1 : Int) (r2 : Int) (w : World) (h : impl_Turn_plus.f k a0_0 a0_1 a1_0 a1_1 = some (r1, r2)) :
  Calls Try.prog 30 #[.agg #[.int .i64 a0_0, .int .i64 a0_1], .agg #[.int .i64 a1_0, .int .i64 a1_1]] w fun e w' => e = .returned (.agg #[.int .i64 r1, .int .i64 r2]) ∧ Below w.heap.size w w' := by
 have hu24 := Try.underlying24
 have HB := Am (Below.refl w.heap.size w)
 have H : ((impl_part.f k (wrap64 ((wrap64 (a0_0 * a1_1)) + (wrap64 (a1_0 * a0_1)))) (wrap64 (a0_1 * a1_1))).bind fun bt119 => (some (bt119.1, bt119.2))) = some (r1, r2) := h
 clear h
 replace H := Option.bind_eq_some_iff.mp H
 obtain ⟨⟨t119, t120⟩, A30, H⟩ := H
 try dsimp only at H
 have A3 := Am A30
 clear A30
 focus
  simp only [Option.some.injEq, Prod.mk.injEq] at H
  obtain ⟨rfl, rfl⟩ := H
  go_enter Try.func30, Try.ntmps30
  go_wp2_with (first | ((with_reducible refine gate_dst (N := 2) rfl ?_); refine bE 2 #[.int .i64 a0_0, .int .i64 a0_1] 24 ?_; intro gb116 hg w4 hbox hb; have hv := vK HB hb; have n0_ := Am (bT hv hb); have n1_ := Am (hbox); have GE116 := kG hg hv; clear HB; have HB := n0_; have BK116 := n1_; clear n0_ n1_ hv; clear hb hbox hg) | ((with_reducible refine gate_dst (N := 3) rfl ?_); refine bE 3 #[.int .i64 a1_0, .int .i64 a1_1] 24 ?_; intro gb117 hg w5 hbox hb; have hp0 := pA BK116 hb; have hv := vK HB hb; have n1_ := Am (bT hv hb); have n2_ := Am (hbox); have GE117 := kG hg hv; have hp1 := pK BK116 hb; obtain ⟨NB116_117, NB117_116⟩ := kXY hg hp1 BK116; clear HB; replace BK116 := hp0 BK116; have HB := n1_; have BK117 := n2_; clear n1_ n2_ hp0 hp1 hv; clear hb hbox hg) | ((with_reducible refine gate_dst (N := 4) rfl ?_); refine bE 4 #[.int .i64 0, .int .i64 0] 24 ?_; intro gb118 hg w6 hbox hb; have hp0 := pA BK116 hb; have hv := vK HB hb; have n2_ := Am (bT hv hb); have n3_ := Am (hbox); have GE118 := kG hg hv; have hp1 := pK BK116 hb; obtain ⟨NB116_118, NB118_116⟩ := kXY hg hp1 BK116; obtain ⟨NB117_118, NB118_117⟩ := kXY hg hp1 BK117; clear HB; replace BK116 := hp0 BK116; replace BK117 := hp0 BK117; have HB := n2_; have BK118 := n3_; clear n2_ n3_ hp0 hp1 hv; clear hb hbox hg; have nq7 := kO NB116_117; have nq8 := kO NB116_118; have zq9 := c2 BK116; have nq10 := kO NB117_118; have zq11 := c2 BK117) | ((with_reducible refine gate_callee (f := 33) rfl ?_); refine gL (some 21) Try.func33 #[.int .i64 (wrap64 ((wrap64 (a0_0 * a1_1)) + (wrap64 (a1_0 * a0_1)))), .int .i64 (wrap64 (a0_1 * a1_1))] rfl ?_; (with_reducible refine (impl_part.calls k (wrap64 ((wrap64 (a0_0 * a1_1)) + (wrap64 (a1_0 * a0_1)))) (wrap64 (a0_1 * a1_1)) t119 t120 _ A3.out).mono ?_); rintro e w12 ⟨rfl, hb⟩; refine ⟨_, rfl, ?_⟩; have hp0 := pA BK116 hb; have hv := vK HB hb; have n3_ := Am (bT hv hb); clear HB; replace BK116 := hp0 BK116; replace BK117 := hp0 BK117; replace BK118 := hp0 BK118; have HB := n3_; clear n3_ hp0 hv; (try clear hb); have zq13 := c2 BK118))
  refine bodyPost_ret (results_cell_row rfl _ _ gb118 24 #[.int .i64 t119, .int .i64 t120] (0, 0) _ rfl (by (with_reducible repeat (first | refine kN ?_ _ | refine kD ?_ | refine kA ?_ _)); refine kP (cs := #[.int .i64 t119, .int .i64 0]) ?_ 1 _ rfl; (with_reducible repeat (first | refine kN ?_ _ | refine kD ?_ | refine kA ?_ _)); refine kP (cs := #[.int .i64 0, .int .i64 0]) ?_ 0 _ rfl; (with_reducible repeat (first | refine kN ?_ _ | refine kD ?_ | refine kA ?_ _)); exact BK118.out) Try.underlying24 rfl (by kernel_rfl)) rfl ?_
  exact ⟨by first | rfl | (simp [errW_none, errW_some] <;> rfl) | (simp [*, errW_none, errW_some] <;> rfl), by repeat (first | (with_reducible first | exact HB.out | apply bA | apply bN | apply bD | refine bX ?_ (by assumption)) | exact HB.out)⟩
/-! ### impl_Turn_times: function 35 -/
def impl_Turn_times.f (k : Nat) (a0_0 : Int) (a0_1 : Int) (a1 : Int) : Option (Int × Int) := (impl_part.f k (wrap64 (a0_0 * a1)) a0_1).bind fun bt123 => (some (bt123.1, bt123.2))
theorem impl_Turn_times.mono : ∀ a0 a1 a2 k, LeO (impl_Turn_times.f k a0 a1 a2) (impl_Turn_times.f (k + 1) a0 a1 a2) := by
 intro a0 a1 a2 k
 unfold impl_Turn_times.f
 repeat' first
   | (with_reducible exact impl_part.mono _ _ _)
   | (with_reducible exact LeO.refl _)
   | (with_reducible exact LeO.none _)
   | (with_reducible refine LeO.ite ?_ ?_)
   | (with_reducible refine LeO.bind ?_ (fun _ => ?_))
   | exact impl_part.mono _ _ _
   | exact LeO.none _
   | refine LeO.ite ?_ ?_
   | refine LeO.bind ?_ (fun _ => ?_)
set_option maxHeartbeats 8000000 in
set_option maxRecDepth 100000 in
theorem impl_Turn_times.calls (k : Nat) (a0_0 : Int) (a0_1 : Int) (a1 : Int) (r1 : Int) (r2 : Int) (w : World) (h : impl_Turn_times.f k a0_0 a0_1 a1 = some (r1, r2)) :
  Calls Try.prog 35 #[.agg #[.int .i64 a0_0, .int .i64 a0_1], .int .i64 a1] w fun e w' => e = .returned (.agg #[.int .i64 r1, .int .i64 r2]) ∧ Below w.heap.size w w' := by
 have hu24 := Try.underlying24
 have HB := Am (Below.refl w.heap.size w)
 have H : ((impl_part.f k (wrap64 (a0_0 * a1)) a0_1).bind fun bt123 => (some (bt123.1, bt123.2))) = some (r1, r2) := h
 clear h
 replace H := Option.bind_eq_some_iff.mp H
 obtain ⟨⟨t123, t124⟩, A30, H⟩ := H
 try dsimp only at H
 have A3 := Am A30
 clear A30
 focus
  simp only [Option.some.injEq, Prod.mk.injEq] at H
  obtain ⟨rfl, rfl⟩ := H
  go_enter Try.func35, Try.ntmps35
  go_wp2_with (first | ((with_reducible refine gate_dst (N := 2) rfl ?_); refine bE 2 #[.int .i64 a0_0, .int .i64 a0_1] 24 ?_; intro gb121 hg w4 hbox hb; have hv := vK HB hb; have n0_ := Am (bT hv hb); have n1_ := Am (hbox); have GE121 := kG hg hv; clear HB; have HB := n0_; have BK121 := n1_; clear n0_ n1_ hv; clear hb hbox hg) | ((with_reducible refine gate_dst (N := 4) rfl ?_); refine bE 4 #[.int .i64 0, .int .i64 0] 24 ?_; intro gb122 hg w5 hbox hb; have hp0 := pA BK121 hb; have hv := vK HB hb; have n1_ := Am (bT hv hb); have n2_ := Am (hbox); have GE122 := kG hg hv; have hp1 := pK BK121 hb; obtain ⟨NB121_122, NB122_121⟩ := kXY hg hp1 BK121; clear HB; replace BK121 := hp0 BK121; have HB := n1_; have BK122 := n2_; clear n1_ n2_ hp0 hp1 hv; clear hb hbox hg; have nq6 := kO NB121_122; have zq7 := c2 BK121) | ((with_reducible refine gate_callee (f := 33) rfl ?_); refine gL (some 11) Try.func33 #[.int .i64 (wrap64 (a0_0 * a1)), .int .i64 a0_1] rfl ?_; (with_reducible refine (impl_part.calls k (wrap64 (a0_0 * a1)) a0_1 t123 t124 _ A3.out).mono ?_); rintro e w8 ⟨rfl, hb⟩; refine ⟨_, rfl, ?_⟩; have hp0 := pA BK121 hb; have hv := vK HB hb; have n2_ := Am (bT hv hb); clear HB; replace BK121 := hp0 BK121; replace BK122 := hp0 BK122; have HB := n2_; clear n2_ hp0 hv; (try clear hb); have zq9 := c2 BK122))
  refine bodyPost_ret (results_cell_row rfl _ _ gb122 24 #[.int .i64 t123, .int .i64 t124] (0, 0) _ rfl (by (with_reducible repeat (first | refine kN ?_ _ | refine kD ?_ | refine kA ?_ _)); refine kP (cs := #[.int .i64 t123, .int .i64 0]) ?_ 1 _ rfl; (with_reducible repeat (first | refine kN ?_ _ | refine kD ?_ | refine kA ?_ _)); refine kP (cs := #[.int .i64 0, .int .i64 0]) ?_ 0 _ rfl; (with_reducible repeat (first | refine kN ?_ _ | refine kD ?_ | refine kA ?_ _)); exact BK122.out) Try.underlying24 rfl (by kernel_rfl)) rfl ?_
  exact ⟨by first | rfl | (simp [errW_none, errW_some] <;> rfl) | (simp [*, errW_none, errW_some] <;> rfl), by repeat (first | (with_reducible first | exact HB.out | apply bA | apply bN | apply bD | refine bX ?_ (by assumption)) | exact HB.out)⟩
/-! ### impl_Hand_at: function 22 -/
def impl_Hand_at.f (k : Nat) (a0_0 : Int) (a0_1 : Int) (a0_2 : Int) (a1_0 : Int) (a1_1 : Int) : Option (Int × Int) := (impl_Turn_times.f k a1_0 a1_1 a0_2).bind fun bt128 => ((impl_Turn_plus.f k a0_0 a0_1 bt128.1 bt128.2).bind fun bt130 => (some (bt130.1, bt130.2)))
theorem impl_Hand_at.mono : ∀ a0 a1 a2 a3 a4 k, LeO (impl_Hand_at.f k a0 a1 a2 a3 a4) (impl_Hand_at.f (k + 1) a0 a1 a2 a3 a4) := by
 intro a0 a1 a2 a3 a4 k
 unfold impl_Hand_at.f
 repeat' first
   | (with_reducible exact impl_Turn_plus.mono _ _ _ _ _)
   | (with_reducible exact impl_Turn_times.mono _ _ _ _)
   | (with_reducible exact LeO.refl _)
   | (with_reducible exact LeO.none _)
   | (with_reducible refine LeO.ite ?_ ?_)
   | (with_reducible refine LeO.bind ?_ (fun _ => ?_))
   | exact impl_Turn_plus.mono _ _ _ _ _
   | exact impl_Turn_times.mono _ _ _ _
   | exact LeO.none _
   | refine LeO.ite ?_ ?_
   | refine LeO.bind ?_ (fun _ => ?_)
def impl_Hand_at.T1 : Bool × List (List Nat × List Nat) := (true, [([], []), ([0], [0]), ([], []), ([], []), ([3], [3]), ([2, 4], [2, 4]), ([1, 5, 5], [1, 5]), ([6, 6, 0, 1, 2, 3, 4, 5, 6], [6])])
def impl_Hand_at.B1 : List Nat := [0, 1, 0, 0, 8, 28, 63, 127]
theorem impl_Hand_at.tab1 : rtab .any (opsOf Try.f22 1) = impl_Hand_at.T1 := by kernel_rfl
theorem impl_Hand_at.bits1 : waitsOk impl_Hand_at.T1.2 impl_Hand_at.B1 = true := by kernel_rfl
set_option maxHeartbeats 8000000 in
set_option maxRecDepth 100000 in
theorem impl_Hand_at.calls (k : Nat) (a0_0 : Int) (a0_1 : Int) (a0_2 : Int) (a1_0 : Int) (a1_1 : Int) (r1 : Int) (r2 : Int) (w : World) (h : impl_Hand_at.f k a0_0 a0_1 a0_2 a1_0 a1_1 = some (r1, r2)) :
  Calls Try.prog 22 #[.agg #[.int .i64 a0_0, .int .i64 a0_1, .int .i64 a0_2], .agg #[.int .i64 a1_0, .int .i64 a1_1]] w fun e w' => e = .returned (.agg #[.int .i64 r1, .int .i64 r2]) ∧ Below w.heap.size w w' := by
 have hu26 := Try.underlying26; have hu24 := Try.underlying24
 have HB := Am (Below.refl w.heap.size w)
 have H : ((impl_Turn_times.f k a1_0 a1_1 a0_2).bind fun bt128 => ((impl_Turn_plus.f k a0_0 a0_1 bt128.1 bt128.2).bind fun bt130 => (some (bt130.1, bt130.2)))) = some (r1, r2) := h
 clear h
 replace H := Option.bind_eq_some_iff.mp H
 obtain ⟨⟨t128, t129⟩, A30, H⟩ := H
 try dsimp only at H
 have A3 := Am A30
 clear A30
 replace H := Option.bind_eq_some_iff.mp H
 obtain ⟨⟨t130, t131⟩, A40, H⟩ := H
 try dsimp only at H
 have A4 := Am A40
 clear A40
 focus
  simp only [Option.some.injEq, Prod.mk.injEq] at H
  obtain ⟨rfl, rfl⟩ := H
  go_enter Try.func22, Try.ntmps22
  try go_wp2_with (first | ((with_reducible refine gate_dst (N := 2) rfl ?_); refine bE 2 #[.int .i64 a0_0, .int .i64 a0_1, .int .i64 a0_2] 26 ?_; intro gb125 hg w5 hbox hb; have hv := vK HB hb; have n0_ := Am (bT hv hb); have n1_ := Am (hbox); have GE125 := kG hg hv; clear HB; have HB := n0_; have BK125 := n1_; clear n0_ n1_ hv; clear hb hbox hg) | ((with_reducible refine gate_dst (N := 3) rfl ?_); refine bE 3 #[.int .i64 a1_0, .int .i64 a1_1] 24 ?_; intro gb126 hg w6 hbox hb; have hp0 := pA BK125 hb; have hv := vK HB hb; have n1_ := Am (bT hv hb); have n2_ := Am (hbox); have GE126 := kG hg hv; have hp1 := pK BK125 hb; obtain ⟨NB125_126, NB126_125⟩ := kXY hg hp1 BK125; clear HB; replace BK125 := hp0 BK125; have HB := n1_; have BK126 := n2_; clear n1_ n2_ hp0 hp1 hv; clear hb hbox hg) | ((with_reducible refine gate_dst (N := 4) rfl ?_); refine bE 4 #[.int .i64 0, .int .i64 0] 24 ?_; intro gb127 hg w7 hbox hb; have hp0 := pA BK125 hb; have hv := vK HB hb; have n2_ := Am (bT hv hb); have n3_ := Am (hbox); have GE127 := kG hg hv; have hp1 := pK BK125 hb; obtain ⟨NB125_127, NB127_125⟩ := kXY hg hp1 BK125; obtain ⟨NB126_127, NB127_126⟩ := kXY hg hp1 BK126; clear HB; replace BK125 := hp0 BK125; replace BK126 := hp0 BK126; have HB := n2_; have BK127 := n3_; clear n2_ n3_ hp0 hp1 hv; clear hb hbox hg))
  have n0_ := Am (kD BK125.out)
  have n1_ := Am (kD BK126.out)
  have n2_ := Am (kD BK127.out)
  have n3_ := Am (bD HB.out)
  clear BK125 BK126 BK127 HB
  have BK125 := n0_; have BK126 := n1_; have BK127 := n2_; have HB := n3_
  clear n0_ n1_ n2_ n3_
  refine start_ (n := 8) (S := fun w' => w'.cell? ⟨gb125, 0, none⟩ = some (.int .i64 a0_0) ∧ w'.cell? ⟨gb125, 1, none⟩ = some (.int .i64 a0_1) ∧ w'.cell? ⟨gb125, 2, none⟩ = some (.int .i64 a0_2) ∧ w'.cell? ⟨gb126, 0, none⟩ = some (.int .i64 a1_0) ∧ w'.cell? ⟨gb126, 1, none⟩ = some (.int .i64 a1_1)) (ds := []) (pT 8 0) (by kernel_rfl) rfl rfl ⟨c30 BK125.out, c31 BK125.out, c32 BK125.out, c20 BK126.out, c21 BK126.out⟩ (fun hHeld => ?_); refine with_tabW impl_Hand_at.tab1 impl_Hand_at.bits1 (fun HT_ HW_ => ?_)
  generalize w7.drew = w8 at BK125 BK126 BK127 HB hHeld ⊢
  refine pI (v := ?_) (a' := ?_) rfl (any_of HT_.out (by kernel_rfl)) (fun _ _ _ h => h) (Or.inl ⟨by rfl, ?_⟩) ?_ ?_
  rotate_left
  ·intro w'
   go_simp
   with_reducible rfl
  rotate_left
  ·show Act.put _ (some _) _ = _
   simp only [Act.put, List.setIfInBounds_toArray, List.set_cons_zero, List.set_cons_succ, i64_w, i32_w]
   rfl
  refine pure_ (i := 3) (N := some 8) (v := ?_) (a' := ?_) #[true, false, false, true, false, false, false, false] rfl rfl (any_of HT_.out (by kernel_rfl)) (fun _ _ _ h => h) (Or.inl ⟨by rfl, ?_⟩) ?_ ?_
  rotate_left
  ·intro w'
   go_simp
   with_reducible rfl
  rotate_left
  ·simp only [Act.put, List.setIfInBounds_toArray, List.set_cons_zero, List.set_cons_succ, i64_w, i32_w]
   rfl
  refine take_ (i := 1) (N := some 6) (v := ?_) (a' := ?_) #[true, true, false, true, false, false, false, false] rfl rfl (take_ofW HT_.out HW_.out (by kernel_rfl)) (fun _ _ _ h => h) (Or.inl ⟨by rfl, ?_⟩) hHeld ?_ ?_
  rotate_left
  ·rintro w' ⟨s0, s1, s2, s3, s4⟩
   go_simp
   with_reducible rfl
  rotate_left
  ·simp only [Act.put, List.setIfInBounds_toArray, List.set_cons_zero, List.set_cons_succ, i64_w, i32_w]
   rfl
  refine take_ (i := 2) (N := some 7) (v := ?_) (a' := ?_) (pT 8 4) rfl rfl (take_ofW HT_.out HW_.out (by kernel_rfl)) (fun _ _ _ h => h) (Or.inl ⟨by rfl, ?_⟩) hHeld ?_ ?_
  rotate_left
  ·rintro w' ⟨s0, s1, s2, s3, s4⟩
   go_simp
   with_reducible rfl
  rotate_left
  ·simp only [Act.put, List.setIfInBounds_toArray, List.set_cons_zero, List.set_cons_succ, i64_w, i32_w]
   rfl
  refine tI (v := ?_) (a' := ?_) rfl (take_ofW HT_.out HW_.out (by kernel_rfl)) (fun _ _ _ h => h) (Or.inl ⟨by rfl, ?_⟩) hHeld ?_ ?_
  rotate_left
  ·rintro w' ⟨s0, s1, s2, s3, s4⟩
   go_simp
   with_reducible rfl
  rotate_left
  ·show Act.put _ (some _) _ = _
   simp only [Act.put, List.setIfInBounds_toArray, List.set_cons_zero, List.set_cons_succ, i64_w, i32_w]
   rfl
  refine one_ (i := 5) (N := some 10) (pT 8 6) rfl rfl (one_of HT_.out (by kernel_rfl)) (by decide) (fun K hK => ?_)
  refine goes_ Try.func35 (by kernel_rfl) rfl #[.agg #[.int .i64 a1_0, .int .i64 a1_1], .int .i64 a0_2] (by rfl) rfl rfl (by (try simp only [List.map_toArray, List.map_cons, List.map_nil]); first | done | rfl | (simp only [List.length_drop, List.length_take]; rfl)) ?_
  with_reducible refine (impl_Turn_times.calls k a1_0 a1_1 a0_2 t128 t129 _ A3.out).mono ?_
  rintro e w9 ⟨rfl, hb⟩
  refine ⟨_, rfl, ?_⟩
  have hp0 := pA BK125 hb
  have hv := vK HB hb
  have n3_ := Am (bT hv hb)
  clear HB
  replace BK125 := hp0 BK125; replace BK126 := hp0 BK126; replace BK127 := hp0 BK127
  have HB := n3_
  clear n3_ hp0 hv
  (try clear hb)
  refine hK.out _ _ ⟨c30 BK125.out, c31 BK125.out, c32 BK125.out, c20 BK126.out, c21 BK126.out⟩ (fun hHeld => ?_)
  clear hK K
  refine norm_ (a' := ?_) ?_ ?_
  rotate_left
  ·show Act.put _ (some 10) _ = _
   simp only [Act.put, List.setIfInBounds_toArray, List.set_cons_zero, List.set_cons_succ, i64_w, i32_w]
   rfl
  refine one_ (i := 6) (N := some 11) (pT 8 7) rfl rfl (one_of HT_.out (by kernel_rfl)) (by decide) (fun K hK => ?_)
  refine goes_ Try.func30 (by kernel_rfl) rfl #[.agg #[.int .i64 a0_0, .int .i64 a0_1], .agg #[.int .i64 t128, .int .i64 t129]] (by rfl) rfl rfl (by (try simp only [List.map_toArray, List.map_cons, List.map_nil]); first | done | rfl | (simp only [List.length_drop, List.length_take]; rfl)) ?_
  with_reducible refine (impl_Turn_plus.calls k a0_0 a0_1 t128 t129 t130 t131 _ A4.out).mono ?_
  rintro e w10 ⟨rfl, hb⟩
  refine ⟨_, rfl, ?_⟩
  have hp0 := pA BK125 hb
  have hv := vK HB hb
  have n3_ := Am (bT hv hb)
  clear HB
  replace BK125 := hp0 BK125; replace BK126 := hp0 BK126; replace BK127 := hp0 BK127
  have HB := n3_
  clear n3_ hp0 hv
  (try clear hb)
  refine hK.out _ _ ⟨c30 BK125.out, c31 BK125.out, c32 BK125.out, c20 BK126.out, c21 BK126.out⟩ (fun hHeld => ?_)
  clear hK K
  refine norm_ (a' := ?_) ?_ ?_
  rotate_left
  ·show Act.put _ (some 11) _ = _
   simp only [Act.put, List.setIfInBounds_toArray, List.set_cons_zero, List.set_cons_succ, i64_w, i32_w]
   rfl
  refine one_ (i := 7) (N := none) (pT 8 8) rfl rfl (one_of HT_.out (by kernel_rfl)) (by decide) (fun K hK => ?_)
  have hs11 : w10.cell? ⟨gb127, 0, none⟩ = some (.int .i64 0) := c20 BK127.out
  have hfs11 := kF BK127.out 0
  have hns11_0 := NB125_127.out; have hns11_1 := NB126_127.out; have hms11_0 := NB127_125.out; have hms11_1 := NB127_126.out
  have hs12 : w10.cell? ⟨gb127, 1, none⟩ = some (.int .i64 0) := c21 BK127.out
  have hfs12 := kF BK127.out 1
  have hns12_0 := NB125_127.out; have hns12_1 := NB126_127.out; have hms12_0 := NB127_125.out; have hms12_1 := NB127_126.out
  refine skip_ (w1 := ?_) (by rfl) rfl ?_ ?_
  rotate_left
  ·go_simp
   rfl
  refine hK.out _ _ ⟨((cell_far (p := ⟨gb127, _, none⟩) NB125_127.out _).trans (((cell_far (p := ⟨gb127, _, none⟩) NB125_127.out _).trans (hHeld.1)))), ((cell_far (p := ⟨gb127, _, none⟩) NB125_127.out _).trans (((cell_far (p := ⟨gb127, _, none⟩) NB125_127.out _).trans (hHeld.2.1)))), ((cell_far (p := ⟨gb127, _, none⟩) NB125_127.out _).trans (((cell_far (p := ⟨gb127, _, none⟩) NB125_127.out _).trans (hHeld.2.2.1)))), ((cell_far (p := ⟨gb127, _, none⟩) NB126_127.out _).trans (((cell_far (p := ⟨gb127, _, none⟩) NB126_127.out _).trans (hHeld.2.2.2.1)))), ((cell_far (p := ⟨gb127, _, none⟩) NB126_127.out _).trans (((cell_far (p := ⟨gb127, _, none⟩) NB126_127.out _).trans (hHeld.2.2.2.2))))⟩ (fun hHeld => ?_)
  clear hK K
  refine done_ (done_of HT_.out (by kernel_rfl)) ?_
  try go_wp2
  refine bodyPost_ret (results_cell_row rfl _ _ gb127 24 #[.int .i64 t130, .int .i64 t131] (0, 0) _ rfl (by (with_reducible repeat (first | refine kN ?_ _ | refine kD ?_ | refine kA ?_ _)); refine kP (cs := #[.int .i64 t130, .int .i64 0]) ?_ 1 _ rfl; (with_reducible repeat (first | refine kN ?_ _ | refine kD ?_ | refine kA ?_ _)); refine kP (cs := #[.int .i64 0, .int .i64 0]) ?_ 0 _ rfl; (with_reducible repeat (first | refine kN ?_ _ | refine kD ?_ | refine kA ?_ _)); exact BK127.out) Try.underlying24 rfl (by kernel_rfl)) rfl ?_
  exact ⟨by first | rfl | (simp [errW_none, errW_some] <;> rfl) | (simp [*, errW_none, errW_some] <;> rfl), by repeat (first | (with_reducible first | exact HB.out | apply bA | apply bN | apply bD | refine bX ?_ (by assumption)) | exact HB.out)⟩
-- NOT PRINTED: function 53 (impl_Turn_53)

-- NOT PRINTED: function 41 (impl_Turn_41)

/-! ### impl_areTurns_1: function 42 -/
def impl_areTurns_1.f (k : Nat) (a0_0 : Int) (a0_1 : Int) : Option (Bool) := (impl_IsTurn.f k a0_0 a0_1).bind fun t133 => (some (!t133))
theorem impl_areTurns_1.mono : ∀ a0 a1 k, LeO (impl_areTurns_1.f k a0 a1) (impl_areTurns_1.f (k + 1) a0 a1) := by
 intro a0 a1 k
 unfold impl_areTurns_1.f
 repeat' first
   | (with_reducible exact impl_IsTurn.mono _ _ _)
   | (with_reducible exact LeO.refl _)
   | (with_reducible exact LeO.none _)
   | (with_reducible refine LeO.ite ?_ ?_)
   | (with_reducible refine LeO.bind ?_ (fun _ => ?_))
   | exact impl_IsTurn.mono _ _ _
   | exact LeO.none _
   | refine LeO.ite ?_ ?_
   | refine LeO.bind ?_ (fun _ => ?_)
set_option maxHeartbeats 8000000 in
set_option maxRecDepth 100000 in
theorem impl_areTurns_1.calls (k : Nat) (a0_0 : Int) (a0_1 : Int) (r : Bool) (w : World) (h : impl_areTurns_1.f k a0_0 a0_1 = some r) :
  Calls Try.prog 42 #[.agg #[.int .i64 a0_0, .int .i64 a0_1]] w fun e w' => e = .returned (.bool r) ∧ Below w.heap.size w w' := by
 have hu24 := Try.underlying24
 have HB := Am (Below.refl w.heap.size w)
 have H : ((impl_IsTurn.f k a0_0 a0_1).bind fun t133 => (some (!t133))) = some r := h
 clear h
 replace H := Option.bind_eq_some_iff.mp H
 obtain ⟨t133, A20, H⟩ := H
 try dsimp only at H
 have A2 := Am A20
 clear A20
 focus
  obtain rfl := Option.some.inj H
  go_enter Try.func42, Try.ntmps42
  go_wp2_with (first | ((with_reducible refine gate_dst (N := 1) rfl ?_); refine bE 1 #[.int .i64 a0_0, .int .i64 a0_1] 24 ?_; intro gb132 hg w3 hbox hb; have hv := vK HB hb; have n0_ := Am (bT hv hb); have n1_ := Am (hbox); have GE132 := kG hg hv; clear HB; have HB := n0_; have BK132 := n1_; clear n0_ n1_ hv; clear hb hbox hg; have zq4 := c2 BK132) | ((with_reducible refine gate_callee (f := 21) rfl ?_); refine gL (some 4) Try.func21 #[.agg #[.int .i64 a0_0, .int .i64 a0_1]] rfl ?_; (with_reducible refine (impl_IsTurn.calls k a0_0 a0_1 t133 _ A2.out).mono ?_); rintro e w5 ⟨rfl, hb⟩; refine ⟨_, rfl, ?_⟩; have hp0 := pA BK132 hb; have hv := vK HB hb; have n1_ := Am (bT hv hb); clear HB; replace BK132 := hp0 BK132; have HB := n1_; clear n1_ hp0 hv; (try clear hb)))
  go_ret
  exact ⟨by first | rfl | (simp [errW_none, errW_some] <;> rfl) | (simp [*, errW_none, errW_some] <;> rfl), by repeat (first | (with_reducible first | exact HB.out | apply bA | apply bN | apply bD | refine bX ?_ (by assumption)) | exact HB.out)⟩
end Go.Proofs.Ytnffmifjleebpaa.PFnHandsSpreadOfAll
