-- WRITTEN BY A PROGRAM OF THIS SESSION (wip/tools): its own text, not the kit's printed one.
import Derived.Test.YtbgklddlcmgakaaPFnHandsMeetOfAllx0
import Derived.Test.YtbgklddlcmgakaaPFnHandsMeetOfAllx1
import Derived.Test.YtbgklddlcmgakaaPFnHandsMeetOfAllx2
import Derived.Test.YtbgklddlcmgakaaPFnHandsMeetOfAllx5
import Derived.Test.YtbgklddlcmgakaaPFnHandsMeetOfAllx6
import Derived.Test.YtbgklddlcmgakaaPFnHandsMeetOfAllx8
namespace Go.Proofs.Ytbgklddlcmgakaa.PFnHandsMeetOfAll
open Go.RowKit Go.Proofs.YtbgklddlcmgakaaW.PrintWords Go.Proofs.YtbgklddlcmgakaaW.PrintLast Go.Proofs.YtbgklddlcmgakaaW.PrintMore
attribute [local go_sem] max2_int min2_int max_two min_two max_three min_three max_four min_four   -- for this text's walks alone
set_option linter.unusedVariables false
set_option linter.unusedSimpArgs false

attribute [local go_sem high] eqA23
/-! ### laws_kIn: function 18 -/
def laws_kIn.l0 : Nat → List (S23) → Int → Int → Int → Int → Option (Bool)
 | 0, _, _, _, _, _ => none
 | k + 1, x7, x8, x9, x440000, x440001 => if x9 < x8 then (if 0 ≤ x9 then (if x9 < (x7.length : Int) then (if (((rd_T23 x7 x9).f0) == x440000 && (((rd_T23 x7 x9).f1) == x440001)) = true then (some true) else (laws_kIn.l0 k x7 x8 (wrap64 (x9 + 1)) x440000 x440001)) else (none)) else (none)) else (some false)
def laws_kIn.f (k : Nat) (l0 : List (S23)) (a1_0 : Int) (a1_1 : Int) : Option (Bool) := laws_kIn.l0 k l0 (l0.length : Int) 0 a1_0 a1_1
theorem laws_kIn.mono_l : ∀ k, (∀ y0 y1 y2 y3 y4, LeO (laws_kIn.l0 k y0 y1 y2 y3 y4) (laws_kIn.l0 (k + 1) y0 y1 y2 y3 y4))
 | 0 => fun _ _ _ _ _ r h => by simp [laws_kIn.l0] at h
 | k + 1 => by
  have ih0 := laws_kIn.mono_l k
  ·intro y0 y1 y2 y3 y4
   unfold laws_kIn.l0
   repeat' first
   | (with_reducible apply ih0)
   | (with_reducible exact LeO.refl _)
   | (with_reducible exact LeO.none _)
   | (with_reducible refine LeO.ite ?_ ?_)
   | (with_reducible refine LeO.bind ?_ (fun _ => ?_))
   | apply ih0
   | exact LeO.none _
   | refine LeO.ite ?_ ?_
   | refine LeO.bind ?_ (fun _ => ?_)
theorem laws_kIn.mono : ∀ a0 a1 a2 k, LeO (laws_kIn.f k a0 a1 a2) (laws_kIn.f (k + 1) a0 a1 a2) := by
 intro a0 a1 a2 k
 have ih0 := laws_kIn.mono_l k
 unfold laws_kIn.f
 repeat' first
   | (with_reducible apply ih0)
   | (with_reducible exact LeO.refl _)
   | (with_reducible exact LeO.none _)
   | (with_reducible refine LeO.ite ?_ ?_)
   | (with_reducible refine LeO.bind ?_ (fun _ => ?_))
   | apply ih0
   | exact LeO.none _
   | refine LeO.ite ?_ ?_
   | refine LeO.bind ?_ (fun _ => ?_)
set_option maxHeartbeats 8000000 in
set_option maxRecDepth 100000 in
theorem laws_kIn.calls (k : Nat) (A0 : Option Addr) (c0 : Nat) (l0 : List (S23)) (a1_0 : Int) (a1_1 : Int) (r : Bool) (w : World) (hr0 : Kd.C k23 w A0 l0.length l0) (hc0 : l0.length ≤ c0) (h : laws_kIn.f k l0 a1_0 a1_1 = some r) :
  Calls Try.prog 18 #[.slice A0 l0.length c0, .agg #[.int .i64 a1_0, .int .i64 a1_1]] w fun e w' => e = .returned (.bool r) ∧ Below w.heap.size w w' := by
 have hu23 := Try.underlying23
 have HR0 := Am hr0
 have HC0 := Am hc0
 clear hr0 hc0
 have HB := Am (Below.refl w.heap.size w)
 have H : (laws_kIn.l0 k l0 (l0.length : Int) 0 a1_0 a1_1) = some r := h
 clear h
 have H' := Am H
 clear H
 go_enter Try.func18, Try.ntmps18
 go_wp2_with (first | ((with_reducible refine gate_dst (N := 3) rfl ?_); refine bE 3 #[.int .i64 a1_0, .int .i64 a1_1] 23 ?_; intro gb439 hg w3 hbox hb; have hv := vK HB hb; have n0_ := Am (bT hv hb); have n1_ := Am (hbox); have GE439 := kG hg hv; clear HB; have HB := n0_; have BK439 := n1_; clear n0_ n1_ hv; clear hb hbox hg))
 go_loopg [9] k (fun kq v9 w' => ∃ (x9_1 : Int), v9 = .int .i64 x9_1 ∧ Aside0 (laws_kIn.l0 kq l0 (l0.length : Int) x9_1 a1_0 a1_1 = some r) ∧ Aside0 (kq ≤ k) ∧ Aside0 (w'.heap[gb439]? = some (.cells #[.int .i64 a1_0, .int .i64 a1_1] 23 (0, 0))) ∧ Aside0 (Below w.heap.size w w'))
 case atStart => exact ⟨(0), (by first | rfl | (simp; done) | (simp [*]; done)), H', ⟨Nat.le_refl _⟩, kV BK439, ⟨by repeat (first | (with_reducible first | exact HB.out | apply bA | apply bN | apply bD | refine bX ?_ (by assumption)) | exact HB.out)⟩⟩
 case round =>
  clear H'
  obtain ⟨x9_1, rfl, HA, HK1, BK439, HB⟩ := hrel
  cases gk with
  | zero => exact absurd HA.out (by simp [laws_kIn.l0])
  | succ k1 =>
   have H := HA.out
   clear HA
   simp only [laws_kIn.l0] at H
   by_cases c4 : x9_1 < (l0.length : Int)
   ·rw [if_pos c4] at H
    have c4b0 : decide (x9_1 < (l0.length : Int)) = true := decide_eq_true c4
    clear c4
    by_cases c5 : 0 ≤ x9_1
    ·rw [if_pos c5] at H
     have c5b0 : decide (0 ≤ x9_1) = true := decide_eq_true c5
     clear c5
     by_cases c6 : x9_1 < (l0.length : Int)
     ·rw [if_pos c6] at H
      have c6b0 : decide (x9_1 < (l0.length : Int)) = true := decide_eq_true c6
      clear c6
      by_cases c7 : (((rd_T23 l0 x9_1).f0) == a1_0 && (((rd_T23 l0 x9_1).f1) == a1_1)) = true
      ·rw [if_pos c7] at H
       have c7b0 : (((rd_T23 l0 x9_1).f0) == a1_0 && (((rd_T23 l0 x9_1).f1) == a1_1)) = true := c7
       (try (have c7b1 : decide (((rd_T23 l0 x9_1).f0) = a1_0 && (((rd_T23 l0 x9_1).f1) == a1_1)) = true := by simpa using c7))
       (try (have c7b2 : (((rd_T23 l0 x9_1).f0) == a1_0 && (((rd_T23 l0 x9_1).f1) == a1_1)) = true := by simpa using c7))
       clear c7
       focus
        obtain rfl := Option.some.inj H
        have p440 : 0 ≤ (x9_1 : Int) := of_decide_eq_true (by first | (with_reducible assumption) | assumption)
        have q440 : x9_1 < (l0.length : Int) := of_decide_eq_true (by first | (with_reducible assumption) | assumption)
        obtain ⟨ad440, e440, hx440_0, hx440_1⟩ := at_T23 HR0.out x9_1 p440 q440
        cases e440
        replace hx440_0 := (HB.out.cell (World.block_lt_of_cell? w _ hx440_0)).trans hx440_0
        replace hx440_1 := (HB.out.cell (World.block_lt_of_cell? w _ hx440_1)).trans hx440_1
        replace p440 := eq_true p440
        replace q440 := eq_true q440
        go_wp2_with (first | ((with_reducible refine gate_dst (N := 6) rfl ?_); refine bE 6 #[.int .i64 0, .int .i64 0] 23 ?_; intro gb441 hg w8 hbox hb; have hp0 := pA BK439 hb; have hv := vK HB hb; have n1_ := Am (bT hv hb); have n2_ := Am (hbox); have GE441 := kG hg hv; have hp1 := pK BK439 hb; obtain ⟨NB439_441, NB441_439⟩ := kXY hg hp1 BK439; clear HB; replace BK439 := hp0 BK439; have HB := n1_; have BK441 := n2_; clear n1_ n2_ hp0 hp1 hv; clear hb hbox hg; have nq9 := kO NB441_439; have hcz10_0 : w8.cell? ⟨gb441, 0, none⟩ = some (.int .i64 0) := (kC BK441.out 0).trans rfl; have hcz10_1 : w8.cell? ⟨gb441, 1, none⟩ = some (.int .i64 0) := (kC BK441.out 1).trans rfl; have hfz10_0 := kF BK441.out 0; have hfz10_1 := kF BK441.out 1; have zq11 := c2 BK439))
        go_ret
        exact ⟨by first | rfl | (simp [errW_none, errW_some] <;> rfl) | (simp [*, errW_none, errW_some] <;> rfl), by repeat (first | (with_reducible first | exact HB.out | apply bA | apply bN | apply bD | refine bX ?_ (by assumption)) | exact HB.out)⟩
      rw [if_neg c7] at H
      have c7b0 : (((rd_T23 l0 x9_1).f0) == a1_0 && (((rd_T23 l0 x9_1).f1) == a1_1)) = false := by simpa using c7
      (try (have c7b1 : decide (((rd_T23 l0 x9_1).f0) = a1_0 && (((rd_T23 l0 x9_1).f1) == a1_1)) = false := by simpa using c7))
      (try (have c7b2 : (((rd_T23 l0 x9_1).f0) == a1_0 && (((rd_T23 l0 x9_1).f1) == a1_1)) = false := by simpa using c7))
      (try (have c7b3 : ¬ (((rd_T23 l0 x9_1).f0) = a1_0 && (((rd_T23 l0 x9_1).f1) == a1_1)) := by simpa using c7))
      clear c7
      focus
       have H' := Am H
       clear H
       have p440 : 0 ≤ (x9_1 : Int) := of_decide_eq_true (by first | (with_reducible assumption) | assumption)
       have q440 : x9_1 < (l0.length : Int) := of_decide_eq_true (by first | (with_reducible assumption) | assumption)
       obtain ⟨ad440, e440, hx440_0, hx440_1⟩ := at_T23 HR0.out x9_1 p440 q440
       cases e440
       replace hx440_0 := (HB.out.cell (World.block_lt_of_cell? w _ hx440_0)).trans hx440_0
       replace hx440_1 := (HB.out.cell (World.block_lt_of_cell? w _ hx440_1)).trans hx440_1
       replace p440 := eq_true p440
       replace q440 := eq_true q440
       go_wp2_with (first | ((with_reducible refine gate_dst (N := 6) rfl ?_); refine bE 6 #[.int .i64 0, .int .i64 0] 23 ?_; intro gb441 hg w12 hbox hb; have hp0 := pA BK439 hb; have hv := vK HB hb; have n1_ := Am (bT hv hb); have n2_ := Am (hbox); have GE441 := kG hg hv; have hp1 := pK BK439 hb; obtain ⟨NB439_441, NB441_439⟩ := kXY hg hp1 BK439; clear HB; replace BK439 := hp0 BK439; have HB := n1_; have BK441 := n2_; clear n1_ n2_ hp0 hp1 hv; clear hb hbox hg; have nq13 := kO NB441_439; have hcz14_0 : w12.cell? ⟨gb441, 0, none⟩ = some (.int .i64 0) := (kC BK441.out 0).trans rfl; have hcz14_1 : w12.cell? ⟨gb441, 1, none⟩ = some (.int .i64 0) := (kC BK441.out 1).trans rfl; have hfz14_0 := kF BK441.out 0; have hfz14_1 := kF BK441.out 1; have zq15 := c2 BK439))
       go_roundg k1
       case measure => have := HK1.out; omega
       case rel => exact ⟨(wrap64 (x9_1 + 1)), (by first | rfl | (simp; done) | (simp [*]; done)), H', ⟨by have := HK1.out; omega⟩, ⟨by (with_reducible repeat (first | refine kN ?_ _ | refine kD ?_ | refine kA ?_ _)); refine kR ?_ NB439_441.out _; (with_reducible repeat (first | refine kN ?_ _ | refine kD ?_ | refine kA ?_ _)); refine kR ?_ NB439_441.out _; (with_reducible repeat (first | refine kN ?_ _ | refine kD ?_ | refine kA ?_ _)); exact BK439.out⟩, ⟨by repeat (first | (with_reducible first | exact HB.out | apply bA | apply bN | apply bD | refine bX ?_ (by assumption)) | exact HB.out)⟩⟩
     rw [if_neg c6] at H
     exact absurd H (by simp)
    rw [if_neg c5] at H
    exact absurd H (by simp)
   rw [if_neg c4] at H
   have c4b0 : decide (x9_1 < (l0.length : Int)) = false := decide_eq_false c4
   clear c4
   focus
    obtain rfl := Option.some.inj H
    go_wp2
    go_ret
    exact ⟨by first | rfl | (simp [errW_none, errW_some] <;> rfl) | (simp [*, errW_none, errW_some] <;> rfl), by repeat (first | (with_reducible first | exact HB.out | apply bA | apply bN | apply bD | refine bX ?_ (by assumption)) | exact HB.out)⟩
/-! ### cmp_isNaN_int: function 72 -/
def cmp_isNaN_int.f (a0 : Int) : Option (Bool) := some (a0 != a0)
set_option maxHeartbeats 8000000 in
set_option maxRecDepth 100000 in
theorem cmp_isNaN_int.calls (a0 : Int) (r : Bool) (w : World) (h : cmp_isNaN_int.f a0 = some r) :
  Calls Try.prog 72 #[.int .i64 a0] w fun e w' => e = .returned (.bool r) ∧ Drawn0 w w' := by
 have H : (some (a0 != a0)) = some r := h
 clear h
 focus
  obtain rfl := Option.some.inj H
  go_enter Try.func72, Try.ntmps72
  go_wp2
  go_ret
  exact ⟨by first | rfl | (simp; done) | (simp [*]; done), by repeat (first | exact Drawn0.refl _ | apply Drawn0.step)⟩
/-! ### cmp_Compare_int: function 60 -/
def cmp_Compare_int.f (a0 : Int) (a1 : Int) : Option (Int) := (cmp_isNaN_int.f a0).bind fun t442 => ((cmp_isNaN_int.f a1).bind fun t443 => (if t442 = true then (if t443 = true then (some 0) else (some (-1))) else (if t443 = true then (some 1) else (if a0 < a1 then (some (-1)) else (if a0 > a1 then (some 1) else (some 0))))))
set_option maxHeartbeats 8000000 in
set_option maxRecDepth 100000 in
theorem cmp_Compare_int.calls (a0 : Int) (a1 : Int) (r : Int) (w : World) (h : cmp_Compare_int.f a0 a1 = some r) :
  Calls Try.prog 60 #[.int .i64 a0, .int .i64 a1] w fun e w' => e = .returned (.int .i64 r) ∧ Drawn0 w w' := by
 have H : ((cmp_isNaN_int.f a0).bind fun t442 => ((cmp_isNaN_int.f a1).bind fun t443 => (if t442 = true then (if t443 = true then (some 0) else (some (-1))) else (if t443 = true then (some 1) else (if a0 < a1 then (some (-1)) else (if a0 > a1 then (some 1) else (some 0))))))) = some r := h
 clear h
 replace H := Option.bind_eq_some_iff.mp H
 obtain ⟨t442, A30, H⟩ := H
 try dsimp only at H
 have A3 := Am A30
 clear A30
 replace H := Option.bind_eq_some_iff.mp H
 obtain ⟨t443, A40, H⟩ := H
 try dsimp only at H
 have A4 := Am A40
 clear A40
 by_cases c5 : t442 = true
 ·subst c5
  have H1 : (if t443 = true then (some 0) else (some (-1))) = some r := by rw [if_pos rfl] at H; exact H
  clear H
  have H := H1
  clear H1
  by_cases c6 : t443 = true
  ·subst c6
   have H1 : (some 0) = some r := by rw [if_pos rfl] at H; exact H
   clear H
   have H := H1
   clear H1
   focus
    obtain rfl := Option.some.inj H
    go_enter Try.func60, Try.ntmps60
    go_wp2_with (first | ((with_reducible refine gate_callee (f := 72) rfl ?_); refine gL (some 8) Try.func72 #[.int .i64 a0] rfl ?_; (with_reducible refine (cmp_isNaN_int.calls a0 true _ A3.out).mono ?_); rintro e w' ⟨rfl, ⟨nd, rfl⟩⟩; refine ⟨_, rfl, ?_⟩) | ((with_reducible refine gate_callee (f := 72) rfl ?_); refine gL (some 10) Try.func72 #[.int .i64 a1] rfl ?_; (with_reducible refine (cmp_isNaN_int.calls a1 true _ A4.out).mono ?_); rintro e w' ⟨rfl, ⟨nd, rfl⟩⟩; refine ⟨_, rfl, ?_⟩))
    go_ret
    exact ⟨by first | rfl | (simp; done) | (simp [*]; done), by repeat (first | exact Drawn0.refl _ | apply Drawn0.step)⟩
  replace c6 := Bool.eq_false_iff.mpr c6
  subst c6
  have H1 : (some (-1)) = some r := by rw [if_neg (show ¬ (false = true) by decide)] at H; exact H
  clear H
  have H := H1
  clear H1
  focus
   obtain rfl := Option.some.inj H
   go_enter Try.func60, Try.ntmps60
   go_wp2_with (first | ((with_reducible refine gate_callee (f := 72) rfl ?_); refine gL (some 8) Try.func72 #[.int .i64 a0] rfl ?_; (with_reducible refine (cmp_isNaN_int.calls a0 true _ A3.out).mono ?_); rintro e w' ⟨rfl, ⟨nd, rfl⟩⟩; refine ⟨_, rfl, ?_⟩) | ((with_reducible refine gate_callee (f := 72) rfl ?_); refine gL (some 10) Try.func72 #[.int .i64 a1] rfl ?_; (with_reducible refine (cmp_isNaN_int.calls a1 false _ A4.out).mono ?_); rintro e w' ⟨rfl, ⟨nd, rfl⟩⟩; refine ⟨_, rfl, ?_⟩))
   go_ret
   exact ⟨by first | rfl | (simp; done) | (simp [*]; done), by repeat (first | exact Drawn0.refl _ | apply Drawn0.step)⟩
 replace c5 := Bool.eq_false_iff.mpr c5
 subst c5
 have H1 : (if t443 = true then (some 1) else (if a0 < a1 then (some (-1)) else (if a0 > a1 then (some 1) else (some 0)))) = some r := by rw [if_neg (show ¬ (false = true) by decide)] at H; exact H
 clear H
 have H := H1
 clear H1
 by_cases c7 : t443 = true
 ·subst c7
  have H1 : (some 1) = some r := by rw [if_pos rfl] at H; exact H
  clear H
  have H := H1
  clear H1
  focus
   obtain rfl := Option.some.inj H
   go_enter Try.func60, Try.ntmps60
   go_wp2_with (first | ((with_reducible refine gate_callee (f := 72) rfl ?_); refine gL (some 8) Try.func72 #[.int .i64 a0] rfl ?_; (with_reducible refine (cmp_isNaN_int.calls a0 false _ A3.out).mono ?_); rintro e w' ⟨rfl, ⟨nd, rfl⟩⟩; refine ⟨_, rfl, ?_⟩) | ((with_reducible refine gate_callee (f := 72) rfl ?_); refine gL (some 10) Try.func72 #[.int .i64 a1] rfl ?_; (with_reducible refine (cmp_isNaN_int.calls a1 true _ A4.out).mono ?_); rintro e w' ⟨rfl, ⟨nd, rfl⟩⟩; refine ⟨_, rfl, ?_⟩))
   go_ret
   exact ⟨by first | rfl | (simp; done) | (simp [*]; done), by repeat (first | exact Drawn0.refl _ | apply Drawn0.step)⟩
 replace c7 := Bool.eq_false_iff.mpr c7
 subst c7
 have H1 : (if a0 < a1 then (some (-1)) else (if a0 > a1 then (some 1) else (some 0))) = some r := by rw [if_neg (show ¬ (false = true) by decide)] at H; exact H
 clear H
 have H := H1
 clear H1
 by_cases c8 : a0 < a1
 ·rw [if_pos c8] at H
  have c8b0 : decide (a0 < a1) = true := decide_eq_true c8
  clear c8
  focus
   obtain rfl := Option.some.inj H
   go_enter Try.func60, Try.ntmps60
   go_wp2_with (first | ((with_reducible refine gate_callee (f := 72) rfl ?_); refine gL (some 8) Try.func72 #[.int .i64 a0] rfl ?_; (with_reducible refine (cmp_isNaN_int.calls a0 false _ A3.out).mono ?_); rintro e w' ⟨rfl, ⟨nd, rfl⟩⟩; refine ⟨_, rfl, ?_⟩) | ((with_reducible refine gate_callee (f := 72) rfl ?_); refine gL (some 10) Try.func72 #[.int .i64 a1] rfl ?_; (with_reducible refine (cmp_isNaN_int.calls a1 false _ A4.out).mono ?_); rintro e w' ⟨rfl, ⟨nd, rfl⟩⟩; refine ⟨_, rfl, ?_⟩))
   go_ret
   exact ⟨by first | rfl | (simp; done) | (simp [*]; done), by repeat (first | exact Drawn0.refl _ | apply Drawn0.step)⟩
 rw [if_neg c8] at H
 have c8b0 : decide (a0 < a1) = false := decide_eq_false c8
 clear c8
 by_cases c9 : a0 > a1
 ·rw [if_pos c9] at H
  have c9b0 : decide (a1 < a0) = true := decide_eq_true c9
  clear c9
  focus
   obtain rfl := Option.some.inj H
   go_enter Try.func60, Try.ntmps60
   go_wp2_with (first | ((with_reducible refine gate_callee (f := 72) rfl ?_); refine gL (some 8) Try.func72 #[.int .i64 a0] rfl ?_; (with_reducible refine (cmp_isNaN_int.calls a0 false _ A3.out).mono ?_); rintro e w' ⟨rfl, ⟨nd, rfl⟩⟩; refine ⟨_, rfl, ?_⟩) | ((with_reducible refine gate_callee (f := 72) rfl ?_); refine gL (some 10) Try.func72 #[.int .i64 a1] rfl ?_; (with_reducible refine (cmp_isNaN_int.calls a1 false _ A4.out).mono ?_); rintro e w' ⟨rfl, ⟨nd, rfl⟩⟩; refine ⟨_, rfl, ?_⟩))
   go_ret
   exact ⟨by first | rfl | (simp; done) | (simp [*]; done), by repeat (first | exact Drawn0.refl _ | apply Drawn0.step)⟩
 rw [if_neg c9] at H
 have c9b0 : decide (a1 < a0) = false := decide_eq_false c9
 clear c9
 focus
  obtain rfl := Option.some.inj H
  go_enter Try.func60, Try.ntmps60
  go_wp2_with (first | ((with_reducible refine gate_callee (f := 72) rfl ?_); refine gL (some 8) Try.func72 #[.int .i64 a0] rfl ?_; (with_reducible refine (cmp_isNaN_int.calls a0 false _ A3.out).mono ?_); rintro e w' ⟨rfl, ⟨nd, rfl⟩⟩; refine ⟨_, rfl, ?_⟩) | ((with_reducible refine gate_callee (f := 72) rfl ?_); refine gL (some 10) Try.func72 #[.int .i64 a1] rfl ?_; (with_reducible refine (cmp_isNaN_int.calls a1 false _ A4.out).mono ?_); rintro e w' ⟨rfl, ⟨nd, rfl⟩⟩; refine ⟨_, rfl, ?_⟩))
  go_ret
  exact ⟨by first | rfl | (simp; done) | (simp [*]; done), by repeat (first | exact Drawn0.refl _ | apply Drawn0.step)⟩
/-! ### impl_Turn_compare: function 39 -/
def impl_Turn_compare.f (a0_0 : Int) (a0_1 : Int) (a1_0 : Int) (a1_1 : Int) : Option (Int) := (cmp_Compare_int.f (wrap64 (a0_0 * a1_1)) (wrap64 (a1_0 * a0_1))).bind fun t446 => (some t446)
set_option maxHeartbeats 8000000 in
set_option maxRecDepth 100000 in
theorem impl_Turn_compare.calls (a0_0 : Int) (a0_1 : Int) (a1_0 : Int) (a1_1 : Int) (r : Int) (w : World) (h : impl_Turn_compare.f a0_0 a0_1 a1_0 a1_1 = some r) :
  Calls Try.prog 39 #[.agg #[.int .i64 a0_0, .int .i64 a0_1], .agg #[.int .i64 a1_0, .int .i64 a1_1]] w fun e w' => e = .returned (.int .i64 r) ∧ Below w.heap.size w w' := by
 have hu23 := Try.underlying23
 have HB := Am (Below.refl w.heap.size w)
 have H : ((cmp_Compare_int.f (wrap64 (a0_0 * a1_1)) (wrap64 (a1_0 * a0_1))).bind fun t446 => (some t446)) = some r := h
 clear h
 replace H := Option.bind_eq_some_iff.mp H
 obtain ⟨t446, A30, H⟩ := H
 try dsimp only at H
 have A3 := Am A30
 clear A30
 focus
  obtain rfl := Option.some.inj H
  go_enter Try.func39, Try.ntmps39
  go_wp2_with (first | ((with_reducible refine gate_dst (N := 2) rfl ?_); refine bE 2 #[.int .i64 a0_0, .int .i64 a0_1] 23 ?_; intro gb444 hg w4 hbox hb; have hv := vK HB hb; have n0_ := Am (bT hv hb); have n1_ := Am (hbox); have GE444 := kG hg hv; clear HB; have HB := n0_; have BK444 := n1_; clear n0_ n1_ hv; clear hb hbox hg) | ((with_reducible refine gate_dst (N := 3) rfl ?_); refine bE 3 #[.int .i64 a1_0, .int .i64 a1_1] 23 ?_; intro gb445 hg w5 hbox hb; have hp0 := pA BK444 hb; have hv := vK HB hb; have n1_ := Am (bT hv hb); have n2_ := Am (hbox); have GE445 := kG hg hv; have hp1 := pK BK444 hb; obtain ⟨NB444_445, NB445_444⟩ := kXY hg hp1 BK444; clear HB; replace BK444 := hp0 BK444; have HB := n1_; have BK445 := n2_; clear n1_ n2_ hp0 hp1 hv; clear hb hbox hg; have nq6 := kO NB444_445; have zq7 := c2 BK444; have hcz8_0 : w5.cell? ⟨gb445, 0, none⟩ = some (.int .i64 a1_0) := (kC BK445.out 0).trans rfl; have hcz8_1 : w5.cell? ⟨gb445, 1, none⟩ = some (.int .i64 a1_1) := (kC BK445.out 1).trans rfl; have hfz8_0 := kF BK445.out 0; have hfz8_1 := kF BK445.out 1) | ((with_reducible refine gate_callee (f := 60) rfl ?_); refine gL (some 15) Try.func60 #[.int .i64 (wrap64 (a0_0 * a1_1)), .int .i64 (wrap64 (a1_0 * a0_1))] rfl ?_; (with_reducible refine (cmp_Compare_int.calls (wrap64 (a0_0 * a1_1)) (wrap64 (a1_0 * a0_1)) t446 _ A3.out).mono ?_); rintro e w' ⟨rfl, ⟨nd, rfl⟩⟩; refine ⟨_, rfl, ?_⟩))
  go_ret
  exact ⟨by first | rfl | (simp [errW_none, errW_some] <;> rfl) | (simp [*, errW_none, errW_some] <;> rfl), by repeat (first | (with_reducible first | exact HB.out | apply bA | apply bN | apply bD | refine bX ?_ (by assumption)) | exact HB.out)⟩
/-! ### impl_NextMeet_ix: function 38 -/
def impl_NextMeet_ix.g : List (S23) → Int → Int → Int → Option (Int)
 | [], _, _, _ => some (-1)
 | x :: xs, t0, t1, i => (impl_Turn_compare.f x.f0 x.f1 t0 t1).bind fun c => if c > 0 then some i else impl_NextMeet_ix.g xs t0 t1 (i + 1)
def impl_NextMeet_ix.f (l0 : List (S23)) (t0 : Int) (t1 : Int) : Option (Int) := if l0.length < 4611686018427387904 then impl_NextMeet_ix.g l0 t0 t1 0 else none
theorem impl_NextMeet_ix.at (l0 : List (S23)) (t0 : Int) (t1 : Int) (x8 : Int) (r : Int) (h0 : 0 ≤ x8) (h1 : x8 < (l0.length : Int)) (h : impl_NextMeet_ix.g (l0.drop x8.toNat) t0 t1 x8 = some r) :
  ∃ c, impl_Turn_compare.f (rd_T23 l0 x8).f0 (rd_T23 l0 x8).f1 t0 t1 = some c ∧ (0 < c → r = x8) ∧ (¬ 0 < c → impl_NextMeet_ix.g (l0.drop (x8 + 1).toNat) t0 t1 (x8 + 1) = some r) := by
 have hl : x8.toNat < l0.length := by omega
 rw [List.drop_eq_getElem_cons hl] at h
 simp only [impl_NextMeet_ix.g] at h
 obtain ⟨b, hb, hr⟩ := Option.bind_eq_some_iff.mp h
 have e1 : rd_T23 l0 x8 = l0[x8.toNat] := by unfold rd_T23; rw [List.getD_eq_getElem?_getD, List.getElem?_eq_getElem hl]; rfl
 refine ⟨b, by rw [e1]; exact hb, fun e => ?_, fun e => ?_⟩
 ·rw [if_pos e] at hr; exact (Option.some.inj hr).symm
 ·rw [if_neg e] at hr
  rw [show (x8 + 1).toNat = x8.toNat + 1 by omega]; exact hr
set_option maxHeartbeats 8000000 in
set_option maxRecDepth 100000 in
theorem impl_NextMeet_ix.lit (u0 : Int) (u1 : Int) (t0 : Int) (t1 : Int) (c : Int) (gt : Nat) (w : World) (hb : w.heap[gt]? = some (.cells #[.int .i64 t0, .int .i64 t1] 23 (0, 0))) (h : impl_Turn_compare.f u0 u1 t0 t1 = some c) :
  Calls Try.prog 38 #[.agg #[.int .i64 u0, .int .i64 u1], .pointer (some ⟨gt, 0, none⟩)] w fun e w' => e = .returned (.bool (decide (0 < c))) ∧ Below w.heap.size w w' := by
 have hu23 := Try.underlying23
 have HC := Am h
 have BKt := Am hb
 clear h hb
 have HB := Am (Below.refl w.heap.size w)
 go_enter Try.func38, Try.ntmps38
 go_wp2_with (first | ((with_reducible refine gate_dst (N := 2) rfl ?_); refine bE 2 #[.int .i64 u0, .int .i64 u1] 23 ?_; intro gbu hg wbu hbox hb; have BKt2 := Am (kB BKt.out hb); clear BKt; have BKt := BKt2; clear BKt2; have BKu := Am hbox; have nB := Am (bT HB.out hb); clear HB; have HB := nB; clear nB; clear hbox hb hg; have hczu_0 : wbu.cell? ⟨gbu, 0, none⟩ = some (.int .i64 u0) := (kC BKu.out 0).trans rfl; have hczu_1 : wbu.cell? ⟨gbu, 1, none⟩ = some (.int .i64 u1) := (kC BKu.out 1).trans rfl; have hfzu_0 := kF BKu.out 0; have hfzu_1 := kF BKu.out 1; have hczt_0 : wbu.cell? ⟨gt, 0, none⟩ = some (.int .i64 t0) := (kC BKt.out 0).trans rfl; have hczt_1 : wbu.cell? ⟨gt, 1, none⟩ = some (.int .i64 t1) := (kC BKt.out 1).trans rfl; have hfzt_0 := kF BKt.out 0; have hfzt_1 := kF BKt.out 1) | ((with_reducible refine gate_callee (f := 39) rfl ?_); refine goesL_ (some 6) rfl rfl Try.func39 (by kernel_rfl) rfl #[.agg #[.int .i64 u0, .int .i64 u1], .agg #[.int .i64 t0, .int .i64 t1]] rfl (by (try simp only [List.map_toArray, List.map_cons, List.map_nil]); first | done | rfl) ?_; (with_reducible refine (impl_Turn_compare.calls u0 u1 t0 t1 c _ HC.out).mono ?_); rintro e w5 ⟨rfl, hb⟩; refine ⟨_, rfl, ?_⟩; have nB := Am (bT HB.out hb); clear HB; have HB := nB; clear nB; (try clear hb)))
 go_ret
 exact ⟨by first | rfl | (simp; done), by repeat (first | (with_reducible first | exact HB.out | apply bA | apply bN | apply bD) | exact HB.out)⟩
set_option maxHeartbeats 8000000 in
set_option maxRecDepth 100000 in
theorem impl_NextMeet_ix.calls (A0 : Option Addr) (c0 : Nat) (l0 : List (S23)) (t0 : Int) (t1 : Int) (r : Int) (gt : Nat) (w : World) (hb : w.heap[gt]? = some (.cells #[.int .i64 t0, .int .i64 t1] 23 (0, 0))) (hr0 : Kd.C k23 w A0 l0.length l0) (hc0 : l0.length ≤ c0) (h : impl_NextMeet_ix.f l0 t0 t1 = some r) :
  Calls Try.prog 37 #[.slice A0 l0.length c0, .func (.func 38) #[] #[.pointer (some ⟨gt, 0, none⟩)]] w fun e w' => e = .returned (.int .i64 r) ∧ Below w.heap.size w w' := by
 have HR0 := Am hr0
 have BT := Am hb
 have hlen : l0.length < 4611686018427387904 := by
  unfold impl_NextMeet_ix.f at h
  by_cases hl : l0.length < 4611686018427387904
  ·exact hl
  rw [if_neg hl] at h; cases h
 have H' : Aside0 (impl_NextMeet_ix.g (l0.drop (0 : Int).toNat) t0 t1 0 = some r) := by
  unfold impl_NextMeet_ix.f at h
  rw [if_pos hlen] at h
  exact ⟨h⟩
 clear hr0 h hb
 have hu23 := Try.underlying23
 go_enter Try.func37, Try.ntmps37
 go_wp2
 go_loopg [5, 8] l0.length (fun gg v5 v8 w' => ∃ x8 : Int, 0 ≤ x8 ∧ x8 ≤ (l0.length : Int) ∧ (l0.length : Int) - x8 ≤ gg ∧ v8 = .int .i64 x8 ∧ Aside0 (impl_NextMeet_ix.g (l0.drop x8.toNat) t0 t1 x8 = some r) ∧ Aside0 (Below w.heap.size w w'))
 case atStart => exact ⟨0, by omega, by omega, by omega, rfl, H', ⟨Below.refl _ w⟩⟩
 case round =>
  clear H'
  obtain ⟨x8, hx0, hx1, hg, rfl, HA, HB⟩ := hrel
  have hbd : x8 < 4611686018427387904 := by omega
  by_cases hlt : x8 < (l0.length : Int)
  ·have hltb : decide (x8 < (l0.length : Int)) = true := decide_eq_true hlt
   have hx0b : decide (0 ≤ x8) = true := decide_eq_true hx0
   obtain ⟨c, hb, hbt, hbf⟩ := impl_NextMeet_ix.at l0 t0 t1 x8 r hx0 hlt HA.out
   clear HA
   obtain ⟨ad, ea, hc0, hc1⟩ := at_T23 HR0.out x8 hx0 hlt
   cases ea
   replace hc0 := (HB.out.cell (World.block_lt_of_cell? w _ hc0)).trans hc0
   replace hc1 := (HB.out.cell (World.block_lt_of_cell? w _ hc1)).trans hc1
   have BW := Am (kB BT.out HB.out)
   have HB1 := Am hb
   clear hb
   by_cases hq : 0 < c
   ·have HT := Am (hbt hq)
    have hqb : decide (0 < c) = true := decide_eq_true hq
    clear hbt hbf hq
    go_wp2_with (go_at_call 38; refine (impl_NextMeet_ix.lit _ _ t0 t1 c gt _ BW.out HB1.out).mono ?_; rintro e w2 ⟨rfl, hb'⟩)
    go_ret
    exact ⟨by rw [HT.out]; rfl, bT HB.out hb'⟩
   have HF := Am (hbf hq)
   have hqb : decide (0 < c) = false := decide_eq_false hq
   clear hbt hbf hq
   go_wp2_with (go_at_call 38; refine (impl_NextMeet_ix.lit _ _ t0 t1 c gt _ BW.out HB1.out).mono ?_; rintro e w2 ⟨rfl, hb'⟩)
   go_roundg (l0.length - (x8 + 1).toNat)
   case measure => omega
   case rel => exact ⟨x8 + 1, by omega, by omega, by omega, by go_num, ⟨HF.out⟩, ⟨bT HB.out hb'⟩⟩
  have hltb : decide (x8 < (l0.length : Int)) = false := decide_eq_false hlt
  have e8 : r = -1 := by
   have := HA.out
   rw [List.drop_of_length_le (by omega)] at this
   exact (Option.some.inj this).symm
  clear HA
  have E8 := Am e8
  clear e8
  go_wp2
  go_ret
  exact ⟨by rw [E8.out]; rfl, HB.out⟩
/-! ### impl_NextMeet: function 19 -/
def impl_NextMeet.f (k : Nat) (a0_0 : Int) (a0_1 : Int) (a0_2 : Int) (a1_0 : Int) (a1_1 : Int) (a1_2 : Int) (a2_0 : Int) (a2_1 : Int) : Option (Int × Int × Bool) := (impl_MeetTimes.f k a0_0 a0_1 a0_2 a1_0 a1_1 a1_2).bind fun bt451 => (if bt451.2 = true then ((impl_IsTurn.f k a2_0 a2_1).bind fun t455 => (if t455 = true then ((impl_NextMeet_ix.f bt451.1 a2_0 a2_1).bind fun t456 => (if 0 ≤ (mx t456 0) then (if (mx t456 0) < (bt451.1.length : Int) then (some ((rd_T23 bt451.1 (mx t456 0)).f0, (rd_T23 bt451.1 (mx t456 0)).f1, true)) else (none)) else (none))) else (some (0, 0, false)))) else (some (0, 0, false)))
theorem impl_NextMeet.mono : ∀ a0 a1 a2 a3 a4 a5 a6 a7 k, LeO (impl_NextMeet.f k a0 a1 a2 a3 a4 a5 a6 a7) (impl_NextMeet.f (k + 1) a0 a1 a2 a3 a4 a5 a6 a7) := by
 intro a0 a1 a2 a3 a4 a5 a6 a7 k
 unfold impl_NextMeet.f
 repeat' first
   | (with_reducible exact impl_IsTurn.mono _ _ _)
   | (with_reducible exact impl_MeetTimes.mono _ _ _ _ _ _ _)
   | (with_reducible exact LeO.refl _)
   | (with_reducible exact LeO.none _)
   | (with_reducible refine LeO.ite ?_ ?_)
   | (with_reducible refine LeO.bind ?_ (fun _ => ?_))
   | exact impl_IsTurn.mono _ _ _
   | exact impl_MeetTimes.mono _ _ _ _ _ _ _
   | exact LeO.none _
   | refine LeO.ite ?_ ?_
   | refine LeO.bind ?_ (fun _ => ?_)
set_option maxHeartbeats 8000000 in
set_option maxRecDepth 100000 in
theorem impl_NextMeet.calls (k : Nat) (a0_0 : Int) (a0_1 : Int) (a0_2 : Int) (a1_0 : Int) (a1_1 : Int) (a1_2 : Int) (a2_0 : Int) (a2_1 : Int) (r1 : Int) (r2 : Int) (r3 : Bool) (w : World) (h : impl_NextMeet.f k a0_0 a0_1 a0_2 a1_0 a1_1 a1_2 a2_0 a2_1 = some (r1, r2, r3)) :
  Calls Try.prog 19 #[.agg #[.int .i64 a0_0, .int .i64 a0_1, .int .i64 a0_2], .agg #[.int .i64 a1_0, .int .i64 a1_1, .int .i64 a1_2], .agg #[.int .i64 a2_0, .int .i64 a2_1]] w fun e w' => e = .returned (.tuple #[.agg #[.int .i64 r1, .int .i64 r2], .bool r3]) ∧ Below w.heap.size w w' := by
 have hu25 := Try.underlying25; have hu23 := Try.underlying23
 have HB := Am (Below.refl w.heap.size w)
 have H : ((impl_MeetTimes.f k a0_0 a0_1 a0_2 a1_0 a1_1 a1_2).bind fun bt451 => (if bt451.2 = true then ((impl_IsTurn.f k a2_0 a2_1).bind fun t455 => (if t455 = true then ((impl_NextMeet_ix.f bt451.1 a2_0 a2_1).bind fun t456 => (if 0 ≤ (mx t456 0) then (if (mx t456 0) < (bt451.1.length : Int) then (some ((rd_T23 bt451.1 (mx t456 0)).f0, (rd_T23 bt451.1 (mx t456 0)).f1, true)) else (none)) else (none))) else (some (0, 0, false)))) else (some (0, 0, false)))) = some (r1, r2, r3) := h
 clear h
 replace H := Option.bind_eq_some_iff.mp H
 obtain ⟨⟨t451, t454⟩, A40, H⟩ := H
 try dsimp only at H
 have A4 := Am A40
 clear A40
 by_cases c5 : t454 = true
 ·subst c5
  have H1 : ((impl_IsTurn.f k a2_0 a2_1).bind fun t455 => (if t455 = true then ((impl_NextMeet_ix.f t451 a2_0 a2_1).bind fun t456 => (if 0 ≤ (mx t456 0) then (if (mx t456 0) < (t451.length : Int) then (some ((rd_T23 t451 (mx t456 0)).f0, (rd_T23 t451 (mx t456 0)).f1, true)) else (none)) else (none))) else (some (0, 0, false)))) = some (r1, r2, r3) := by rw [if_pos rfl] at H; exact H
  clear H
  have H := H1
  clear H1
  replace H := Option.bind_eq_some_iff.mp H
  obtain ⟨t455, A60, H⟩ := H
  try dsimp only at H
  have A6 := Am A60
  clear A60
  by_cases c7 : t455 = true
  ·subst c7
   have H1 : ((impl_NextMeet_ix.f t451 a2_0 a2_1).bind fun t456 => (if 0 ≤ (mx t456 0) then (if (mx t456 0) < (t451.length : Int) then (some ((rd_T23 t451 (mx t456 0)).f0, (rd_T23 t451 (mx t456 0)).f1, true)) else (none)) else (none))) = some (r1, r2, r3) := by rw [if_pos rfl] at H; exact H
   clear H
   have H := H1
   clear H1
   replace H := Option.bind_eq_some_iff.mp H
   obtain ⟨t456, A80, H⟩ := H
   try dsimp only at H
   have A8 := Am A80
   clear A80
   obtain ⟨ji9, hji9⟩ : ∃ j_ : Int, (mx t456 0) = j_ := ⟨_, rfl⟩
   replace H : (if 0 ≤ (ji9) then (if (ji9) < (t451.length : Int) then (some ((rd_T23 t451 (ji9)).f0, (rd_T23 t451 (ji9)).f1, true)) else (none)) else (none)) = some (r1, r2, r3) := by first | (rw [hji9] at H; exact H) | (simp only [hji9] at H ⊢; exact H)
   (try rw [hji9] at A4)
   (try rw [hji9] at A6)
   (try rw [hji9] at A8)
   (try (have hji9l : 0 ≤ ji9 := by (rw [← hji9]; unfold mx; (repeat' split) <;> omega)))
   (try (have hji9m : 0 ≤ ji9 := by omega))
   have hji9_ : (if t456 < 0 then 0 else t456) = ji9 := hji9
   by_cases c10 : 0 ≤ (ji9)
   ·rw [if_pos c10] at H
    have c10b0 : decide (0 ≤ (ji9)) = true := decide_eq_true c10
    clear c10
    by_cases c11 : (ji9) < (t451.length : Int)
    ·rw [if_pos c11] at H
     have c11b0 : decide ((ji9) < (t451.length : Int)) = true := decide_eq_true c11
     clear c11
     focus
      simp only [Option.some.injEq, Prod.mk.injEq] at H
      obtain ⟨rfl, rfl, rfl⟩ := H
      go_enter Try.func19, Try.ntmps19
      go_wp2_with (first | ((with_reducible refine gate_dst (N := 3) rfl ?_); refine bE 3 #[.int .i64 a0_0, .int .i64 a0_1, .int .i64 a0_2] 25 ?_; intro gb447 hg w12 hbox hb; have hv := vK HB hb; have n0_ := Am (bT hv hb); have n1_ := Am (hbox); have GE447 := kG hg hv; clear HB; have HB := n0_; have BK447 := n1_; clear n0_ n1_ hv; clear hb hbox hg) | ((with_reducible refine gate_dst (N := 4) rfl ?_); refine bE 4 #[.int .i64 a1_0, .int .i64 a1_1, .int .i64 a1_2] 25 ?_; intro gb448 hg w13 hbox hb; have hp0 := pA BK447 hb; have hv := vK HB hb; have n1_ := Am (bT hv hb); have n2_ := Am (hbox); have GE448 := kG hg hv; have hp1 := pK BK447 hb; obtain ⟨NB447_448, NB448_447⟩ := kXY hg hp1 BK447; clear HB; replace BK447 := hp0 BK447; have HB := n1_; have BK448 := n2_; clear n1_ n2_ hp0 hp1 hv; clear hb hbox hg) | ((with_reducible refine gate_dst (N := 5) rfl ?_); refine bE 5 #[.int .i64 a2_0, .int .i64 a2_1] 23 ?_; intro gb449 hg w14 hbox hb; have hp0 := pA BK447 hb; have hv := vK HB hb; have n2_ := Am (bT hv hb); have n3_ := Am (hbox); have GE449 := kG hg hv; have hp1 := pK BK447 hb; obtain ⟨NB447_449, NB449_447⟩ := kXY hg hp1 BK447; obtain ⟨NB448_449, NB449_448⟩ := kXY hg hp1 BK448; clear HB; replace BK447 := hp0 BK447; replace BK448 := hp0 BK448; have HB := n2_; have BK449 := n3_; clear n2_ n3_ hp0 hp1 hv; clear hb hbox hg) | ((with_reducible refine gate_dst (N := 6) rfl ?_); refine bE 6 #[.int .i64 0, .int .i64 0] 23 ?_; intro gb450 hg w15 hbox hb; have hp0 := pA BK447 hb; have hv := vK HB hb; have n3_ := Am (bT hv hb); have n4_ := Am (hbox); have GE450 := kG hg hv; have hp1 := pK BK447 hb; obtain ⟨NB447_450, NB450_447⟩ := kXY hg hp1 BK447; obtain ⟨NB448_450, NB450_448⟩ := kXY hg hp1 BK448; obtain ⟨NB449_450, NB450_449⟩ := kXY hg hp1 BK449; clear HB; replace BK447 := hp0 BK447; replace BK448 := hp0 BK448; replace BK449 := hp0 BK449; have HB := n3_; have BK450 := n4_; clear n3_ n4_ hp0 hp1 hv; clear hb hbox hg; have nq16 := kO NB447_448; have nq17 := kO NB447_449; have nq18 := kO NB447_450; have zq19 := c3 BK447; have nq20 := kO NB448_449; have nq21 := kO NB448_450; have zq22 := c3 BK448) | ((with_reducible refine gate_callee (f := 4) rfl ?_); refine gL (some 14) Try.func4 #[.agg #[.int .i64 a0_0, .int .i64 a0_1, .int .i64 a0_2], .agg #[.int .i64 a1_0, .int .i64 a1_1, .int .i64 a1_2]] rfl ?_; (with_reducible refine (impl_MeetTimes.calls k a0_0 a0_1 a0_2 a1_0 a1_1 a1_2 t451 true _ A4.out).mono ?_); rintro e w23 ⟨v452, rfl, ho0, hb⟩; refine ⟨_, rfl, ?_⟩; have n0_ := Am (Kd.R_lower (Kd.R_newB (Kd.R_newB ho0 (g := gb449) (o := .cells #[.int .i64 a2_0, .int .i64 a2_1] 23 (0, 0)) (kU BK449)) (g := gb450) (o := .cells #[.int .i64 0, .int .i64 0] 23 (0, 0)) (kU BK450)) (bZ (by repeat (first | (with_reducible first | exact HB.out | apply bA | apply bN | apply bD | refine bX ?_ (by assumption)) | exact HB.out)))); have hp0 := pA BK447 hb; have hv := vK HB hb; have n5_ := Am (bT hv hb); clear HB; have HO453 := n0_; replace BK447 := hp0 BK447; replace BK448 := hp0 BK448; replace BK449 := hp0 BK449; replace BK450 := hp0 BK450; have HB := n5_; clear n0_ n5_ hp0 hv; (try clear hb); (try clear ho0); have nq24 := kO NB449_450; have zq25 := c2 BK449) | (go_at_call 35; (with_reducible refine (impl_IsTurn.calls k a2_0 a2_1 true _ A6.out).mono ?_); rintro e w26 ⟨rfl, hb⟩; have n0_ := Am (Kd.R_below (kW HO453) hb); have hp0 := pA BK447 hb; have hv := vK HB hb; have n5_ := Am (bT hv hb); clear HO453; clear HB; have HO453 := n0_; replace BK447 := hp0 BK447; replace BK448 := hp0 BK448; replace BK449 := hp0 BK449; replace BK450 := hp0 BK450; have HB := n5_; clear n0_ n5_ hp0 hv; (try clear hb); have zq27 := c2 BK449; obtain ⟨Ao28, co28, eo28⟩ := Kd.R_slice HO453.out; subst eo28) | ((with_reducible refine gate_callee (f := 37) rfl ?_); refine gL (some 27) Try.func37 #[.slice Ao28 t451.length co28, .func (.func 38) #[] #[.pointer (some ⟨gb449, 0, none⟩)]] rfl ?_; (with_reducible refine (impl_NextMeet_ix.calls _ _ t451 a2_0 a2_1 t456 gb449 _ (kU BK449) ?side1 ?side2 A8.out).mono ?_); (case side1 => repeat (first | exact (Kd.R_reads' HO453.out).2.2 | (with_reducible refine Kd.C_alloc ?_ _) | (with_reducible refine Kd.C_drewN ?_ _) | (with_reducible refine Kd.C_drew ?_))); (case side2 => exact (Kd.R_reads' HO453.out).2.1); rintro e w29 ⟨rfl, hb⟩; refine ⟨_, rfl, ?_⟩; have n0_ := Am (Kd.R_below (kW HO453) hb); have hp0 := pA BK447 hb; have hv := vK HB hb; have n5_ := Am (bT hv hb); clear HO453; clear HB; have HO453 := n0_; replace BK447 := hp0 BK447; replace BK448 := hp0 BK448; replace BK449 := hp0 BK449; replace BK450 := hp0 BK450; have HB := n5_; clear n0_ n5_ hp0 hv; (try clear hb); have p457 : 0 ≤ ((ji9) : Int) := of_decide_eq_true (by first | (with_reducible assumption) | assumption); have q457 : (ji9) < (t451.length : Int) := of_decide_eq_true (by first | (with_reducible assumption) | assumption); obtain ⟨ad457, e457, hx457_0, hx457_1⟩ := at_T23 (Kd.R_reads' HO453.out).2.2 (ji9) p457 q457; cases e457; replace p457 := eq_true p457; replace q457 := eq_true q457; have zq30 := c2 BK450))
      refine bodyPost_ret (results_ct rfl _ _ gb450 23 #[.int .i64 ((rd_T23 t451 (ji9)).f0), .int .i64 ((rd_T23 t451 (ji9)).f1)] (0, 0) _ rfl (by (with_reducible repeat (first | refine kN ?_ _ | refine kD ?_ | refine kA ?_ _)); refine kP (cs := #[.int .i64 ((rd_T23 t451 (ji9)).f0), .int .i64 0]) ?_ 1 _ rfl; (with_reducible repeat (first | refine kN ?_ _ | refine kD ?_ | refine kA ?_ _)); refine kP (cs := #[.int .i64 0, .int .i64 0]) ?_ 0 _ rfl; (with_reducible repeat (first | refine kN ?_ _ | refine kD ?_ | refine kA ?_ _)); exact BK450.out) Try.underlying23 rfl (by kernel_rfl)) rfl ?_
      exact ⟨by first | rfl | (simp [errW_none, errW_some] <;> rfl) | (simp only [← hji9]; first | rfl | (simp [errW_none, errW_some] <;> rfl)) | (simp [*, errW_none, errW_some] <;> rfl), by repeat (first | (with_reducible first | exact HB.out | apply bA | apply bN | apply bD | refine bX ?_ (by assumption)) | exact HB.out)⟩
    rw [if_neg c11] at H
    exact absurd H (by simp)
   rw [if_neg c10] at H
   exact absurd H (by simp)
  replace c7 := Bool.eq_false_iff.mpr c7
  subst c7
  have H1 : (some (0, 0, false)) = some (r1, r2, r3) := by rw [if_neg (show ¬ (false = true) by decide)] at H; exact H
  clear H
  have H := H1
  clear H1
  focus
   simp only [Option.some.injEq, Prod.mk.injEq] at H
   obtain ⟨rfl, rfl, rfl⟩ := H
   go_enter Try.func19, Try.ntmps19
   go_wp2_with (first | ((with_reducible refine gate_dst (N := 3) rfl ?_); refine bE 3 #[.int .i64 a0_0, .int .i64 a0_1, .int .i64 a0_2] 25 ?_; intro gb447 hg w31 hbox hb; have hv := vK HB hb; have n0_ := Am (bT hv hb); have n1_ := Am (hbox); have GE447 := kG hg hv; clear HB; have HB := n0_; have BK447 := n1_; clear n0_ n1_ hv; clear hb hbox hg) | ((with_reducible refine gate_dst (N := 4) rfl ?_); refine bE 4 #[.int .i64 a1_0, .int .i64 a1_1, .int .i64 a1_2] 25 ?_; intro gb448 hg w32 hbox hb; have hp0 := pA BK447 hb; have hv := vK HB hb; have n1_ := Am (bT hv hb); have n2_ := Am (hbox); have GE448 := kG hg hv; have hp1 := pK BK447 hb; obtain ⟨NB447_448, NB448_447⟩ := kXY hg hp1 BK447; clear HB; replace BK447 := hp0 BK447; have HB := n1_; have BK448 := n2_; clear n1_ n2_ hp0 hp1 hv; clear hb hbox hg) | ((with_reducible refine gate_dst (N := 5) rfl ?_); refine bE 5 #[.int .i64 a2_0, .int .i64 a2_1] 23 ?_; intro gb449 hg w33 hbox hb; have hp0 := pA BK447 hb; have hv := vK HB hb; have n2_ := Am (bT hv hb); have n3_ := Am (hbox); have GE449 := kG hg hv; have hp1 := pK BK447 hb; obtain ⟨NB447_449, NB449_447⟩ := kXY hg hp1 BK447; obtain ⟨NB448_449, NB449_448⟩ := kXY hg hp1 BK448; clear HB; replace BK447 := hp0 BK447; replace BK448 := hp0 BK448; have HB := n2_; have BK449 := n3_; clear n2_ n3_ hp0 hp1 hv; clear hb hbox hg) | ((with_reducible refine gate_dst (N := 6) rfl ?_); refine bE 6 #[.int .i64 0, .int .i64 0] 23 ?_; intro gb450 hg w34 hbox hb; have hp0 := pA BK447 hb; have hv := vK HB hb; have n3_ := Am (bT hv hb); have n4_ := Am (hbox); have GE450 := kG hg hv; have hp1 := pK BK447 hb; obtain ⟨NB447_450, NB450_447⟩ := kXY hg hp1 BK447; obtain ⟨NB448_450, NB450_448⟩ := kXY hg hp1 BK448; obtain ⟨NB449_450, NB450_449⟩ := kXY hg hp1 BK449; clear HB; replace BK447 := hp0 BK447; replace BK448 := hp0 BK448; replace BK449 := hp0 BK449; have HB := n3_; have BK450 := n4_; clear n3_ n4_ hp0 hp1 hv; clear hb hbox hg; have nq35 := kO NB447_448; have nq36 := kO NB447_449; have nq37 := kO NB447_450; have zq38 := c3 BK447; have nq39 := kO NB448_449; have nq40 := kO NB448_450; have zq41 := c3 BK448) | ((with_reducible refine gate_callee (f := 4) rfl ?_); refine gL (some 14) Try.func4 #[.agg #[.int .i64 a0_0, .int .i64 a0_1, .int .i64 a0_2], .agg #[.int .i64 a1_0, .int .i64 a1_1, .int .i64 a1_2]] rfl ?_; (with_reducible refine (impl_MeetTimes.calls k a0_0 a0_1 a0_2 a1_0 a1_1 a1_2 t451 true _ A4.out).mono ?_); rintro e w42 ⟨v452, rfl, ho0, hb⟩; refine ⟨_, rfl, ?_⟩; have n0_ := Am (Kd.R_lower (Kd.R_newB (Kd.R_newB ho0 (g := gb449) (o := .cells #[.int .i64 a2_0, .int .i64 a2_1] 23 (0, 0)) (kU BK449)) (g := gb450) (o := .cells #[.int .i64 0, .int .i64 0] 23 (0, 0)) (kU BK450)) (bZ (by repeat (first | (with_reducible first | exact HB.out | apply bA | apply bN | apply bD | refine bX ?_ (by assumption)) | exact HB.out)))); have hp0 := pA BK447 hb; have hv := vK HB hb; have n5_ := Am (bT hv hb); clear HB; have HO453 := n0_; replace BK447 := hp0 BK447; replace BK448 := hp0 BK448; replace BK449 := hp0 BK449; replace BK450 := hp0 BK450; have HB := n5_; clear n0_ n5_ hp0 hv; (try clear hb); (try clear ho0); have nq43 := kO NB449_450; have zq44 := c2 BK449) | (go_at_call 35; (with_reducible refine (impl_IsTurn.calls k a2_0 a2_1 false _ A6.out).mono ?_); rintro e w45 ⟨rfl, hb⟩; have n0_ := Am (Kd.R_below (kW HO453) hb); have hp0 := pA BK447 hb; have hv := vK HB hb; have n5_ := Am (bT hv hb); clear HO453; clear HB; have HO453 := n0_; replace BK447 := hp0 BK447; replace BK448 := hp0 BK448; replace BK449 := hp0 BK449; replace BK450 := hp0 BK450; have HB := n5_; clear n0_ n5_ hp0 hv; (try clear hb); have zq46 := c2 BK450))
   refine bodyPost_ret (results_ct rfl _ _ gb450 23 #[.int .i64 0, .int .i64 0] (0, 0) _ rfl (by (with_reducible repeat (first | refine kN ?_ _ | refine kD ?_ | refine kA ?_ _)); refine kP (cs := #[.int .i64 0, .int .i64 0]) ?_ 1 _ rfl; (with_reducible repeat (first | refine kN ?_ _ | refine kD ?_ | refine kA ?_ _)); refine kP (cs := #[.int .i64 0, .int .i64 0]) ?_ 0 _ rfl; (with_reducible repeat (first | refine kN ?_ _ | refine kD ?_ | refine kA ?_ _)); exact BK450.out) Try.underlying23 rfl (by kernel_rfl)) rfl ?_
   exact ⟨by first | rfl | (simp [errW_none, errW_some] <;> rfl) | (simp [*, errW_none, errW_some] <;> rfl), by repeat (first | (with_reducible first | exact HB.out | apply bA | apply bN | apply bD | refine bX ?_ (by assumption)) | exact HB.out)⟩
 replace c5 := Bool.eq_false_iff.mpr c5
 subst c5
 have H1 : (some (0, 0, false)) = some (r1, r2, r3) := by rw [if_neg (show ¬ (false = true) by decide)] at H; exact H
 clear H
 have H := H1
 clear H1
 focus
  simp only [Option.some.injEq, Prod.mk.injEq] at H
  obtain ⟨rfl, rfl, rfl⟩ := H
  go_enter Try.func19, Try.ntmps19
  go_wp2_with (first | ((with_reducible refine gate_dst (N := 3) rfl ?_); refine bE 3 #[.int .i64 a0_0, .int .i64 a0_1, .int .i64 a0_2] 25 ?_; intro gb447 hg w47 hbox hb; have hv := vK HB hb; have n0_ := Am (bT hv hb); have n1_ := Am (hbox); have GE447 := kG hg hv; clear HB; have HB := n0_; have BK447 := n1_; clear n0_ n1_ hv; clear hb hbox hg) | ((with_reducible refine gate_dst (N := 4) rfl ?_); refine bE 4 #[.int .i64 a1_0, .int .i64 a1_1, .int .i64 a1_2] 25 ?_; intro gb448 hg w48 hbox hb; have hp0 := pA BK447 hb; have hv := vK HB hb; have n1_ := Am (bT hv hb); have n2_ := Am (hbox); have GE448 := kG hg hv; have hp1 := pK BK447 hb; obtain ⟨NB447_448, NB448_447⟩ := kXY hg hp1 BK447; clear HB; replace BK447 := hp0 BK447; have HB := n1_; have BK448 := n2_; clear n1_ n2_ hp0 hp1 hv; clear hb hbox hg) | ((with_reducible refine gate_dst (N := 5) rfl ?_); refine bE 5 #[.int .i64 a2_0, .int .i64 a2_1] 23 ?_; intro gb449 hg w49 hbox hb; have hp0 := pA BK447 hb; have hv := vK HB hb; have n2_ := Am (bT hv hb); have n3_ := Am (hbox); have GE449 := kG hg hv; have hp1 := pK BK447 hb; obtain ⟨NB447_449, NB449_447⟩ := kXY hg hp1 BK447; obtain ⟨NB448_449, NB449_448⟩ := kXY hg hp1 BK448; clear HB; replace BK447 := hp0 BK447; replace BK448 := hp0 BK448; have HB := n2_; have BK449 := n3_; clear n2_ n3_ hp0 hp1 hv; clear hb hbox hg) | ((with_reducible refine gate_dst (N := 6) rfl ?_); refine bE 6 #[.int .i64 0, .int .i64 0] 23 ?_; intro gb450 hg w50 hbox hb; have hp0 := pA BK447 hb; have hv := vK HB hb; have n3_ := Am (bT hv hb); have n4_ := Am (hbox); have GE450 := kG hg hv; have hp1 := pK BK447 hb; obtain ⟨NB447_450, NB450_447⟩ := kXY hg hp1 BK447; obtain ⟨NB448_450, NB450_448⟩ := kXY hg hp1 BK448; obtain ⟨NB449_450, NB450_449⟩ := kXY hg hp1 BK449; clear HB; replace BK447 := hp0 BK447; replace BK448 := hp0 BK448; replace BK449 := hp0 BK449; have HB := n3_; have BK450 := n4_; clear n3_ n4_ hp0 hp1 hv; clear hb hbox hg; have nq51 := kO NB447_448; have nq52 := kO NB447_449; have nq53 := kO NB447_450; have zq54 := c3 BK447; have nq55 := kO NB448_449; have nq56 := kO NB448_450; have zq57 := c3 BK448) | ((with_reducible refine gate_callee (f := 4) rfl ?_); refine gL (some 14) Try.func4 #[.agg #[.int .i64 a0_0, .int .i64 a0_1, .int .i64 a0_2], .agg #[.int .i64 a1_0, .int .i64 a1_1, .int .i64 a1_2]] rfl ?_; (with_reducible refine (impl_MeetTimes.calls k a0_0 a0_1 a0_2 a1_0 a1_1 a1_2 t451 false _ A4.out).mono ?_); rintro e w58 ⟨v452, rfl, ho0, hb⟩; refine ⟨_, rfl, ?_⟩; have n0_ := Am (Kd.R_lower (Kd.R_newB (Kd.R_newB ho0 (g := gb449) (o := .cells #[.int .i64 a2_0, .int .i64 a2_1] 23 (0, 0)) (kU BK449)) (g := gb450) (o := .cells #[.int .i64 0, .int .i64 0] 23 (0, 0)) (kU BK450)) (bZ (by repeat (first | (with_reducible first | exact HB.out | apply bA | apply bN | apply bD | refine bX ?_ (by assumption)) | exact HB.out)))); have hp0 := pA BK447 hb; have hv := vK HB hb; have n5_ := Am (bT hv hb); clear HB; have HO453 := n0_; replace BK447 := hp0 BK447; replace BK448 := hp0 BK448; replace BK449 := hp0 BK449; replace BK450 := hp0 BK450; have HB := n5_; clear n0_ n5_ hp0 hv; (try clear hb); (try clear ho0); have nq59 := kO NB450_449; have zq60 := c2 BK450))
  refine bodyPost_ret (results_ct rfl _ _ gb450 23 #[.int .i64 0, .int .i64 0] (0, 0) _ rfl (by (with_reducible repeat (first | refine kN ?_ _ | refine kD ?_ | refine kA ?_ _)); refine kP (cs := #[.int .i64 0, .int .i64 0]) ?_ 1 _ rfl; (with_reducible repeat (first | refine kN ?_ _ | refine kD ?_ | refine kA ?_ _)); refine kP (cs := #[.int .i64 0, .int .i64 0]) ?_ 0 _ rfl; (with_reducible repeat (first | refine kN ?_ _ | refine kD ?_ | refine kA ?_ _)); exact BK450.out) Try.underlying23 rfl (by kernel_rfl)) rfl ?_
  exact ⟨by first | rfl | (simp [errW_none, errW_some] <;> rfl) | (simp [*, errW_none, errW_some] <;> rfl), by repeat (first | (with_reducible first | exact HB.out | apply bA | apply bN | apply bD | refine bX ?_ (by assumption)) | exact HB.out)⟩
/-! ### spec_NextMeet: function 20 -/
mutual
def spec_NextMeet.j0 : Nat → List (S23) → Bool → Int → Int → Option (Int × Int × Bool)
 | 0, _, _, _, _ => none
 | k + 1, x8, x24, x461000, x461001 => if x24 = true then (some (0, 0, false)) else (spec_NextMeet.l0 k x8 x8 (x8.length : Int) 0 x461000 x461001)
def spec_NextMeet.l0 : Nat → List (S23) → List (S23) → Int → Int → Int → Int → Option (Int × Int × Bool)
 | 0, _, _, _, _, _, _ => none
 | k + 1, x8, x26, x27, x28, x461000, x461001 => if x28 < x27 then (if 0 ≤ x28 then (if x28 < (x26.length : Int) then ((spec_diCompare.f ((rd_T23 x26 x28).f0) ((rd_T23 x26 x28).f1) x461000 x461001).bind fun t469 => (if t469 > 0 then (some ((rd_T23 x26 x28).f0, (rd_T23 x26 x28).f1, true)) else (spec_NextMeet.l0 k x8 x26 x27 (wrap64 (x28 + 1)) x461000 x461001))) else (none)) else (none)) else (if 0 < (x8.length : Int) then (some ((rd_T23 x8 0).f0, (rd_T23 x8 0).f1, true)) else (none))
end
def spec_NextMeet.f (k : Nat) (a0_0 : Int) (a0_1 : Int) (a0_2 : Int) (a1_0 : Int) (a1_1 : Int) (a1_2 : Int) (a2_0 : Int) (a2_1 : Int) : Option (Int × Int × Bool) := (spec_MeetTimes.f k a0_0 a0_1 a0_2 a1_0 a1_1 a1_2).bind fun bt462 => (if bt462.2 = true then ((spec_diGood.f k a2_0 a2_1).bind fun t466 => (spec_NextMeet.j0 k bt462.1 (!t466) a2_0 a2_1)) else (spec_NextMeet.j0 k bt462.1 true a2_0 a2_1))
theorem spec_NextMeet.mono_l : ∀ k, (∀ y0 y1 y2 y3, LeO (spec_NextMeet.j0 k y0 y1 y2 y3) (spec_NextMeet.j0 (k + 1) y0 y1 y2 y3)) ∧ (∀ y0 y1 y2 y3 y4 y5, LeO (spec_NextMeet.l0 k y0 y1 y2 y3 y4 y5) (spec_NextMeet.l0 (k + 1) y0 y1 y2 y3 y4 y5))
 | 0 => ⟨fun _ _ _ _ r h => by simp [spec_NextMeet.j0] at h, fun _ _ _ _ _ _ r h => by simp [spec_NextMeet.l0] at h⟩
 | k + 1 => by
  obtain ⟨ih0, ih1⟩ := spec_NextMeet.mono_l k
  refine ⟨?_, ?_⟩
  ·intro y0 y1 y2 y3
   unfold spec_NextMeet.j0
   repeat' first
   | (with_reducible apply ih0)
   | (with_reducible apply ih1)
   | (with_reducible exact spec_MeetTimes.mono _ _ _ _ _ _ _)
   | (with_reducible exact spec_diGood.mono _ _ _)
   | (with_reducible exact LeO.refl _)
   | (with_reducible exact LeO.none _)
   | (with_reducible refine LeO.ite ?_ ?_)
   | (with_reducible refine LeO.bind ?_ (fun _ => ?_))
   | apply ih0
   | apply ih1
   | exact spec_MeetTimes.mono _ _ _ _ _ _ _
   | exact spec_diGood.mono _ _ _
   | exact LeO.none _
   | refine LeO.ite ?_ ?_
   | refine LeO.bind ?_ (fun _ => ?_)
  ·intro y0 y1 y2 y3 y4 y5
   unfold spec_NextMeet.l0
   repeat' first
   | (with_reducible apply ih0)
   | (with_reducible apply ih1)
   | (with_reducible exact spec_MeetTimes.mono _ _ _ _ _ _ _)
   | (with_reducible exact spec_diGood.mono _ _ _)
   | (with_reducible exact LeO.refl _)
   | (with_reducible exact LeO.none _)
   | (with_reducible refine LeO.ite ?_ ?_)
   | (with_reducible refine LeO.bind ?_ (fun _ => ?_))
   | apply ih0
   | apply ih1
   | exact spec_MeetTimes.mono _ _ _ _ _ _ _
   | exact spec_diGood.mono _ _ _
   | exact LeO.none _
   | refine LeO.ite ?_ ?_
   | refine LeO.bind ?_ (fun _ => ?_)
theorem spec_NextMeet.mono : ∀ a0 a1 a2 a3 a4 a5 a6 a7 k, LeO (spec_NextMeet.f k a0 a1 a2 a3 a4 a5 a6 a7) (spec_NextMeet.f (k + 1) a0 a1 a2 a3 a4 a5 a6 a7) := by
 intro a0 a1 a2 a3 a4 a5 a6 a7 k
 obtain ⟨ih0, ih1⟩ := spec_NextMeet.mono_l k
 unfold spec_NextMeet.f
 repeat' first
   | (with_reducible apply ih0)
   | (with_reducible apply ih1)
   | (with_reducible exact spec_MeetTimes.mono _ _ _ _ _ _ _)
   | (with_reducible exact spec_diGood.mono _ _ _)
   | (with_reducible exact LeO.refl _)
   | (with_reducible exact LeO.none _)
   | (with_reducible refine LeO.ite ?_ ?_)
   | (with_reducible refine LeO.bind ?_ (fun _ => ?_))
   | apply ih0
   | apply ih1
   | exact spec_MeetTimes.mono _ _ _ _ _ _ _
   | exact spec_diGood.mono _ _ _
   | exact LeO.none _
   | refine LeO.ite ?_ ?_
   | refine LeO.bind ?_ (fun _ => ?_)
set_option maxHeartbeats 8000000 in
set_option maxRecDepth 100000 in
theorem spec_NextMeet.calls (k : Nat) (a0_0 : Int) (a0_1 : Int) (a0_2 : Int) (a1_0 : Int) (a1_1 : Int) (a1_2 : Int) (a2_0 : Int) (a2_1 : Int) (r1 : Int) (r2 : Int) (r3 : Bool) (w : World) (h : spec_NextMeet.f k a0_0 a0_1 a0_2 a1_0 a1_1 a1_2 a2_0 a2_1 = some (r1, r2, r3)) :
  Calls Try.prog 20 #[.agg #[.int .i64 a0_0, .int .i64 a0_1, .int .i64 a0_2], .agg #[.int .i64 a1_0, .int .i64 a1_1, .int .i64 a1_2], .agg #[.int .i64 a2_0, .int .i64 a2_1]] w fun e w' => e = .returned (.tuple #[.agg #[.int .i64 r1, .int .i64 r2], .bool r3]) ∧ Below w.heap.size w w' := by
 have hu25 := Try.underlying25; have hu23 := Try.underlying23
 have HB := Am (Below.refl w.heap.size w)
 have H : ((spec_MeetTimes.f k a0_0 a0_1 a0_2 a1_0 a1_1 a1_2).bind fun bt462 => (if bt462.2 = true then ((spec_diGood.f k a2_0 a2_1).bind fun t466 => (spec_NextMeet.j0 k bt462.1 (!t466) a2_0 a2_1)) else (spec_NextMeet.j0 k bt462.1 true a2_0 a2_1))) = some (r1, r2, r3) := h
 clear h
 replace H := Option.bind_eq_some_iff.mp H
 obtain ⟨⟨t462, t465⟩, A40, H⟩ := H
 try dsimp only at H
 have A4 := Am A40
 clear A40
 have HC5 := Am H
 clear H
 go_enter Try.func20, Try.ntmps20
 go_upto_region 2 with (first | ((with_reducible refine gate_dst (N := 3) rfl ?_); refine bE 3 #[.int .i64 a0_0, .int .i64 a0_1, .int .i64 a0_2] 25 ?_; intro gb458 hg w6 hbox hb; have hv := vK HB hb; have n0_ := Am (bT hv hb); have n1_ := Am (hbox); have GE458 := kG hg hv; clear HB; have HB := n0_; have BK458 := n1_; clear n0_ n1_ hv; clear hb hbox hg) | ((with_reducible refine gate_dst (N := 4) rfl ?_); refine bE 4 #[.int .i64 a1_0, .int .i64 a1_1, .int .i64 a1_2] 25 ?_; intro gb459 hg w7 hbox hb; have hp0 := pA BK458 hb; have hv := vK HB hb; have n1_ := Am (bT hv hb); have n2_ := Am (hbox); have GE459 := kG hg hv; have hp1 := pK BK458 hb; obtain ⟨NB458_459, NB459_458⟩ := kXY hg hp1 BK458; clear HB; replace BK458 := hp0 BK458; have HB := n1_; have BK459 := n2_; clear n1_ n2_ hp0 hp1 hv; clear hb hbox hg) | ((with_reducible refine gate_dst (N := 5) rfl ?_); refine bE 5 #[.int .i64 a2_0, .int .i64 a2_1] 23 ?_; intro gb460 hg w8 hbox hb; have hp0 := pA BK458 hb; have hv := vK HB hb; have n2_ := Am (bT hv hb); have n3_ := Am (hbox); have GE460 := kG hg hv; have hp1 := pK BK458 hb; obtain ⟨NB458_460, NB460_458⟩ := kXY hg hp1 BK458; obtain ⟨NB459_460, NB460_459⟩ := kXY hg hp1 BK459; clear HB; replace BK458 := hp0 BK458; replace BK459 := hp0 BK459; have HB := n2_; have BK460 := n3_; clear n2_ n3_ hp0 hp1 hv; clear hb hbox hg) | ((with_reducible refine gate_dst (N := 6) rfl ?_); refine bE 6 #[.int .i64 0, .int .i64 0] 23 ?_; intro gb461 hg w9 hbox hb; have hp0 := pA BK458 hb; have hv := vK HB hb; have n3_ := Am (bT hv hb); have n4_ := Am (hbox); have GE461 := kG hg hv; have hp1 := pK BK458 hb; obtain ⟨NB458_461, NB461_458⟩ := kXY hg hp1 BK458; obtain ⟨NB459_461, NB461_459⟩ := kXY hg hp1 BK459; obtain ⟨NB460_461, NB461_460⟩ := kXY hg hp1 BK460; clear HB; replace BK458 := hp0 BK458; replace BK459 := hp0 BK459; replace BK460 := hp0 BK460; have HB := n3_; have BK461 := n4_; clear n3_ n4_ hp0 hp1 hv; clear hb hbox hg; have nq10 := kO NB458_459; have nq11 := kO NB458_460; have nq12 := kO NB458_461; have zq13 := c3 BK458; have nq14 := kO NB459_460; have nq15 := kO NB459_461; have zq16 := c3 BK459) | ((with_reducible refine gate_callee (f := 5) rfl ?_); refine gL (some 15) Try.func5 #[.agg #[.int .i64 a0_0, .int .i64 a0_1, .int .i64 a0_2], .agg #[.int .i64 a1_0, .int .i64 a1_1, .int .i64 a1_2]] rfl ?_; (with_reducible refine (spec_MeetTimes.calls k a0_0 a0_1 a0_2 a1_0 a1_1 a1_2 t462 t465 _ A4.out).mono ?_); rintro e w17 ⟨v463, rfl, ho0, hb⟩; refine ⟨_, rfl, ?_⟩; have n0_ := Am (Kd.R_lower (Kd.R_newB (Kd.R_newB ho0 (g := gb460) (o := .cells #[.int .i64 a2_0, .int .i64 a2_1] 23 (0, 0)) (kU BK460)) (g := gb461) (o := .cells #[.int .i64 0, .int .i64 0] 23 (0, 0)) (kU BK461)) (bZ (by repeat (first | (with_reducible first | exact HB.out | apply bA | apply bN | apply bD | refine bX ?_ (by assumption)) | exact HB.out)))); have hp0 := pA BK458 hb; have hv := vK HB hb; have n5_ := Am (bT hv hb); clear HB; have HO464 := n0_; replace BK458 := hp0 BK458; replace BK459 := hp0 BK459; replace BK460 := hp0 BK460; replace BK461 := hp0 BK461; have HB := n5_; clear n0_ n5_ hp0 hv; (try clear hb); (try clear ho0)))
 (try simp only [Act.put, List.setIfInBounds_toArray, List.set_cons_zero, List.set_cons_succ])
 go_cut [24] (fun v24 wc => ∃ (kq : Nat) (x24_4 : Bool), v24 = .bool x24_4 ∧ Aside0 (spec_NextMeet.j0 kq t462 x24_4 a2_0 a2_1 = some (r1, r2, r3)) ∧ Aside0 (kq ≤ k) ∧ Aside0 (Kd.R k23 23 wc w.heap.size (fun k_ => k_ ≠ gb460 ∧ k_ ≠ gb461) v463 t462) ∧ Aside0 (wc.heap[gb458]? = some (.cells #[.int .i64 a0_0, .int .i64 a0_1, .int .i64 a0_2] 25 (0, 0))) ∧ Aside0 (wc.heap[gb459]? = some (.cells #[.int .i64 a1_0, .int .i64 a1_1, .int .i64 a1_2] 25 (0, 0))) ∧ Aside0 (wc.heap[gb460]? = some (.cells #[.int .i64 a2_0, .int .i64 a2_1] 23 (0, 0))) ∧ Aside0 (wc.heap[gb461]? = some (.cells #[.int .i64 0, .int .i64 0] 23 (0, 0))) ∧ Aside0 (Below w.heap.size w wc))
 case first =>
  have H := HC5.out
  clear HC5
  by_cases c18 : t465 = true
  ·subst c18
   have H1 : ((spec_diGood.f k a2_0 a2_1).bind fun t466 => (spec_NextMeet.j0 k t462 (!t466) a2_0 a2_1)) = some (r1, r2, r3) := by rw [if_pos rfl] at H; exact H
   clear H
   have H := H1
   clear H1
   replace H := Option.bind_eq_some_iff.mp H
   obtain ⟨t466, A190, H⟩ := H
   try dsimp only at H
   have A19 := Am A190
   clear A190
   focus
    have H' := Am H
    clear H
    have nq20 := kO NB460_458; have nq21 := kO NB460_459; have nq22 := kO NB460_461
    have zq23 := c2 BK460
    go_wp2_with (first | (go_at_call 40; (with_reducible refine (spec_diGood.calls k a2_0 a2_1 t466 _ A19.out).mono ?_); rintro e w24 ⟨rfl, hb⟩; have n0_ := Am (Kd.R_below (kW HO464) hb); have hp0 := pA BK458 hb; have hv := vK HB hb; have n5_ := Am (bT hv hb); clear HO464; clear HB; have HO464 := n0_; replace BK458 := hp0 BK458; replace BK459 := hp0 BK459; replace BK460 := hp0 BK460; replace BK461 := hp0 BK461; have HB := n5_; clear n0_ n5_ hp0 hv; (try clear hb)))
    go_meet
    case rel =>
     refine ⟨_, (!t466), (by first | rfl | (simp; done) | (simp [*]; done)), H', ⟨by first | omega | exact Nat.le_refl _⟩, ⟨by (with_reducible repeat (first | apply Kd.R_alloc | apply Kd.R_drewN | apply Kd.R_drew)); exact Kd.R_mono HO464.out (fun _ hk => ⟨hk.1.2, hk.2⟩)⟩, ⟨?_⟩, ⟨?_⟩, ⟨?_⟩, ⟨?_⟩, ⟨by repeat (first | (with_reducible first | exact HB.out | apply bA | apply bN | apply bD | refine bX ?_ (by assumption)) | exact HB.out)⟩⟩
     all_goals ((with_reducible repeat (first | refine kN ?_ _ | refine kD ?_ | refine kA ?_ _)); exact Aside0.out (by assumption))
  replace c18 := Bool.eq_false_iff.mpr c18
  subst c18
  have H1 : (spec_NextMeet.j0 k t462 true a2_0 a2_1) = some (r1, r2, r3) := by rw [if_neg (show ¬ (false = true) by decide)] at H; exact H
  clear H
  have H := H1
  clear H1
  focus
   have H' := Am H
   clear H
   go_wp2
   go_meet
   case rel =>
    refine ⟨_, (true), (by first | rfl | (simp; done) | (simp [*]; done)), H', ⟨by first | omega | exact Nat.le_refl _⟩, ⟨by (with_reducible repeat (first | apply Kd.R_alloc | apply Kd.R_drewN | apply Kd.R_drew)); exact Kd.R_mono HO464.out (fun _ hk => ⟨hk.1.2, hk.2⟩)⟩, ⟨?_⟩, ⟨?_⟩, ⟨?_⟩, ⟨?_⟩, ⟨by repeat (first | (with_reducible first | exact HB.out | apply bA | apply bN | apply bD | refine bX ?_ (by assumption)) | exact HB.out)⟩⟩
    all_goals ((with_reducible repeat (first | refine kN ?_ _ | refine kD ?_ | refine kA ?_ _)); exact Aside0.out (by assumption))
 clear HC5
 (try clear zq13); (try clear zq16)
 obtain ⟨kq, x24_4, rfl, HA, HJ4, HO_8, BK458, BK459, BK460, BK461, HB⟩ := hcut
 cases kq with
 | zero => exact absurd HA.out (by simp [spec_NextMeet.j0])
 | succ kj4 =>
  have H := HA.out
  clear HA
  simp only [spec_NextMeet.j0] at H
  by_cases c25 : x24_4 = true
  ·subst c25
   have H1 : (some (0, 0, false)) = some (r1, r2, r3) := by rw [if_pos rfl] at H; exact H
   clear H
   have H := H1
   clear H1
   focus
    simp only [Option.some.injEq, Prod.mk.injEq] at H
    obtain ⟨rfl, rfl, rfl⟩ := H
    have nq26 := kO NB461_458; have nq27 := kO NB461_459; have nq28 := kO NB461_460
    have zq29 := c2 BK461
    go_wp2
    refine bodyPost_ret (results_ct rfl _ _ gb461 23 #[.int .i64 0, .int .i64 0] (0, 0) _ rfl (by (with_reducible repeat (first | refine kN ?_ _ | refine kD ?_ | refine kA ?_ _)); refine kP (cs := #[.int .i64 0, .int .i64 0]) ?_ 1 _ rfl; (with_reducible repeat (first | refine kN ?_ _ | refine kD ?_ | refine kA ?_ _)); refine kP (cs := #[.int .i64 0, .int .i64 0]) ?_ 0 _ rfl; (with_reducible repeat (first | refine kN ?_ _ | refine kD ?_ | refine kA ?_ _)); exact BK461.out) Try.underlying23 rfl (by kernel_rfl)) rfl ?_
    exact ⟨by first | rfl | (simp [errW_none, errW_some] <;> rfl) | (simp [*, errW_none, errW_some] <;> rfl), by repeat (first | (with_reducible first | exact HB.out | apply bA | apply bN | apply bD | refine bX ?_ (by assumption)) | exact HB.out)⟩
  replace c25 := Bool.eq_false_iff.mpr c25
  subst c25
  have H1 : (spec_NextMeet.l0 kj4 t462 t462 (t462.length : Int) 0 a2_0 a2_1) = some (r1, r2, r3) := by rw [if_neg (show ¬ (false = true) by decide)] at H; exact H
  clear H
  have H := H1
  clear H1
  have H' := Am H
  clear H
  obtain ⟨Ao30, co30, eo30⟩ := Kd.R_slice HO_8.out
  subst eo30
  go_wp2
  go_loopg [28] kj4 (fun kq v28 w' => ∃ (x28_2 : Int) (x462000_2 : Int) (x462001_2 : Int), v28 = .int .i64 x28_2 ∧ Aside0 (spec_NextMeet.l0 kq t462 t462 (t462.length : Int) x28_2 a2_0 a2_1 = some (r1, r2, r3)) ∧ Aside0 (kq ≤ kj4) ∧ Aside0 (Kd.R k23 23 w' w.heap.size (fun k_ => k_ ≠ gb460 ∧ k_ ≠ gb461) (.slice Ao30 t462.length co30) t462) ∧ Aside0 (Kd.R k23 23 w' w.heap.size (fun k_ => k_ ≠ gb460 ∧ k_ ≠ gb461) (.slice Ao30 t462.length co30) t462) ∧ Aside0 (w'.heap[gb458]? = some (.cells #[.int .i64 a0_0, .int .i64 a0_1, .int .i64 a0_2] 25 (0, 0))) ∧ Aside0 (w'.heap[gb459]? = some (.cells #[.int .i64 a1_0, .int .i64 a1_1, .int .i64 a1_2] 25 (0, 0))) ∧ Aside0 (w'.heap[gb460]? = some (.cells #[.int .i64 a2_0, .int .i64 a2_1] 23 (0, 0))) ∧ Aside0 (w'.heap[gb461]? = some (.cells #[.int .i64 x462000_2, .int .i64 x462001_2] 23 (0, 0))) ∧ Aside0 (Below w.heap.size w w'))
  case atStart => exact ⟨(0), (0), (0), (by first | rfl | (simp; done) | (simp [*]; done)), H', ⟨Nat.le_refl _⟩, ⟨kW HO_8⟩, ⟨kW HO_8⟩, kV BK458, kV BK459, kV BK460, kV BK461, ⟨by repeat (first | (with_reducible first | exact HB.out | apply bA | apply bN | apply bD | refine bX ?_ (by assumption)) | exact HB.out)⟩⟩
  case round =>
   clear H'
   (try clear c25); (try clear zq13); (try clear zq16)
   obtain ⟨x28_2, x462000_2, x462001_2, rfl, HA, HK2, HO_8, HO_26, BK458, BK459, BK460, BK461, HB⟩ := hrel
   cases gk with
   | zero => exact absurd HA.out (by simp [spec_NextMeet.l0])
   | succ k2 =>
    have H := HA.out
    clear HA
    simp only [spec_NextMeet.l0] at H
    by_cases c31 : x28_2 < (t462.length : Int)
    ·rw [if_pos c31] at H
     have c31b0 : decide (x28_2 < (t462.length : Int)) = true := decide_eq_true c31
     clear c31
     by_cases c32 : 0 ≤ x28_2
     ·rw [if_pos c32] at H
      have c32b0 : decide (0 ≤ x28_2) = true := decide_eq_true c32
      clear c32
      by_cases c33 : x28_2 < (t462.length : Int)
      ·rw [if_pos c33] at H
       have c33b0 : decide (x28_2 < (t462.length : Int)) = true := decide_eq_true c33
       clear c33
       replace H := Option.bind_eq_some_iff.mp H
       obtain ⟨t469, A340, H⟩ := H
       try dsimp only at H
       have A34 := Am A340
       clear A340
       by_cases c35 : t469 > 0
       ·rw [if_pos c35] at H
        have c35b0 : decide (0 < t469) = true := decide_eq_true c35
        clear c35
        focus
         simp only [Option.some.injEq, Prod.mk.injEq] at H
         obtain ⟨rfl, rfl, rfl⟩ := H
         have p467 : 0 ≤ (x28_2 : Int) := of_decide_eq_true (by first | (with_reducible assumption) | assumption)
         have q467 : x28_2 < (t462.length : Int) := of_decide_eq_true (by first | (with_reducible assumption) | assumption)
         obtain ⟨ad467, e467, hx467_0, hx467_1⟩ := at_T23 (Kd.R_reads' HO_26.out).2.2 x28_2 p467 q467
         cases e467
         replace p467 := eq_true p467
         replace q467 := eq_true q467
         go_wp2_with (first | ((with_reducible refine gate_dst (N := 11) rfl ?_); refine bE 11 #[.int .i64 0, .int .i64 0] 23 ?_; intro gb468 hg w36 hbox hb; have n0_ := Am (Kd.R_below (Kd.R_elderB (kW HO_8) gb468 (Nat.le_of_eq hg.symm)) hb); have n1_ := Am (Kd.R_below (Kd.R_elderB (kW HO_26) gb468 (Nat.le_of_eq hg.symm)) hb); have hp0 := pA BK458 hb; have hv := vK HB hb; have n6_ := Am (bT hv hb); have n7_ := Am (hbox); have GE468 := kG hg hv; have hp1 := pK BK458 hb; obtain ⟨NB458_468, NB468_458⟩ := kXY hg hp1 BK458; obtain ⟨NB459_468, NB468_459⟩ := kXY hg hp1 BK459; obtain ⟨NB460_468, NB468_460⟩ := kXY hg hp1 BK460; obtain ⟨NB461_468, NB468_461⟩ := kXY hg hp1 BK461; clear HO_8; clear HO_26; clear HB; have HO_8 := n0_; have HO_26 := n1_; replace BK458 := hp0 BK458; replace BK459 := hp0 BK459; replace BK460 := hp0 BK460; replace BK461 := hp0 BK461; have HB := n6_; have BK468 := n7_; clear n0_ n1_ n6_ n7_ hp0 hp1 hv; clear hb hbox hg; have nq37 := kO NB468_458; have nq38 := kO NB468_459; have nq39 := kO NB468_460; have nq40 := kO NB468_461; have zq41 := c2 BK468; have nq42 := kO NB460_458; have nq43 := kO NB460_459; have nq44 := kO NB460_461; have zq45 := c2 BK460) | ((with_reducible refine gate_callee (f := 41) rfl ?_); refine gL (some 34) Try.func41 #[.agg #[.int .i64 ((rd_T23 t462 x28_2).f0), .int .i64 ((rd_T23 t462 x28_2).f1)], .agg #[.int .i64 a2_0, .int .i64 a2_1]] rfl ?_; (with_reducible refine (spec_diCompare.calls ((rd_T23 t462 x28_2).f0) ((rd_T23 t462 x28_2).f1) a2_0 a2_1 t469 _ A34.out).mono ?_); rintro e w46 ⟨rfl, hb⟩; refine ⟨_, rfl, ?_⟩; have n0_ := Am (Kd.R_below (by (with_reducible repeat (first | apply Kd.R_alloc | apply Kd.R_drewN | apply Kd.R_drew)); exact (Kd.R_mono (Kd.R_far (p := ⟨gb468, 1, none⟩) (Kd.R_far (p := ⟨gb468, 0, none⟩) (Kd.R_mono HO_8.out (fun k_ hk => (⟨hk, hk.2⟩ : _ ∧ k_ ≠ gb468))) (fun _ hk => hk.2) (.int .i64 ((rd_T23 t462 x28_2).f0))) (fun _ hk => hk.2) (.int .i64 ((rd_T23 t462 x28_2).f1))) (fun _ h_ => h_.1))) hb); have n1_ := Am (Kd.R_below (by (with_reducible repeat (first | apply Kd.R_alloc | apply Kd.R_drewN | apply Kd.R_drew)); exact (Kd.R_mono (Kd.R_far (p := ⟨gb468, 1, none⟩) (Kd.R_far (p := ⟨gb468, 0, none⟩) (Kd.R_mono HO_26.out (fun k_ hk => (⟨hk, hk.2⟩ : _ ∧ k_ ≠ gb468))) (fun _ hk => hk.2) (.int .i64 ((rd_T23 t462 x28_2).f0))) (fun _ hk => hk.2) (.int .i64 ((rd_T23 t462 x28_2).f1))) (fun _ h_ => h_.1))) hb); have hp0 := pB gb468 BK458 hb; have n6_ := Am (kB (g := gb468) (o := .cells #[.int .i64 ((rd_T23 t462 x28_2).f0), .int .i64 ((rd_T23 t462 x28_2).f1)] 23 (0, 0)) (by (with_reducible repeat (first | refine kN ?_ _ | refine kD ?_ | refine kA ?_ _)); refine kP (cs := #[.int .i64 ((rd_T23 t462 x28_2).f0), .int .i64 0]) ?_ 1 _ rfl; (with_reducible repeat (first | refine kN ?_ _ | refine kD ?_ | refine kA ?_ _)); refine kP (cs := #[.int .i64 0, .int .i64 0]) ?_ 0 _ rfl; (with_reducible repeat (first | refine kN ?_ _ | refine kD ?_ | refine kA ?_ _)); exact BK468.out) hb); have hv := vK HB hb; have n7_ := Am (bT hv hb); clear HO_8; clear HO_26; clear BK468; clear HB; have HO_8 := n0_; have HO_26 := n1_; replace BK458 := hp0 NB458_468 BK458; replace BK459 := hp0 NB459_468 BK459; replace BK460 := hp0 NB460_468 BK460; replace BK461 := hp0 NB461_468 BK461; have BK468 := n6_; have HB := n7_; clear n0_ n1_ n6_ n7_ hp0 hv; (try clear hb); (try clear hk); have zq47 := c2 BK468; have nq48 := kO NB461_458; have nq49 := kO NB461_459; have zq50 := c2 BK461))
         refine bodyPost_ret (results_ct rfl _ _ gb461 23 #[.int .i64 ((rd_T23 t462 x28_2).f0), .int .i64 ((rd_T23 t462 x28_2).f1)] (0, 0) _ rfl (by (with_reducible repeat (first | refine kN ?_ _ | refine kD ?_ | refine kA ?_ _)); refine kP (cs := #[.int .i64 ((rd_T23 t462 x28_2).f0), .int .i64 x462001_2]) ?_ 1 _ rfl; (with_reducible repeat (first | refine kN ?_ _ | refine kD ?_ | refine kA ?_ _)); refine kP (cs := #[.int .i64 x462000_2, .int .i64 x462001_2]) ?_ 0 _ rfl; (with_reducible repeat (first | refine kN ?_ _ | refine kD ?_ | refine kA ?_ _)); exact BK461.out) Try.underlying23 rfl (by kernel_rfl)) rfl ?_
         exact ⟨by first | rfl | (simp [errW_none, errW_some] <;> rfl) | (simp [*, errW_none, errW_some] <;> rfl), by repeat (first | (with_reducible first | exact HB.out | apply bA | apply bN | apply bD | refine bX ?_ (by assumption)) | exact HB.out)⟩
       rw [if_neg c35] at H
       have c35b0 : decide (0 < t469) = false := decide_eq_false c35
       clear c35
       focus
        have H' := Am H
        clear H
        have p467 : 0 ≤ (x28_2 : Int) := of_decide_eq_true (by first | (with_reducible assumption) | assumption)
        have q467 : x28_2 < (t462.length : Int) := of_decide_eq_true (by first | (with_reducible assumption) | assumption)
        obtain ⟨ad467, e467, hx467_0, hx467_1⟩ := at_T23 (Kd.R_reads' HO_26.out).2.2 x28_2 p467 q467
        cases e467
        replace p467 := eq_true p467
        replace q467 := eq_true q467
        go_wp2_with (first | ((with_reducible refine gate_dst (N := 11) rfl ?_); refine bE 11 #[.int .i64 0, .int .i64 0] 23 ?_; intro gb468 hg w51 hbox hb; have n0_ := Am (Kd.R_below (Kd.R_elderB (kW HO_8) gb468 (Nat.le_of_eq hg.symm)) hb); have n1_ := Am (Kd.R_below (Kd.R_elderB (kW HO_26) gb468 (Nat.le_of_eq hg.symm)) hb); have hp0 := pA BK458 hb; have hv := vK HB hb; have n6_ := Am (bT hv hb); have n7_ := Am (hbox); have GE468 := kG hg hv; have hp1 := pK BK458 hb; obtain ⟨NB458_468, NB468_458⟩ := kXY hg hp1 BK458; obtain ⟨NB459_468, NB468_459⟩ := kXY hg hp1 BK459; obtain ⟨NB460_468, NB468_460⟩ := kXY hg hp1 BK460; obtain ⟨NB461_468, NB468_461⟩ := kXY hg hp1 BK461; clear HO_8; clear HO_26; clear HB; have HO_8 := n0_; have HO_26 := n1_; replace BK458 := hp0 BK458; replace BK459 := hp0 BK459; replace BK460 := hp0 BK460; replace BK461 := hp0 BK461; have HB := n6_; have BK468 := n7_; clear n0_ n1_ n6_ n7_ hp0 hp1 hv; clear hb hbox hg; have nq52 := kO NB468_458; have nq53 := kO NB468_459; have nq54 := kO NB468_460; have nq55 := kO NB468_461; have zq56 := c2 BK468; have nq57 := kO NB460_458; have nq58 := kO NB460_459; have nq59 := kO NB460_461; have zq60 := c2 BK460) | ((with_reducible refine gate_callee (f := 41) rfl ?_); refine gL (some 34) Try.func41 #[.agg #[.int .i64 ((rd_T23 t462 x28_2).f0), .int .i64 ((rd_T23 t462 x28_2).f1)], .agg #[.int .i64 a2_0, .int .i64 a2_1]] rfl ?_; (with_reducible refine (spec_diCompare.calls ((rd_T23 t462 x28_2).f0) ((rd_T23 t462 x28_2).f1) a2_0 a2_1 t469 _ A34.out).mono ?_); rintro e w61 ⟨rfl, hb⟩; refine ⟨_, rfl, ?_⟩; have n0_ := Am (Kd.R_below (by (with_reducible repeat (first | apply Kd.R_alloc | apply Kd.R_drewN | apply Kd.R_drew)); exact (Kd.R_mono (Kd.R_far (p := ⟨gb468, 1, none⟩) (Kd.R_far (p := ⟨gb468, 0, none⟩) (Kd.R_mono HO_8.out (fun k_ hk => (⟨hk, hk.2⟩ : _ ∧ k_ ≠ gb468))) (fun _ hk => hk.2) (.int .i64 ((rd_T23 t462 x28_2).f0))) (fun _ hk => hk.2) (.int .i64 ((rd_T23 t462 x28_2).f1))) (fun _ h_ => h_.1))) hb); have n1_ := Am (Kd.R_below (by (with_reducible repeat (first | apply Kd.R_alloc | apply Kd.R_drewN | apply Kd.R_drew)); exact (Kd.R_mono (Kd.R_far (p := ⟨gb468, 1, none⟩) (Kd.R_far (p := ⟨gb468, 0, none⟩) (Kd.R_mono HO_26.out (fun k_ hk => (⟨hk, hk.2⟩ : _ ∧ k_ ≠ gb468))) (fun _ hk => hk.2) (.int .i64 ((rd_T23 t462 x28_2).f0))) (fun _ hk => hk.2) (.int .i64 ((rd_T23 t462 x28_2).f1))) (fun _ h_ => h_.1))) hb); have hp0 := pB gb468 BK458 hb; have n6_ := Am (kB (g := gb468) (o := .cells #[.int .i64 ((rd_T23 t462 x28_2).f0), .int .i64 ((rd_T23 t462 x28_2).f1)] 23 (0, 0)) (by (with_reducible repeat (first | refine kN ?_ _ | refine kD ?_ | refine kA ?_ _)); refine kP (cs := #[.int .i64 ((rd_T23 t462 x28_2).f0), .int .i64 0]) ?_ 1 _ rfl; (with_reducible repeat (first | refine kN ?_ _ | refine kD ?_ | refine kA ?_ _)); refine kP (cs := #[.int .i64 0, .int .i64 0]) ?_ 0 _ rfl; (with_reducible repeat (first | refine kN ?_ _ | refine kD ?_ | refine kA ?_ _)); exact BK468.out) hb); have hv := vK HB hb; have n7_ := Am (bT hv hb); clear HO_8; clear HO_26; clear BK468; clear HB; have HO_8 := n0_; have HO_26 := n1_; replace BK458 := hp0 NB458_468 BK458; replace BK459 := hp0 NB459_468 BK459; replace BK460 := hp0 NB460_468 BK460; replace BK461 := hp0 NB461_468 BK461; have BK468 := n6_; have HB := n7_; clear n0_ n1_ n6_ n7_ hp0 hv; (try clear hb); (try clear hk)))
        go_roundg k2
        case measure => have := HJ4.out; have := HK2.out; omega
        case rel =>
         refine ⟨(wrap64 (x28_2 + 1)), (x462000_2), (x462001_2), (by first | rfl | (simp; done) | (simp [*]; done)), H', ⟨by have := HJ4.out; have := HK2.out; omega⟩, ⟨by (with_reducible repeat (first | apply Kd.R_alloc | apply Kd.R_drewN | apply Kd.R_drew)); exact Kd.R_mono HO_8.out (fun _ hk => ⟨hk.1.1, hk.1.2⟩)⟩, ⟨by (with_reducible repeat (first | apply Kd.R_alloc | apply Kd.R_drewN | apply Kd.R_drew)); exact Kd.R_mono HO_26.out (fun _ hk => ⟨hk.1.1, hk.1.2⟩)⟩, ⟨?_⟩, ⟨?_⟩, ⟨?_⟩, ⟨?_⟩, ⟨by repeat (first | (with_reducible first | exact HB.out | apply bA | apply bN | apply bD | refine bX ?_ (by assumption)) | exact HB.out)⟩⟩
         all_goals ((with_reducible repeat (first | refine kN ?_ _ | refine kD ?_ | refine kA ?_ _)); exact Aside0.out (by assumption))
      rw [if_neg c33] at H
      exact absurd H (by simp)
     rw [if_neg c32] at H
     exact absurd H (by simp)
    rw [if_neg c31] at H
    have c31b0 : decide (x28_2 < (t462.length : Int)) = false := decide_eq_false c31
    clear c31
    by_cases c62 : 0 < (t462.length : Int)
    ·rw [if_pos c62] at H
     have c62b0 : decide (0 < (t462.length : Int)) = true := decide_eq_true c62
     have c62b1 : decide (0 < t462.length) = true := decide_eq_true (by omega)
     clear c62
     focus
      simp only [Option.some.injEq, Prod.mk.injEq] at H
      obtain ⟨rfl, rfl, rfl⟩ := H
      have p470 : 0 ≤ (0 : Int) := (by omega)
      have q470 : 0 < (t462.length : Int) := of_decide_eq_true (by first | (with_reducible assumption) | assumption)
      obtain ⟨ad470, e470, hx470_0, hx470_1⟩ := at_T23 (Kd.R_reads' HO_8.out).2.2 0 p470 q470
      cases e470
      have qi470 : (0 < t462.length) = True := eq_true (by omega)
      (try rw [show ((0 : Int)).toNat = 0 from rfl] at hx470_0)
      (try rw [show 0 * 2 = 0 from rfl] at hx470_0)
      (try rw [Addr.add_zero'] at hx470_0)
      (try rw [show ((0 : Int)).toNat = 0 from rfl] at hx470_1)
      (try rw [show 0 * 2 = 0 from rfl] at hx470_1)
      (try rw [Addr.add_zero'] at hx470_1)
      replace p470 := eq_true p470
      replace q470 := eq_true q470
      have nq63 := kO NB461_458; have nq64 := kO NB461_459; have nq65 := kO NB461_460
      have zq66 := c2 BK461
      go_wp2
      refine bodyPost_ret (results_ct rfl _ _ gb461 23 #[.int .i64 ((rd_T23 t462 0).f0), .int .i64 ((rd_T23 t462 0).f1)] (0, 0) _ rfl (by (with_reducible repeat (first | refine kN ?_ _ | refine kD ?_ | refine kA ?_ _)); refine kP (cs := #[.int .i64 ((rd_T23 t462 0).f0), .int .i64 x462001_2]) ?_ 1 _ rfl; (with_reducible repeat (first | refine kN ?_ _ | refine kD ?_ | refine kA ?_ _)); refine kP (cs := #[.int .i64 x462000_2, .int .i64 x462001_2]) ?_ 0 _ rfl; (with_reducible repeat (first | refine kN ?_ _ | refine kD ?_ | refine kA ?_ _)); exact BK461.out) Try.underlying23 rfl (by kernel_rfl)) rfl ?_
      exact ⟨by first | rfl | (simp [errW_none, errW_some] <;> rfl) | (simp [*, errW_none, errW_some] <;> rfl), by repeat (first | (with_reducible first | exact HB.out | apply bA | apply bN | apply bD | refine bX ?_ (by assumption)) | exact HB.out)⟩
    rw [if_neg c62] at H
    exact absurd H (by simp)
end Go.Proofs.Ytbgklddlcmgakaa.PFnHandsMeetOfAll
