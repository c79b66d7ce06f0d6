-- WRITTEN BY A PROGRAM OF THIS SESSION (wip/tools): its own text, not the kit's printed one.
import Derived.Test.YtchglfpiicaedaaGreatDoorItoa
import Derived.Shelf.Strconv.Itoa3
import Derived.Lib.SmallJoins
import Derived.Lib.LaidTab
import Derived.Shelf.Strconv.ErrVarAll
import Derived.Shelf.Strings.Search3
import Derived.Lib.IndexLaws
import Derived.Lib.AtoiErrMem
import Derived.Test.YtchglfpiicaedaaGreatDoorPFnHandsStandOfAllx0
import Derived.Test.YtchglfpiicaedaaGreatDoorPFnHandsStandOfAllx1
import Derived.Test.YtchglfpiicaedaaGreatDoorPFnHandsStandOfAllx2
import Derived.Test.YtchglfpiicaedaaGreatDoorPFnHandsStandOfAllx4
import Derived.Test.YtchglfpiicaedaaGreatDoorPFnHandsStandOfAllx5
namespace Go.Proofs.YtchglfpiicaedaaGreatDoor.PFnHandsStandOfAll
open Go.RowKit Go.Proofs.YtchglfpiicaedaaGreatDoorW.PrintWords Go.Proofs.YtchglfpiicaedaaGreatDoorW.PrintLast Go.Proofs.YtchglfpiicaedaaGreatDoorW.PrintMore
attribute [local go_sem] max2_int min2_int max_two min_two max_three min_three max_four min_four   -- for this text's walks alone
set_option linter.unusedVariables false
set_option linter.unusedSimpArgs false

attribute [local go_sem high] eqA23
/-! ### laws_wTurns: function 20 -/
def laws_wTurns.l0 : Nat → List (S23) → List (S23) → Int → Int → Option (Bool)
 | 0, _, _, _, _ => none
 | k + 1, x0, x1, x12, x13 => if x13 < x12 then (if 0 ≤ x13 then (if x13 < (x0.length : Int) then (if x13 < (x1.length : Int) then (if (!(((rd_T23 x0 x13).f0) == ((rd_T23 x1 x13).f0)) || (!(((rd_T23 x0 x13).f1) == ((rd_T23 x1 x13).f1)))) = true then (some false) else (laws_wTurns.l0 k x0 x1 x12 (wrap64 (x13 + 1)))) else (none)) else (none)) else (none)) else (some true)
def laws_wTurns.f (k : Nat) (l0 : List (S23)) (l1 : List (S23)) : Option (Bool) := if (l0.length : Int) = (l1.length : Int) then (laws_wTurns.l0 k l0 l1 (l0.length : Int) 0) else (some false)
theorem laws_wTurns.mono_l : ∀ k, (∀ y0 y1 y2 y3, LeO (laws_wTurns.l0 k y0 y1 y2 y3) (laws_wTurns.l0 (k + 1) y0 y1 y2 y3))
 | 0 => fun _ _ _ _ r h => by simp [laws_wTurns.l0] at h
 | k + 1 => by
  have ih0 := laws_wTurns.mono_l k
  ·intro y0 y1 y2 y3
   unfold laws_wTurns.l0
   repeat' first
   | (with_reducible apply ih0)
   | (with_reducible exact LeO.refl _)
   | (with_reducible exact LeO.none _)
   | (with_reducible refine LeO.ite ?_ ?_)
   | (with_reducible refine LeO.bind ?_ (fun _ => ?_))
   | apply ih0
   | exact LeO.none _
   | refine LeO.ite ?_ ?_
   | refine LeO.bind ?_ (fun _ => ?_)
theorem laws_wTurns.mono : ∀ a0 a1 k, LeO (laws_wTurns.f k a0 a1) (laws_wTurns.f (k + 1) a0 a1) := by
 intro a0 a1 k
 have ih0 := laws_wTurns.mono_l k
 unfold laws_wTurns.f
 repeat' first
   | (with_reducible apply ih0)
   | (with_reducible exact LeO.refl _)
   | (with_reducible exact LeO.none _)
   | (with_reducible refine LeO.ite ?_ ?_)
   | (with_reducible refine LeO.bind ?_ (fun _ => ?_))
   | apply ih0
   | exact LeO.none _
   | refine LeO.ite ?_ ?_
   | refine LeO.bind ?_ (fun _ => ?_)
set_option maxHeartbeats 8000000 in
set_option maxRecDepth 100000 in
theorem laws_wTurns.calls (k : Nat) (A0 : Option Addr) (c0 : Nat) (l0 : List (S23)) (A1 : Option Addr) (c1 : Nat) (l1 : List (S23)) (r : Bool) (w : World) (hr0 : Kd.C k23 w A0 l0.length l0) (hc0 : l0.length ≤ c0) (hr1 : Kd.C k23 w A1 l1.length l1) (hc1 : l1.length ≤ c1) (h : laws_wTurns.f k l0 l1 = some r) :
  Calls Tryz.prog 20 #[.slice A0 l0.length c0, .slice A1 l1.length c1] w fun e w' => e = .returned (.bool r) ∧ Drawn0 w w' := by
 have hu23 := Tryz.underlying23
 have HR0 := Am hr0
 have HC0 := Am hc0
 clear hr0 hc0
 have HR1 := Am hr1
 have HC1 := Am hc1
 clear hr1 hc1
 have H : (if (l0.length : Int) = (l1.length : Int) then (laws_wTurns.l0 k l0 l1 (l0.length : Int) 0) else (some false)) = some r := h
 clear h
 by_cases c3 : (l0.length : Int) = (l1.length : Int)
 ·rw [if_pos c3] at H
  have c3b0 : ((l0.length : Int) == (l1.length : Int)) = true := beq_iff_eq.mpr c3
  have c3b1 : ((l0.length : Int) != (l1.length : Int)) = false := bne_eq_false_iff_eq.mpr c3
  have c3b2 : (l0.length == l1.length) = true := by first | simpa using c3 | (simp at c3 ⊢; omega)
  clear c3
  have H' := Am H
  clear H
  go_enter Tryz.func20, Tryz.ntmps20
  go_wp2
  repeat (go_quiet (fail); try go_wp2)
  go_loopg [13] k (fun kq v13 w' => ∃ (x13_1 : Int), v13 = .int .i64 x13_1 ∧ Aside0 (laws_wTurns.l0 kq l0 l1 (l0.length : Int) x13_1 = some r) ∧ Aside0 (kq ≤ k) ∧ Drawn0 w w')
  case atStart => exact ⟨(0), (by first | rfl | (simp; done) | (simp [*]; done)), H', ⟨Nat.le_refl _⟩, by repeat (first | exact Drawn0.refl _ | apply Drawn0.step)⟩
  case round =>
   clear H'
   (try clear c1); (try clear c3); (try clear c3b0); (try clear c3b1); (try clear c3b2)
   obtain ⟨x13_1, rfl, HA, HK1, ⟨m1, rfl⟩⟩ := hrel
   cases gk with
   | zero => exact absurd HA.out (by simp [laws_wTurns.l0])
   | succ k1 =>
    have H := HA.out
    clear HA
    simp only [laws_wTurns.l0] at H
    by_cases c4 : x13_1 < (l0.length : Int)
    ·rw [if_pos c4] at H
     have c4b0 : decide (x13_1 < (l0.length : Int)) = true := decide_eq_true c4
     clear c4
     by_cases c5 : 0 ≤ x13_1
     ·rw [if_pos c5] at H
      have c5b0 : decide (0 ≤ x13_1) = true := decide_eq_true c5
      clear c5
      by_cases c6 : x13_1 < (l0.length : Int)
      ·rw [if_pos c6] at H
       have c6b0 : decide (x13_1 < (l0.length : Int)) = true := decide_eq_true c6
       clear c6
       by_cases c7 : x13_1 < (l1.length : Int)
       ·rw [if_pos c7] at H
        have c7b0 : decide (x13_1 < (l1.length : Int)) = true := decide_eq_true c7
        clear c7
        by_cases c8 : (!(((rd_T23 l0 x13_1).f0) == ((rd_T23 l1 x13_1).f0)) || (!(((rd_T23 l0 x13_1).f1) == ((rd_T23 l1 x13_1).f1)))) = true
        ·rw [if_pos c8] at H
         have c8b0 : (!(((rd_T23 l0 x13_1).f0) == ((rd_T23 l1 x13_1).f0)) || (!(((rd_T23 l0 x13_1).f1) == ((rd_T23 l1 x13_1).f1)))) = true := c8
         clear c8
         focus
          obtain rfl := Option.some.inj H
          have p295 : 0 ≤ (x13_1 : Int) := of_decide_eq_true (by first | (with_reducible assumption) | assumption)
          have q295 : x13_1 < (l0.length : Int) := of_decide_eq_true (by first | (with_reducible assumption) | assumption)
          obtain ⟨ad295, e295, hx295_0, hx295_1⟩ := at_T23 HR0.out x13_1 p295 q295
          cases e295
          replace p295 := eq_true p295
          replace q295 := eq_true q295
          have p296 : 0 ≤ (x13_1 : Int) := of_decide_eq_true (by first | (with_reducible assumption) | assumption)
          have q296 : x13_1 < (l1.length : Int) := of_decide_eq_true (by first | (with_reducible assumption) | assumption)
          obtain ⟨ad296, e296, hx296_0, hx296_1⟩ := at_T23 HR1.out x13_1 p296 q296
          cases e296
          replace p296 := eq_true p296
          replace q296 := eq_true q296
          go_wp2
          repeat (go_quiet (fail); try go_wp2)
          go_ret
          exact ⟨by first | rfl | (simp; done) | (simp [*]; done), by repeat (first | exact Drawn0.refl _ | apply Drawn0.step)⟩
        rw [if_neg c8] at H
        have c8b0 : (!(((rd_T23 l0 x13_1).f0) == ((rd_T23 l1 x13_1).f0)) || (!(((rd_T23 l0 x13_1).f1) == ((rd_T23 l1 x13_1).f1)))) = false := by simpa using c8
        clear c8
        focus
         have H' := Am H
         clear H
         have p295 : 0 ≤ (x13_1 : Int) := of_decide_eq_true (by first | (with_reducible assumption) | assumption)
         have q295 : x13_1 < (l0.length : Int) := of_decide_eq_true (by first | (with_reducible assumption) | assumption)
         obtain ⟨ad295, e295, hx295_0, hx295_1⟩ := at_T23 HR0.out x13_1 p295 q295
         cases e295
         replace p295 := eq_true p295
         replace q295 := eq_true q295
         have p296 : 0 ≤ (x13_1 : Int) := of_decide_eq_true (by first | (with_reducible assumption) | assumption)
         have q296 : x13_1 < (l1.length : Int) := of_decide_eq_true (by first | (with_reducible assumption) | assumption)
         obtain ⟨ad296, e296, hx296_0, hx296_1⟩ := at_T23 HR1.out x13_1 p296 q296
         cases e296
         replace p296 := eq_true p296
         replace q296 := eq_true q296
         go_wp2
         repeat (go_quiet (fail); try go_wp2)
         go_roundg k1
         case measure => have := HK1.out; omega
         case rel => exact ⟨(wrap64 (x13_1 + 1)), (by first | rfl | (simp; done) | (simp [*]; done)), H', ⟨by have := HK1.out; omega⟩, by repeat (first | exact Drawn0.refl _ | apply Drawn0.step)⟩
       rw [if_neg c7] at H
       exact absurd H (by simp)
      rw [if_neg c6] at H
      exact absurd H (by simp)
     rw [if_neg c5] at H
     exact absurd H (by simp)
    rw [if_neg c4] at H
    have c4b0 : decide (x13_1 < (l0.length : Int)) = false := decide_eq_false c4
    clear c4
    focus
     obtain rfl := Option.some.inj H
     go_wp2
     repeat (go_quiet (fail); try go_wp2)
     go_ret
     exact ⟨by first | rfl | (simp; done) | (simp [*]; done), by repeat (first | exact Drawn0.refl _ | apply Drawn0.step)⟩
 rw [if_neg c3] at H
 have c3b0 : ((l0.length : Int) == (l1.length : Int)) = false := beq_eq_false_iff_ne.mpr c3
 have c3b1 : ((l0.length : Int) != (l1.length : Int)) = true := bne_iff_ne.mpr c3
 have c3b2 : (l0.length == l1.length) = false := by first | simpa using c3 | (simp at c3 ⊢; omega)
 focus
  obtain rfl := Option.some.inj H
  go_enter Tryz.func20, Tryz.ntmps20
  go_wp2
  repeat (go_quiet (fail); try go_wp2)
  go_ret
  exact ⟨by first | rfl | (simp; done) | (simp [*]; done), by repeat (first | exact Drawn0.refl _ | apply Drawn0.step)⟩
/-! ### impl_ifTurn: function 44 -/
def impl_ifTurn.f (k : Nat) (a0_0 : Int) (a0_1 : Int) : Option (Int × Int × Bool) := (impl_IsTurn.f k a0_0 a0_1).bind fun t299 => (if t299 = true then (some (a0_0, a0_1, true)) else (some (0, 0, false)))
theorem impl_ifTurn.mono : ∀ a0 a1 k, LeO (impl_ifTurn.f k a0 a1) (impl_ifTurn.f (k + 1) a0 a1) := by
 intro a0 a1 k
 unfold impl_ifTurn.f
 repeat' first
   | (with_reducible exact impl_IsTurn.mono _ _ _)
   | (with_reducible exact LeO.refl _)
   | (with_reducible exact LeO.none _)
   | (with_reducible refine LeO.ite ?_ ?_)
   | (with_reducible refine LeO.bind ?_ (fun _ => ?_))
   | exact impl_IsTurn.mono _ _ _
   | exact LeO.none _
   | refine LeO.ite ?_ ?_
   | refine LeO.bind ?_ (fun _ => ?_)
set_option maxHeartbeats 8000000 in
set_option maxRecDepth 100000 in
theorem impl_ifTurn.calls (k : Nat) (a0_0 : Int) (a0_1 : Int) (r1 : Int) (r2 : Int) (r3 : Bool) (w : World) (h : impl_ifTurn.f k a0_0 a0_1 = some (r1, r2, r3)) :
  Calls Tryz.prog 44 #[.agg #[.int .i64 a0_0, .int .i64 a0_1]] w fun e w' => e = .returned (.tuple #[.agg #[.int .i64 r1, .int .i64 r2], .bool r3]) ∧ Below w.heap.size w w' := by
 have hu23 := Tryz.underlying23
 have HB := Am (Below.refl w.heap.size w)
 have H : ((impl_IsTurn.f k a0_0 a0_1).bind fun t299 => (if t299 = true then (some (a0_0, a0_1, true)) else (some (0, 0, false)))) = some (r1, r2, r3) := h
 clear h
 replace H := Option.bind_eq_some_iff.mp H
 obtain ⟨t299, A20, H⟩ := H
 try dsimp only at H
 have A2 := Am A20
 clear A20
 by_cases c3 : t299 = true
 ·subst c3
  have H1 : (some (a0_0, a0_1, true)) = some (r1, r2, r3) := by rw [if_pos rfl] at H; exact H
  clear H
  have H := H1
  clear H1
  focus
   simp only [Option.some.injEq, Prod.mk.injEq] at H
   obtain ⟨rfl, rfl, rfl⟩ := H
   go_enter Tryz.func44, Tryz.ntmps44
   go_wp2_with (first | ((with_reducible refine gate_dst (N := 1) rfl ?_); refine bE 1 #[.int .i64 a0_0, .int .i64 a0_1] 23 ?_; intro gb297 hg w4 hbox hb; have hv := vK HB hb; have n0_ := Am (bT hv hb); have n1_ := Am (hbox); have GE297 := kG hg hv; clear HB; have HB := n0_; have BK297 := n1_; clear n0_ n1_ hv; clear hb hbox hg) | ((with_reducible refine gate_dst (N := 2) rfl ?_); refine bE 2 #[.int .i64 0, .int .i64 0] 23 ?_; intro gb298 hg w5 hbox hb; have hp0 := pA BK297 hb; have hv := vK HB hb; have n1_ := Am (bT hv hb); have n2_ := Am (hbox); have GE298 := kG hg hv; have hp1 := pK BK297 hb; obtain ⟨NB297_298, NB298_297⟩ := kXY hg hp1 BK297; clear HB; replace BK297 := hp0 BK297; have HB := n1_; have BK298 := n2_; clear n1_ n2_ hp0 hp1 hv; clear hb hbox hg; have nq6 := kO NB297_298; have zq7 := zc2 BK297) | ((with_reducible refine gate_callee (f := 55) rfl ?_); refine gL (some 5) Tryz.func55 #[.agg #[.int .i64 a0_0, .int .i64 a0_1]] rfl ?_; (with_reducible refine (impl_IsTurn.calls k a0_0 a0_1 true _ A2.out).mono ?_); rintro e w8 ⟨rfl, hb⟩; refine ⟨_, rfl, ?_⟩; have hp0 := pA BK297 hb; have hv := vK HB hb; have n2_ := Am (bT hv hb); clear HB; replace BK297 := hp0 BK297; replace BK298 := hp0 BK298; have HB := n2_; clear n2_ hp0 hv; (try clear hb); have zq9 := zc2 BK297; have zq10 := zc2 BK298))
   refine bodyPost_ret (results_ct rfl _ _ gb298 23 #[.int .i64 a0_0, .int .i64 a0_1] (0, 0) _ rfl (by (with_reducible repeat (first | refine kN ?_ _ | refine kD ?_ | refine kA ?_ _)); refine kP (cs := #[.int .i64 a0_0, .int .i64 0]) ?_ 1 _ rfl; (with_reducible repeat (first | refine kN ?_ _ | refine kD ?_ | refine kA ?_ _)); refine kP (cs := #[.int .i64 0, .int .i64 0]) ?_ 0 _ rfl; (with_reducible repeat (first | refine kN ?_ _ | refine kD ?_ | refine kA ?_ _)); exact BK298.out) Tryz.underlying23 rfl (by kernel_rfl)) rfl ?_
   exact ⟨by first | rfl | (simp [errW_none, errW_some] <;> rfl) | (simp [*, errW_none, errW_some] <;> rfl), by repeat (first | (with_reducible first | exact HB.out | apply bA | apply bN | apply bD | refine bX ?_ (by assumption)) | exact HB.out)⟩
 replace c3 := Bool.eq_false_iff.mpr c3
 subst c3
 have H1 : (some (0, 0, false)) = some (r1, r2, r3) := by rw [if_neg (show ¬ (false = true) by decide)] at H; exact H
 clear H
 have H := H1
 clear H1
 focus
  simp only [Option.some.injEq, Prod.mk.injEq] at H
  obtain ⟨rfl, rfl, rfl⟩ := H
  go_enter Tryz.func44, Tryz.ntmps44
  go_wp2_with (first | ((with_reducible refine gate_dst (N := 1) rfl ?_); refine bE 1 #[.int .i64 a0_0, .int .i64 a0_1] 23 ?_; intro gb297 hg w11 hbox hb; have hv := vK HB hb; have n0_ := Am (bT hv hb); have n1_ := Am (hbox); have GE297 := kG hg hv; clear HB; have HB := n0_; have BK297 := n1_; clear n0_ n1_ hv; clear hb hbox hg) | ((with_reducible refine gate_dst (N := 2) rfl ?_); refine bE 2 #[.int .i64 0, .int .i64 0] 23 ?_; intro gb298 hg w12 hbox hb; have hp0 := pA BK297 hb; have hv := vK HB hb; have n1_ := Am (bT hv hb); have n2_ := Am (hbox); have GE298 := kG hg hv; have hp1 := pK BK297 hb; obtain ⟨NB297_298, NB298_297⟩ := kXY hg hp1 BK297; clear HB; replace BK297 := hp0 BK297; have HB := n1_; have BK298 := n2_; clear n1_ n2_ hp0 hp1 hv; clear hb hbox hg; have nq13 := kO NB297_298; have zq14 := zc2 BK297) | ((with_reducible refine gate_callee (f := 55) rfl ?_); refine gL (some 5) Tryz.func55 #[.agg #[.int .i64 a0_0, .int .i64 a0_1]] rfl ?_; (with_reducible refine (impl_IsTurn.calls k a0_0 a0_1 false _ A2.out).mono ?_); rintro e w15 ⟨rfl, hb⟩; refine ⟨_, rfl, ?_⟩; have hp0 := pA BK297 hb; have hv := vK HB hb; have n2_ := Am (bT hv hb); clear HB; replace BK297 := hp0 BK297; replace BK298 := hp0 BK298; have HB := n2_; clear n2_ hp0 hv; (try clear hb); have zq16 := zc2 BK298))
  refine bodyPost_ret (results_ct rfl _ _ gb298 23 #[.int .i64 0, .int .i64 0] (0, 0) _ rfl (by (with_reducible repeat (first | refine kN ?_ _ | refine kD ?_ | refine kA ?_ _)); refine kP (cs := #[.int .i64 0, .int .i64 0]) ?_ 1 _ rfl; (with_reducible repeat (first | refine kN ?_ _ | refine kD ?_ | refine kA ?_ _)); refine kP (cs := #[.int .i64 0, .int .i64 0]) ?_ 0 _ rfl; (with_reducible repeat (first | refine kN ?_ _ | refine kD ?_ | refine kA ?_ _)); exact BK298.out) Tryz.underlying23 rfl (by kernel_rfl)) rfl ?_
  exact ⟨by first | rfl | (simp [errW_none, errW_some] <;> rfl) | (simp [*, errW_none, errW_some] <;> rfl), by repeat (first | (with_reducible first | exact HB.out | apply bA | apply bN | apply bD | refine bX ?_ (by assumption)) | exact HB.out)⟩
/-! ### impl_Turn_plus: function 45 -/
def impl_Turn_plus.f (k : Nat) (a0_0 : Int) (a0_1 : Int) (a1_0 : Int) (a1_1 : Int) : Option (Int × Int) := (impl_part.f k (wrap64 ((wrap64 (a0_0 * a1_1)) + (wrap64 (a1_0 * a0_1)))) (wrap64 (a0_1 * a1_1))).bind fun bt303 => (some (bt303.1, bt303.2))
theorem impl_Turn_plus.mono : ∀ a0 a1 a2 a3 k, LeO (impl_Turn_plus.f k a0 a1 a2 a3) (impl_Turn_plus.f (k + 1) a0 a1 a2 a3) := by
 intro a0 a1 a2 a3 k
 unfold impl_Turn_plus.f
 repeat' first
   | (with_reducible exact impl_part.mono _ _ _)
   | (with_reducible exact LeO.refl _)
   | (with_reducible exact LeO.none _)
   | (with_reducible refine LeO.ite ?_ ?_)
   | (with_reducible refine LeO.bind ?_ (fun _ => ?_))
   | exact impl_part.mono _ _ _
   | exact LeO.none _
   | refine LeO.ite ?_ ?_
   | refine LeO.bind ?_ (fun _ => ?_)
set_option maxHeartbeats 8000000 in
set_option maxRecDepth 100000 in
theorem impl_Turn_plus.calls (k : Nat) (a0_0 : Int) (a0_1 : Int) (a1_0 : Int) (a1_1 : Int) (r1 : Int) (r2 : Int) (w : World) (h : impl_Turn_plus.f k a0_0 a0_1 a1_0 a1_1 = some (r1, r2)) :
  Calls Tryz.prog 45 #[.agg #[.int .i64 a0_0, .int .i64 a0_1], .agg #[.int .i64 a1_0, .int .i64 a1_1]] w fun e w' => e = .returned (.agg #[.int .i64 r1, .int .i64 r2]) ∧ Below w.heap.size w w' := by
 have hu23 := Tryz.underlying23
 have HB := Am (Below.refl w.heap.size w)
 have H : ((impl_part.f k (wrap64 ((wrap64 (a0_0 * a1_1)) + (wrap64 (a1_0 * a0_1)))) (wrap64 (a0_1 * a1_1))).bind fun bt303 => (some (bt303.1, bt303.2))) = some (r1, r2) := h
 clear h
 replace H := Option.bind_eq_some_iff.mp H
 obtain ⟨⟨t303, t304⟩, A30, H⟩ := H
 try dsimp only at H
 have A3 := Am A30
 clear A30
 focus
  simp only [Option.some.injEq, Prod.mk.injEq] at H
  obtain ⟨rfl, rfl⟩ := H
  go_enter Tryz.func45, Tryz.ntmps45
  go_wp2_with (first | ((with_reducible refine gate_dst (N := 2) rfl ?_); refine bE 2 #[.int .i64 a0_0, .int .i64 a0_1] 23 ?_; intro gb300 hg w4 hbox hb; have hv := vK HB hb; have n0_ := Am (bT hv hb); have n1_ := Am (hbox); have GE300 := kG hg hv; clear HB; have HB := n0_; have BK300 := n1_; clear n0_ n1_ hv; clear hb hbox hg) | ((with_reducible refine gate_dst (N := 3) rfl ?_); refine bE 3 #[.int .i64 a1_0, .int .i64 a1_1] 23 ?_; intro gb301 hg w5 hbox hb; have hp0 := pA BK300 hb; have hv := vK HB hb; have n1_ := Am (bT hv hb); have n2_ := Am (hbox); have GE301 := kG hg hv; have hp1 := pK BK300 hb; obtain ⟨NB300_301, NB301_300⟩ := kXY hg hp1 BK300; clear HB; replace BK300 := hp0 BK300; have HB := n1_; have BK301 := n2_; clear n1_ n2_ hp0 hp1 hv; clear hb hbox hg) | ((with_reducible refine gate_dst (N := 4) rfl ?_); refine bE 4 #[.int .i64 0, .int .i64 0] 23 ?_; intro gb302 hg w6 hbox hb; have hp0 := pA BK300 hb; have hv := vK HB hb; have n2_ := Am (bT hv hb); have n3_ := Am (hbox); have GE302 := kG hg hv; have hp1 := pK BK300 hb; obtain ⟨NB300_302, NB302_300⟩ := kXY hg hp1 BK300; obtain ⟨NB301_302, NB302_301⟩ := kXY hg hp1 BK301; clear HB; replace BK300 := hp0 BK300; replace BK301 := hp0 BK301; have HB := n2_; have BK302 := n3_; clear n2_ n3_ hp0 hp1 hv; clear hb hbox hg; have nq7 := kO NB300_301; have nq8 := kO NB300_302; have zq9 := zc2 BK300; have nq10 := kO NB301_302; have zq11 := zc2 BK301) | ((with_reducible refine gate_callee (f := 40) rfl ?_); refine gL (some 21) Tryz.func40 #[.int .i64 (wrap64 ((wrap64 (a0_0 * a1_1)) + (wrap64 (a1_0 * a0_1)))), .int .i64 (wrap64 (a0_1 * a1_1))] rfl ?_; (with_reducible refine (impl_part.calls k (wrap64 ((wrap64 (a0_0 * a1_1)) + (wrap64 (a1_0 * a0_1)))) (wrap64 (a0_1 * a1_1)) t303 t304 _ A3.out).mono ?_); rintro e w12 ⟨rfl, hb⟩; refine ⟨_, rfl, ?_⟩; have hp0 := pA BK300 hb; have hv := vK HB hb; have n3_ := Am (bT hv hb); clear HB; replace BK300 := hp0 BK300; replace BK301 := hp0 BK301; replace BK302 := hp0 BK302; have HB := n3_; clear n3_ hp0 hv; (try clear hb); have zq13 := zc2 BK302))
  refine bodyPost_ret (results_cell_row rfl _ _ gb302 23 #[.int .i64 t303, .int .i64 t304] (0, 0) _ rfl (by (with_reducible repeat (first | refine kN ?_ _ | refine kD ?_ | refine kA ?_ _)); refine kP (cs := #[.int .i64 t303, .int .i64 0]) ?_ 1 _ rfl; (with_reducible repeat (first | refine kN ?_ _ | refine kD ?_ | refine kA ?_ _)); refine kP (cs := #[.int .i64 0, .int .i64 0]) ?_ 0 _ rfl; (with_reducible repeat (first | refine kN ?_ _ | refine kD ?_ | refine kA ?_ _)); exact BK302.out) Tryz.underlying23 rfl (by kernel_rfl)) rfl ?_
  exact ⟨by first | rfl | (simp [errW_none, errW_some] <;> rfl) | (simp [*, errW_none, errW_some] <;> rfl), by repeat (first | (with_reducible first | exact HB.out | apply bA | apply bN | apply bD | refine bX ?_ (by assumption)) | exact HB.out)⟩
/-! ### impl_AddTurns: function 21 -/
def impl_AddTurns.f (k : Nat) (a0_0 : Int) (a0_1 : Int) (a1_0 : Int) (a1_1 : Int) : Option (Int × Int × Bool) := (impl_areTurns.f k (([(⟨a0_0, a0_1⟩ : S23), (⟨a1_0, a1_1⟩ : S23)] : List (S23)))).bind fun t311 => (if t311 = true then ((impl_Turn_plus.f k a0_0 a0_1 a1_0 a1_1).bind fun bt312 => ((impl_ifTurn.f k bt312.1 bt312.2).bind fun bt314 => (some (bt314.1, bt314.2.1, bt314.2.2)))) else (some (0, 0, false)))
theorem impl_AddTurns.mono : ∀ a0 a1 a2 a3 k, LeO (impl_AddTurns.f k a0 a1 a2 a3) (impl_AddTurns.f (k + 1) a0 a1 a2 a3) := by
 intro a0 a1 a2 a3 k
 unfold impl_AddTurns.f
 repeat' first
   | (with_reducible exact impl_Turn_plus.mono _ _ _ _ _)
   | (with_reducible exact impl_areTurns.mono _ _)
   | (with_reducible exact impl_ifTurn.mono _ _ _)
   | (with_reducible exact LeO.refl _)
   | (with_reducible exact LeO.none _)
   | (with_reducible refine LeO.ite ?_ ?_)
   | (with_reducible refine LeO.bind ?_ (fun _ => ?_))
   | exact impl_Turn_plus.mono _ _ _ _ _
   | exact impl_areTurns.mono _ _
   | exact impl_ifTurn.mono _ _ _
   | exact LeO.none _
   | refine LeO.ite ?_ ?_
   | refine LeO.bind ?_ (fun _ => ?_)
set_option maxHeartbeats 8000000 in
set_option maxRecDepth 100000 in
theorem impl_AddTurns.calls (k : Nat) (a0_0 : Int) (a0_1 : Int) (a1_0 : Int) (a1_1 : Int) (r1 : Int) (r2 : Int) (r3 : Bool) (w : World) (h : impl_AddTurns.f k a0_0 a0_1 a1_0 a1_1 = some (r1, r2, r3)) :
  Calls Tryz.prog 21 #[.agg #[.int .i64 a0_0, .int .i64 a0_1], .agg #[.int .i64 a1_0, .int .i64 a1_1]] w fun e w' => e = .returned (.tuple #[.agg #[.int .i64 r1, .int .i64 r2], .bool r3]) ∧ Below w.heap.size w w' := by
 have hu23 := Tryz.underlying23
 have HB := Am (Below.refl w.heap.size w)
 have H : ((impl_areTurns.f k (([(⟨a0_0, a0_1⟩ : S23), (⟨a1_0, a1_1⟩ : S23)] : List (S23)))).bind fun t311 => (if t311 = true then ((impl_Turn_plus.f k a0_0 a0_1 a1_0 a1_1).bind fun bt312 => ((impl_ifTurn.f k bt312.1 bt312.2).bind fun bt314 => (some (bt314.1, bt314.2.1, bt314.2.2)))) else (some (0, 0, false)))) = some (r1, r2, r3) := h
 clear h
 obtain ⟨y308, hy308⟩ : ∃ y_ : List (S23), y_ = (([(⟨a0_0, a0_1⟩ : S23), (⟨a1_0, a1_1⟩ : S23)] : List (S23))) := ⟨_, rfl⟩
 replace H : ((impl_areTurns.f k y308).bind fun t311 => (if t311 = true then ((impl_Turn_plus.f k a0_0 a0_1 a1_0 a1_1).bind fun bt312 => ((impl_ifTurn.f k bt312.1 bt312.2).bind fun bt314 => (some (bt314.1, bt314.2.1, bt314.2.2)))) else (some (0, 0, false)))) = some (r1, r2, r3) := by first | (rw [hy308]; with_reducible exact H) | (have H2_ := (Option.bind_some _ _).symm.trans H; rw [hy308]; with_reducible exact H2_) | (have H2_ := (Option.bind_some _ _).symm.trans H; with_reducible exact H2_) | with_reducible exact H | (rw [hy308]; exact H) | exact H
 have Ny308 := Am hy308
 clear hy308
 replace H := Option.bind_eq_some_iff.mp H
 obtain ⟨t311, A30, H⟩ := H
 try dsimp only at H
 have A3 := Am A30
 clear A30
 by_cases c4 : t311 = true
 ·subst c4
  have H1 : ((impl_Turn_plus.f k a0_0 a0_1 a1_0 a1_1).bind fun bt312 => ((impl_ifTurn.f k bt312.1 bt312.2).bind fun bt314 => (some (bt314.1, bt314.2.1, bt314.2.2)))) = some (r1, r2, r3) := by rw [if_pos rfl] at H; exact H
  clear H
  have H := H1
  clear H1
  replace H := Option.bind_eq_some_iff.mp H
  obtain ⟨⟨t312, t313⟩, A50, H⟩ := H
  try dsimp only at H
  have A5 := Am A50
  clear A50
  replace H := Option.bind_eq_some_iff.mp H
  obtain ⟨⟨t314, t315, t316⟩, A60, H⟩ := H
  try dsimp only at H
  have A6 := Am A60
  clear A60
  focus
   simp only [Option.some.injEq, Prod.mk.injEq] at H
   obtain ⟨rfl, rfl, rfl⟩ := H
   go_enter Tryz.func21, Tryz.ntmps21
   go_wp2_with (first | ((with_reducible refine gate_dst (N := 2) rfl ?_); refine bE 2 #[.int .i64 a0_0, .int .i64 a0_1] 23 ?_; intro gb305 hg w7 hbox hb; have hv := vK HB hb; have n0_ := Am (bT hv hb); have n1_ := Am (hbox); have GE305 := kG hg hv; clear HB; have HB := n0_; have BK305 := n1_; clear n0_ n1_ hv; clear hb hbox hg) | ((with_reducible refine gate_dst (N := 3) rfl ?_); refine bE 3 #[.int .i64 a1_0, .int .i64 a1_1] 23 ?_; intro gb306 hg w8 hbox hb; have hp0 := pA BK305 hb; have hv := vK HB hb; have n1_ := Am (bT hv hb); have n2_ := Am (hbox); have GE306 := kG hg hv; have hp1 := pK BK305 hb; obtain ⟨NB305_306, NB306_305⟩ := kXY hg hp1 BK305; clear HB; replace BK305 := hp0 BK305; have HB := n1_; have BK306 := n2_; clear n1_ n2_ hp0 hp1 hv; clear hb hbox hg) | ((with_reducible refine gate_dst (N := 4) rfl ?_); refine bE 4 #[.int .i64 0, .int .i64 0] 23 ?_; intro gb307 hg w9 hbox hb; have hp0 := pA BK305 hb; have hv := vK HB hb; have n2_ := Am (bT hv hb); have n3_ := Am (hbox); have GE307 := kG hg hv; have hp1 := pK BK305 hb; obtain ⟨NB305_307, NB307_305⟩ := kXY hg hp1 BK305; obtain ⟨NB306_307, NB307_306⟩ := kXY hg hp1 BK306; clear HB; replace BK305 := hp0 BK305; replace BK306 := hp0 BK306; have HB := n2_; have BK307 := n3_; clear n2_ n3_ hp0 hp1 hv; clear hb hbox hg; have nq10 := kO NB305_306; have nq11 := kO NB305_307; have zq12 := zc2 BK305; have nq13 := kO NB306_307; have zq14 := zc2 BK306) | ((with_reducible refine gate_dst (N := 8) rfl ?_); refine Kd.R_lit k23 _ 23 ?hg (N := 8) ?hd (xs := ([(⟨a0_0, a0_1⟩ : S23), (⟨a1_0, a1_1⟩ : S23)] : List (S23))) (inner := [.int .i64 a0_0, .int .i64 a0_1, .int .i64 a1_0, .int .i64 a1_1]) (ok := fun _ => True) (okp := fun _ => True) ?hr ?hp (fun _ hk => hk) trivial (Below.refl _ _) (Nat.le_refl _) (by simp) ?_; (case hd => rfl); (case hg => rfl); (case hr => first | (go_simp; done) | (go_simp; rfl)); (case hp => exact (Reps.c2 (show Kd.M k23 _ _ _ (⟨a0_0, a0_1⟩ : S23) [.int .i64 a0_0, .int .i64 a0_1] from (k23_mkM _ _ _ (⟨a0_0, a0_1⟩ : S23) )) (Reps.c2 (show Kd.M k23 _ _ _ (⟨a1_0, a1_1⟩ : S23) [.int .i64 a1_0, .int .i64 a1_1] from (k23_mkM _ _ _ (⟨a1_0, a1_1⟩ : S23) )) (Reps.none _ _)))); intro v309 w15 ho16 hb hg_ hnew_; clear hg_ hnew_; (first | rw [← Ny308.out] at ho16 | (simp only [Int.reduceToNat] at ho16; rw [← Ny308.out] at ho16)); have n0_ := Am (Kd.R_lower (Kd.R_newB (Kd.R_newB (Kd.R_newB ho16 (g := gb305) (o := .cells #[.int .i64 a0_0, .int .i64 a0_1] 23 (0, 0)) (kU BK305)) (g := gb306) (o := .cells #[.int .i64 a1_0, .int .i64 a1_1] 23 (0, 0)) (kU BK306)) (g := gb307) (o := .cells #[.int .i64 0, .int .i64 0] 23 (0, 0)) (kU BK307)) (bZ (by repeat (first | (with_reducible first | exact HB.out | apply bA | apply bN | apply bD | refine bX ?_ (by assumption)) | exact HB.out)))); have hp0 := pA BK305 hb; have hv := vK HB hb; have n4_ := Am (bT hv hb); clear HB; have HO310 := n0_; replace BK305 := hp0 BK305; replace BK306 := hp0 BK306; replace BK307 := hp0 BK307; have HB := n4_; clear n0_ n4_ hp0 hv; clear hb ho16; obtain ⟨Ao17, co17, eo17⟩ := Kd.R_slice HO310.out; subst eo17) | ((with_reducible refine gate_callee (f := 43) rfl ?_); refine gL (some 9) Tryz.func43 #[.slice Ao17 y308.length co17] rfl ?_; (with_reducible refine (impl_areTurns.calls k _ _ y308 true _ ?side1 ?side2 A3.out).mono ?_); (case side1 => repeat (first | exact (Kd.R_reads' HO310.out).2.2 | (with_reducible refine Kd.C_alloc ?_ _) | (with_reducible refine Kd.C_drewN ?_ _) | (with_reducible refine Kd.C_drew ?_))); (case side2 => exact (Kd.R_reads' HO310.out).2.1); rintro e w18 ⟨rfl, hb⟩; refine ⟨_, rfl, ?_⟩; have n0_ := Am (Kd.R_below (kW HO310) hb); have hp0 := pA BK305 hb; have hv := vK HB hb; have n4_ := Am (bT hv hb); clear HO310; clear HB; have HO310 := n0_; replace BK305 := hp0 BK305; replace BK306 := hp0 BK306; replace BK307 := hp0 BK307; have HB := n4_; clear n0_ n4_ hp0 hv; (try clear hb); have zq19 := zc2 BK305; have zq20 := zc2 BK306) | ((with_reducible refine gate_callee (f := 45) rfl ?_); refine gL (some 14) Tryz.func45 #[.agg #[.int .i64 a0_0, .int .i64 a0_1], .agg #[.int .i64 a1_0, .int .i64 a1_1]] rfl ?_; (with_reducible refine (impl_Turn_plus.calls k a0_0 a0_1 a1_0 a1_1 t312 t313 _ A5.out).mono ?_); rintro e w21 ⟨rfl, hb⟩; refine ⟨_, rfl, ?_⟩; have n0_ := Am (Kd.R_below (kW HO310) hb); have hp0 := pA BK305 hb; have hv := vK HB hb; have n4_ := Am (bT hv hb); clear HO310; clear HB; have HO310 := n0_; replace BK305 := hp0 BK305; replace BK306 := hp0 BK306; replace BK307 := hp0 BK307; have HB := n4_; clear n0_ n4_ hp0 hv; (try clear hb)) | ((with_reducible refine gate_callee (f := 44) rfl ?_); refine gL (some 15) Tryz.func44 #[.agg #[.int .i64 t312, .int .i64 t313]] rfl ?_; (with_reducible refine (impl_ifTurn.calls k t312 t313 t314 t315 t316 _ A6.out).mono ?_); rintro e w22 ⟨rfl, hb⟩; refine ⟨_, rfl, ?_⟩; have n0_ := Am (Kd.R_below (kW HO310) hb); have hp0 := pA BK305 hb; have hv := vK HB hb; have n4_ := Am (bT hv hb); clear HO310; clear HB; have HO310 := n0_; replace BK305 := hp0 BK305; replace BK306 := hp0 BK306; replace BK307 := hp0 BK307; have HB := n4_; clear n0_ n4_ hp0 hv; (try clear hb); have zq23 := zc2 BK307))
   refine bodyPost_ret (results_ct rfl _ _ gb307 23 #[.int .i64 t314, .int .i64 t315] (0, 0) _ rfl (by (with_reducible repeat (first | refine kN ?_ _ | refine kD ?_ | refine kA ?_ _)); refine kP (cs := #[.int .i64 t314, .int .i64 0]) ?_ 1 _ rfl; (with_reducible repeat (first | refine kN ?_ _ | refine kD ?_ | refine kA ?_ _)); refine kP (cs := #[.int .i64 0, .int .i64 0]) ?_ 0 _ rfl; (with_reducible repeat (first | refine kN ?_ _ | refine kD ?_ | refine kA ?_ _)); exact BK307.out) Tryz.underlying23 rfl (by kernel_rfl)) rfl ?_
   exact ⟨by first | rfl | (simp [errW_none, errW_some] <;> rfl) | (simp [*, errW_none, errW_some] <;> rfl), by repeat (first | (with_reducible first | exact HB.out | apply bA | apply bN | apply bD | refine bX ?_ (by assumption)) | exact HB.out)⟩
 replace c4 := Bool.eq_false_iff.mpr c4
 subst c4
 have H1 : (some (0, 0, false)) = some (r1, r2, r3) := by rw [if_neg (show ¬ (false = true) by decide)] at H; exact H
 clear H
 have H := H1
 clear H1
 focus
  simp only [Option.some.injEq, Prod.mk.injEq] at H
  obtain ⟨rfl, rfl, rfl⟩ := H
  go_enter Tryz.func21, Tryz.ntmps21
  go_wp2_with (first | ((with_reducible refine gate_dst (N := 2) rfl ?_); refine bE 2 #[.int .i64 a0_0, .int .i64 a0_1] 23 ?_; intro gb305 hg w24 hbox hb; have hv := vK HB hb; have n0_ := Am (bT hv hb); have n1_ := Am (hbox); have GE305 := kG hg hv; clear HB; have HB := n0_; have BK305 := n1_; clear n0_ n1_ hv; clear hb hbox hg) | ((with_reducible refine gate_dst (N := 3) rfl ?_); refine bE 3 #[.int .i64 a1_0, .int .i64 a1_1] 23 ?_; intro gb306 hg w25 hbox hb; have hp0 := pA BK305 hb; have hv := vK HB hb; have n1_ := Am (bT hv hb); have n2_ := Am (hbox); have GE306 := kG hg hv; have hp1 := pK BK305 hb; obtain ⟨NB305_306, NB306_305⟩ := kXY hg hp1 BK305; clear HB; replace BK305 := hp0 BK305; have HB := n1_; have BK306 := n2_; clear n1_ n2_ hp0 hp1 hv; clear hb hbox hg) | ((with_reducible refine gate_dst (N := 4) rfl ?_); refine bE 4 #[.int .i64 0, .int .i64 0] 23 ?_; intro gb307 hg w26 hbox hb; have hp0 := pA BK305 hb; have hv := vK HB hb; have n2_ := Am (bT hv hb); have n3_ := Am (hbox); have GE307 := kG hg hv; have hp1 := pK BK305 hb; obtain ⟨NB305_307, NB307_305⟩ := kXY hg hp1 BK305; obtain ⟨NB306_307, NB307_306⟩ := kXY hg hp1 BK306; clear HB; replace BK305 := hp0 BK305; replace BK306 := hp0 BK306; have HB := n2_; have BK307 := n3_; clear n2_ n3_ hp0 hp1 hv; clear hb hbox hg; have nq27 := kO NB305_306; have nq28 := kO NB305_307; have zq29 := zc2 BK305; have nq30 := kO NB306_307; have zq31 := zc2 BK306) | ((with_reducible refine gate_dst (N := 8) rfl ?_); refine Kd.R_lit k23 _ 23 ?hg (N := 8) ?hd (xs := ([(⟨a0_0, a0_1⟩ : S23), (⟨a1_0, a1_1⟩ : S23)] : List (S23))) (inner := [.int .i64 a0_0, .int .i64 a0_1, .int .i64 a1_0, .int .i64 a1_1]) (ok := fun _ => True) (okp := fun _ => True) ?hr ?hp (fun _ hk => hk) trivial (Below.refl _ _) (Nat.le_refl _) (by simp) ?_; (case hd => rfl); (case hg => rfl); (case hr => first | (go_simp; done) | (go_simp; rfl)); (case hp => exact (Reps.c2 (show Kd.M k23 _ _ _ (⟨a0_0, a0_1⟩ : S23) [.int .i64 a0_0, .int .i64 a0_1] from (k23_mkM _ _ _ (⟨a0_0, a0_1⟩ : S23) )) (Reps.c2 (show Kd.M k23 _ _ _ (⟨a1_0, a1_1⟩ : S23) [.int .i64 a1_0, .int .i64 a1_1] from (k23_mkM _ _ _ (⟨a1_0, a1_1⟩ : S23) )) (Reps.none _ _)))); intro v309 w32 ho33 hb hg_ hnew_; clear hg_ hnew_; (first | rw [← Ny308.out] at ho33 | (simp only [Int.reduceToNat] at ho33; rw [← Ny308.out] at ho33)); have n0_ := Am (Kd.R_lower (Kd.R_newB (Kd.R_newB (Kd.R_newB ho33 (g := gb305) (o := .cells #[.int .i64 a0_0, .int .i64 a0_1] 23 (0, 0)) (kU BK305)) (g := gb306) (o := .cells #[.int .i64 a1_0, .int .i64 a1_1] 23 (0, 0)) (kU BK306)) (g := gb307) (o := .cells #[.int .i64 0, .int .i64 0] 23 (0, 0)) (kU BK307)) (bZ (by repeat (first | (with_reducible first | exact HB.out | apply bA | apply bN | apply bD | refine bX ?_ (by assumption)) | exact HB.out)))); have hp0 := pA BK305 hb; have hv := vK HB hb; have n4_ := Am (bT hv hb); clear HB; have HO310 := n0_; replace BK305 := hp0 BK305; replace BK306 := hp0 BK306; replace BK307 := hp0 BK307; have HB := n4_; clear n0_ n4_ hp0 hv; clear hb ho33; obtain ⟨Ao34, co34, eo34⟩ := Kd.R_slice HO310.out; subst eo34) | ((with_reducible refine gate_callee (f := 43) rfl ?_); refine gL (some 9) Tryz.func43 #[.slice Ao34 y308.length co34] rfl ?_; (with_reducible refine (impl_areTurns.calls k _ _ y308 false _ ?side1 ?side2 A3.out).mono ?_); (case side1 => repeat (first | exact (Kd.R_reads' HO310.out).2.2 | (with_reducible refine Kd.C_alloc ?_ _) | (with_reducible refine Kd.C_drewN ?_ _) | (with_reducible refine Kd.C_drew ?_))); (case side2 => exact (Kd.R_reads' HO310.out).2.1); rintro e w35 ⟨rfl, hb⟩; refine ⟨_, rfl, ?_⟩; have n0_ := Am (Kd.R_below (kW HO310) hb); have hp0 := pA BK305 hb; have hv := vK HB hb; have n4_ := Am (bT hv hb); clear HO310; clear HB; have HO310 := n0_; replace BK305 := hp0 BK305; replace BK306 := hp0 BK306; replace BK307 := hp0 BK307; have HB := n4_; clear n0_ n4_ hp0 hv; (try clear hb); have zq36 := zc2 BK307))
  refine bodyPost_ret (results_ct rfl _ _ gb307 23 #[.int .i64 0, .int .i64 0] (0, 0) _ rfl (by (with_reducible repeat (first | refine kN ?_ _ | refine kD ?_ | refine kA ?_ _)); refine kP (cs := #[.int .i64 0, .int .i64 0]) ?_ 1 _ rfl; (with_reducible repeat (first | refine kN ?_ _ | refine kD ?_ | refine kA ?_ _)); refine kP (cs := #[.int .i64 0, .int .i64 0]) ?_ 0 _ rfl; (with_reducible repeat (first | refine kN ?_ _ | refine kD ?_ | refine kA ?_ _)); exact BK307.out) Tryz.underlying23 rfl (by kernel_rfl)) rfl ?_
  exact ⟨by first | rfl | (simp [errW_none, errW_some] <;> rfl) | (simp [*, errW_none, errW_some] <;> rfl), by repeat (first | (with_reducible first | exact HB.out | apply bA | apply bN | apply bD | refine bX ?_ (by assumption)) | exact HB.out)⟩
/-! ### strings_Cut: function 47 -/
def strings_Cut.f (a0 a1 : ByteArray) : Option (ByteArray × ByteArray × Bool) := if a1 = (⟨#[47]⟩ : ByteArray) ∧ a0.size ≤ 281474976710656 then (if Lib.indexByte a0.data.toList 47 < 0 then some (a0, (⟨#[]⟩ : ByteArray), false) else some (a0.extract 0 (Lib.indexByte a0.data.toList 47).toNat, a0.extract ((Lib.indexByte a0.data.toList 47).toNat + 1) a0.size, true)) else none
theorem strings_Cut.inner (a0 : ByteArray) (r1 r2 : ByteArray) (r3 : Bool) (w : World) (h : strings_Cut.f a0 (⟨#[47]⟩ : ByteArray) = some (r1, r2, r3)) :
  Calls Tryz.prog 67 #[.string a0, .string (⟨#[47]⟩ : ByteArray)] w fun e w' => e = .returned (.tuple #[.string r1, .string r2, .bool r3]) ∧ Below w.heap.size w w' := by
 unfold strings_Cut.f at h
 by_cases hs : a0.size ≤ 281474976710656
 ·rw [if_pos ⟨rfl, hs⟩] at h
  have hge := Lib.indexByte_ge a0.data.toList 47
  by_cases hi : Lib.indexByte a0.data.toList 47 < 0
  ·rw [if_pos hi] at h
   obtain ⟨rfl, h'⟩ := Prod.mk.inj (Option.some.inj h)
   obtain ⟨rfl, rfl⟩ := Prod.mk.inj h'
   have hix : Lib.indexByte a0.data.toList 47 = -1 := by omega
   go_enter Tryz.func67, Tryz.ntmps67
   go_wp2_with (go_at_call 75; refine (Any.stringslite_Index_one Tryz.ixLay a0 47 _).mono ?_; rintro e w' ⟨rfl, rfl⟩; rw [hix])
   go_ret3
   exact ⟨rfl, Below.refl _ _⟩
  rw [if_neg hi] at h
  obtain ⟨rfl, h'⟩ := Prod.mk.inj (Option.some.inj h)
  obtain ⟨rfl, rfl⟩ := Prod.mk.inj h'
  obtain ⟨i, hix⟩ : ∃ i : Nat, Lib.indexByte a0.data.toList 47 = i := ⟨(Lib.indexByte a0.data.toList 47).toNat, by omega⟩
  have hat := (Lib.indexByte_some hix).1
  have hlt : i < a0.size := by
   rcases Nat.lt_or_ge i a0.data.toList.length with h1 | h1
   ·simpa using h1
   rw [List.getElem?_eq_none h1] at hat; cases hat
  rw [hix]
  have c1 : (0 : Int) ≤ ↑i := by omega
  have c2 : (↑i : Int) ≤ ↑a0.size := by omega
  have c3 : (0 : Int) ≤ ↑i + 1 := by omega
  have c4 : (↑i + 1 : Int) ≤ ↑a0.size := by omega
  have hwr : IntKind.i64.wrap ((i : Int) + 1) = (i : Int) + 1 := by rw [i64_w]; unfold wrap64; omega
  have mixed := Tryz.ixLay.mixed
  go_enter Tryz.func67, Tryz.ntmps67
  go_wp2_with (go_at_call 75; refine (Any.stringslite_Index_one Tryz.ixLay a0 47 _).mono ?_; rintro e w' ⟨rfl, rfl⟩; rw [hix])
  go_region_o
  go_wp2
  go_ret3
  exact ⟨rfl, Go.Joins.below_draws _ _ 1⟩
 rw [if_neg (fun hh => hs hh.2)] at h; cases h
theorem strings_Cut.calls (a0 a1 : ByteArray) (r1 r2 : ByteArray) (r3 : Bool) (w : World) (h : strings_Cut.f a0 a1 = some (r1, r2, r3)) :
  Calls Tryz.prog 47 #[.string a0, .string a1] w fun e w' => e = .returned (.tuple #[.string r1, .string r2, .bool r3]) ∧ Below w.heap.size w w' := by
 have h1 : a1 = (⟨#[47]⟩ : ByteArray) := by
  unfold strings_Cut.f at h
  by_cases hc : a1 = (⟨#[47]⟩ : ByteArray) ∧ a0.size ≤ 281474976710656
  ·exact hc.1
  rw [if_neg hc] at h; cases h
 subst h1
 go_enter Tryz.func47, Tryz.ntmps47
 go_wp2_with (go_at_call 67; refine (strings_Cut.inner a0 r1 r2 r3 _ h).mono ?_; rintro e w' ⟨rfl, hb⟩)
 go_ret3
 exact ⟨rfl, hb⟩
/-! ### strconv_Atoi_49: function 49 -/
def strconv_Atoi_49.f (a0 : ByteArray) : Option (Int × Bool) := if a0.size ≤ 281474976710656 then (match Lib.atoiAll a0.data.toList with | .ok v => some (v, false) | .range => some (Lib.atoiSat a0.data.toList, true) | _ => some (0, true)) else none
theorem strconv_Atoi_49.calls (a0 : ByteArray) (r1 : Int) (r2 : Bool) (w : World) (htab_ : TabsAll w) (h : strconv_Atoi_49.f a0 = some (r1, r2)) :
  Calls Tryz.prog 49 #[.string a0] w fun e w' => ∃ q : Value, e = .returned (.tuple #[.int .i64 r1, if r2 = true then .iface Tryz.atoiErrT q else .nilIface]) ∧ Below w.heap.size w w' := by
 obtain ⟨_, ⟨tp1, p1, h1⟩, ⟨tp2, p2, h2⟩⟩ := htab_
 unfold strconv_Atoi_49.f at h
 by_cases hc : a0.size ≤ 281474976710656
 ·rw [if_pos hc] at h
  rcases hA : Lib.atoiAll a0.data.toList with v | _ | _
  ·skip
   rw [hA] at h
   obtain ⟨rfl, rfl⟩ := Prod.mk.inj (Option.some.inj h)
   refine (Any.strconv_Atoi_ok Tryz.atoiLay a0 (by omega) _ hA w).mono ?_
   rintro e w' ⟨rfl, hw⟩
   refine ⟨.nilIface, rfl, ?_⟩
   rcases hw with rfl | ⟨t, rfl⟩
   ·exact Below.refl _ _
   ·exact Lib.bytesWorld_below w _ t
  ·skip
   rw [hA] at h
   obtain ⟨rfl, rfl⟩ := Prod.mk.inj (Option.some.inj h)
   refine (Any.strconv_Atoi_syntax_var Tryz.atoiLay a0 hc hA tp1 p1 w h1).mono ?_
   rintro e w' ⟨Nn, rfl, _, _, hb⟩
   exact ⟨_, rfl, hb⟩
  ·skip
   rw [hA] at h
   obtain ⟨rfl, rfl⟩ := Prod.mk.inj (Option.some.inj h)
   refine (Any.strconv_Atoi_range_var Tryz.atoiLay a0 hc hA tp2 p2 w h2).mono ?_
   rintro e w' ⟨Nn, rfl, _, _, hb⟩
   exact ⟨_, rfl, hb⟩
 ·rw [if_neg hc] at h; cases h

/-! ### impl_readNumber: function 48 -/
def impl_readNumber.f (a0 : ByteArray) (a1 : Int) : Option (Int × Bool) := (strconv_Atoi_49.f a0).bind fun bt317 => (if bt317.2 = true then (some (0, false)) else ((impl_within.f bt317.1 0 a1).bind fun t319 => (if t319 = true then ((strconv_Itoa_41.f bt317.1).bind fun t320 => (if t320.toList = a0.toList then (some (bt317.1, true)) else (some (0, false)))) else (some (0, false)))))
set_option maxHeartbeats 8000000 in
set_option maxRecDepth 100000 in
theorem impl_readNumber.calls (a0 : ByteArray) (a1 : Int) (r1 : Int) (r2 : Bool) (w : World) (htab_ : TabsAll w) (h : impl_readNumber.f a0 a1 = some (r1, r2)) :
  Calls Tryz.prog 48 #[.string a0, .int .i64 a1] w fun e w' => e = .returned (.tuple #[.int .i64 r1, .bool r2]) ∧ Below w.heap.size w w' := by
 have TABH_ := Am htab_
 clear htab_
 have HB := Am (Below.refl w.heap.size w)
 have H : ((strconv_Atoi_49.f a0).bind fun bt317 => (if bt317.2 = true then (some (0, false)) else ((impl_within.f bt317.1 0 a1).bind fun t319 => (if t319 = true then ((strconv_Itoa_41.f bt317.1).bind fun t320 => (if t320.toList = a0.toList then (some (bt317.1, true)) else (some (0, false)))) else (some (0, false)))))) = some (r1, r2) := h
 clear h
 replace H := Option.bind_eq_some_iff.mp H
 obtain ⟨⟨t317, t318⟩, A30, H⟩ := H
 try dsimp only at H
 have A3 := Am A30
 clear A30
 by_cases c4 : t318 = true
 ·subst c4
  have H1 : (some (0, false)) = some (r1, r2) := by rw [if_pos rfl] at H; exact H
  clear H
  have H := H1
  clear H1
  focus
   simp only [Option.some.injEq, Prod.mk.injEq] at H
   obtain ⟨rfl, rfl⟩ := H
   go_enter Tryz.func48, Tryz.ntmps48
   go_wp2_with (first | ((with_reducible refine gate_callee (f := 49) rfl ?_); refine gL (some 10) Tryz.func49 #[.string a0] rfl ?_; (with_reducible refine (strconv_Atoi_49.calls a0 t317 true _ (tabs_stay TABH_.out (show Below w.heap.size w _ from by repeat (first | (with_reducible first | exact HB.out | apply bA | apply bN | apply bD) | exact HB.out))) A3.out).mono ?_); rintro e w5 ⟨q_, rfl, hb⟩; refine ⟨_, rfl, ?_⟩; have hv := vK HB hb; have n0_ := Am (bT hv hb); clear HB; have HB := n0_; clear n0_ hv; (try clear hb)))
   go_ret2
   exact ⟨by first | rfl | (simp [errW_none, errW_some] <;> rfl) | (simp [*, errW_none, errW_some] <;> rfl), by repeat (first | (with_reducible first | exact HB.out | apply bA | apply bN | apply bD) | exact HB.out)⟩
 replace c4 := Bool.eq_false_iff.mpr c4
 subst c4
 have H1 : ((impl_within.f t317 0 a1).bind fun t319 => (if t319 = true then ((strconv_Itoa_41.f t317).bind fun t320 => (if t320.toList = a0.toList then (some (t317, true)) else (some (0, false)))) else (some (0, false)))) = some (r1, r2) := by rw [if_neg (show ¬ (false = true) by decide)] at H; exact H
 clear H
 have H := H1
 clear H1
 replace H := Option.bind_eq_some_iff.mp H
 obtain ⟨t319, A60, H⟩ := H
 try dsimp only at H
 have A6 := Am A60
 clear A60
 by_cases c7 : t319 = true
 ·subst c7
  have H1 : ((strconv_Itoa_41.f t317).bind fun t320 => (if t320.toList = a0.toList then (some (t317, true)) else (some (0, false)))) = some (r1, r2) := by rw [if_pos rfl] at H; exact H
  clear H
  have H := H1
  clear H1
  replace H := Option.bind_eq_some_iff.mp H
  obtain ⟨t320, A80, H⟩ := H
  try dsimp only at H
  have A8 := Am A80
  clear A80
  by_cases c9 : t320.toList = a0.toList
  ·rw [if_pos c9] at H
   have c9b0 : (t320.toList == a0.toList) = true := beq_iff_eq.mpr c9
   have c9b1 : (t320.toList != a0.toList) = false := bne_eq_false_iff_eq.mpr c9
   clear c9
   focus
    simp only [Option.some.injEq, Prod.mk.injEq] at H
    obtain ⟨rfl, rfl⟩ := H
    go_enter Tryz.func48, Tryz.ntmps48
    go_wp2_with (first | ((with_reducible refine gate_callee (f := 49) rfl ?_); refine gL (some 10) Tryz.func49 #[.string a0] rfl ?_; (with_reducible refine (strconv_Atoi_49.calls a0 t317 false _ (tabs_stay TABH_.out (show Below w.heap.size w _ from by repeat (first | (with_reducible first | exact HB.out | apply bA | apply bN | apply bD) | exact HB.out))) A3.out).mono ?_); rintro e w10 ⟨q_, rfl, hb⟩; refine ⟨_, rfl, ?_⟩; have hv := vK HB hb; have n0_ := Am (bT hv hb); clear HB; have HB := n0_; clear n0_ hv; (try clear hb)) | (go_at_call 50; (with_reducible refine (impl_within.calls t317 0 a1 true _ A6.out).mono ?_); rintro e w' ⟨rfl, ⟨nd, rfl⟩⟩) | (go_at_call 41; (with_reducible refine (strconv_Itoa_41.calls t317 t320 _ (tabs_stay TABH_.out (show Below w.heap.size w _ from by repeat (first | (with_reducible first | exact HB.out | apply bA | apply bN | apply bD) | exact HB.out))) A8.out).mono ?_); rintro e w11 ⟨rfl, hb⟩; have hv := vK HB hb; have n0_ := Am (bT hv hb); clear HB; have HB := n0_; clear n0_ hv; (try clear hb)))
    go_ret2
    exact ⟨by first | rfl | (simp [errW_none, errW_some] <;> rfl) | (simp [*, errW_none, errW_some] <;> rfl), by repeat (first | (with_reducible first | exact HB.out | apply bA | apply bN | apply bD) | exact HB.out)⟩
  rw [if_neg c9] at H
  have c9b0 : (t320.toList == a0.toList) = false := beq_eq_false_iff_ne.mpr c9
  have c9b1 : (t320.toList != a0.toList) = true := bne_iff_ne.mpr c9
  focus
   simp only [Option.some.injEq, Prod.mk.injEq] at H
   obtain ⟨rfl, rfl⟩ := H
   go_enter Tryz.func48, Tryz.ntmps48
   go_wp2_with (first | ((with_reducible refine gate_callee (f := 49) rfl ?_); refine gL (some 10) Tryz.func49 #[.string a0] rfl ?_; (with_reducible refine (strconv_Atoi_49.calls a0 t317 false _ (tabs_stay TABH_.out (show Below w.heap.size w _ from by repeat (first | (with_reducible first | exact HB.out | apply bA | apply bN | apply bD) | exact HB.out))) A3.out).mono ?_); rintro e w12 ⟨q_, rfl, hb⟩; refine ⟨_, rfl, ?_⟩; have hv := vK HB hb; have n0_ := Am (bT hv hb); clear HB; have HB := n0_; clear n0_ hv; (try clear hb)) | (go_at_call 50; (with_reducible refine (impl_within.calls t317 0 a1 true _ A6.out).mono ?_); rintro e w' ⟨rfl, ⟨nd, rfl⟩⟩) | (go_at_call 41; (with_reducible refine (strconv_Itoa_41.calls t317 t320 _ (tabs_stay TABH_.out (show Below w.heap.size w _ from by repeat (first | (with_reducible first | exact HB.out | apply bA | apply bN | apply bD) | exact HB.out))) A8.out).mono ?_); rintro e w13 ⟨rfl, hb⟩; have hv := vK HB hb; have n0_ := Am (bT hv hb); clear HB; have HB := n0_; clear n0_ hv; (try clear hb)))
   go_ret2
   exact ⟨by first | rfl | (simp [errW_none, errW_some] <;> rfl) | (simp [*, errW_none, errW_some] <;> rfl), by repeat (first | (with_reducible first | exact HB.out | apply bA | apply bN | apply bD) | exact HB.out)⟩
 replace c7 := Bool.eq_false_iff.mpr c7
 subst c7
 have H1 : (some (0, false)) = some (r1, r2) := by rw [if_neg (show ¬ (false = true) by decide)] at H; exact H
 clear H
 have H := H1
 clear H1
 focus
  simp only [Option.some.injEq, Prod.mk.injEq] at H
  obtain ⟨rfl, rfl⟩ := H
  go_enter Tryz.func48, Tryz.ntmps48
  go_wp2_with (first | ((with_reducible refine gate_callee (f := 49) rfl ?_); refine gL (some 10) Tryz.func49 #[.string a0] rfl ?_; (with_reducible refine (strconv_Atoi_49.calls a0 t317 false _ (tabs_stay TABH_.out (show Below w.heap.size w _ from by repeat (first | (with_reducible first | exact HB.out | apply bA | apply bN | apply bD) | exact HB.out))) A3.out).mono ?_); rintro e w14 ⟨q_, rfl, hb⟩; refine ⟨_, rfl, ?_⟩; have hv := vK HB hb; have n0_ := Am (bT hv hb); clear HB; have HB := n0_; clear n0_ hv; (try clear hb)) | (go_at_call 50; (with_reducible refine (impl_within.calls t317 0 a1 false _ A6.out).mono ?_); rintro e w' ⟨rfl, ⟨nd, rfl⟩⟩))
  go_ret2
  exact ⟨by first | rfl | (simp [errW_none, errW_some] <;> rfl) | (simp [*, errW_none, errW_some] <;> rfl), by repeat (first | (with_reducible first | exact HB.out | apply bA | apply bN | apply bD) | exact HB.out)⟩
end Go.Proofs.YtchglfpiicaedaaGreatDoor.PFnHandsStandOfAll
