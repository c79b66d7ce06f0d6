-- WRITTEN BY A PROGRAM OF THIS SESSION (wip/tools): its own text, not the kit's printed one.
import Derived.Test.YtcoembcafgelkaaPFnHandsAheadOfAllx0
import Derived.Test.YtcoembcafgelkaaPFnHandsAheadOfAllx1
import Derived.Test.YtcoembcafgelkaaPFnHandsAheadOfAllx3
import Derived.Test.YtcoembcafgelkaaPFnHandsAheadOfAllx5
import Derived.Test.YtcoembcafgelkaaPFnHandsAheadOfAllx6
import Derived.Test.YtcoembcafgelkaaPFnHandsAheadOfAllx7
import Derived.Test.YtcoembcafgelkaaPFnHandsAheadOfAllx9
namespace Go.Proofs.Ytcoembcafgelkaa.PFnHandsAheadOfAll
open Go.RowKit Go.Proofs.YtcoembcafgelkaaW.PrintWords Go.Proofs.YtcoembcafgelkaaW.PrintLast Go.Proofs.YtcoembcafgelkaaW.PrintMore
attribute [local go_sem] max2_int min2_int max_two min_two max_three min_three max_four min_four   -- for this text's walks alone
set_option linter.unusedVariables false
set_option linter.unusedSimpArgs false

attribute [local go_sem high] eqA23
/-! ### laws_kIn: function 19 -/
def laws_kIn.l0 : Nat → List (S23) → Int → Int → Int → Int → Option (Bool)
 | 0, _, _, _, _, _ => none
 | k + 1, x7, x8, x9, x417000, x417001 => if x9 < x8 then (if 0 ≤ x9 then (if x9 < (x7.length : Int) then (if (((rd_T23 x7 x9).f0) == x417000 && (((rd_T23 x7 x9).f1) == x417001)) = true then (some true) else (laws_kIn.l0 k x7 x8 (wrap64 (x9 + 1)) x417000 x417001)) else (none)) else (none)) else (some false)
def laws_kIn.f (k : Nat) (l0 : List (S23)) (a1_0 : Int) (a1_1 : Int) : Option (Bool) := laws_kIn.l0 k l0 (l0.length : Int) 0 a1_0 a1_1
theorem laws_kIn.mono_l : ∀ k, (∀ y0 y1 y2 y3 y4, LeO (laws_kIn.l0 k y0 y1 y2 y3 y4) (laws_kIn.l0 (k + 1) y0 y1 y2 y3 y4))
 | 0 => fun _ _ _ _ _ r h => by simp [laws_kIn.l0] at h
 | k + 1 => by
  have ih0 := laws_kIn.mono_l k
  ·intro y0 y1 y2 y3 y4
   unfold laws_kIn.l0
   repeat' first
   | (with_reducible apply ih0)
   | (with_reducible exact LeO.refl _)
   | (with_reducible exact LeO.none _)
   | (with_reducible refine LeO.ite ?_ ?_)
   | (with_reducible refine LeO.bind ?_ (fun _ => ?_))
   | apply ih0
   | exact LeO.none _
   | refine LeO.ite ?_ ?_
   | refine LeO.bind ?_ (fun _ => ?_)
theorem laws_kIn.mono : ∀ a0 a1 a2 k, LeO (laws_kIn.f k a0 a1 a2) (laws_kIn.f (k + 1) a0 a1 a2) := by
 intro a0 a1 a2 k
 have ih0 := laws_kIn.mono_l k
 unfold laws_kIn.f
 repeat' first
   | (with_reducible apply ih0)
   | (with_reducible exact LeO.refl _)
   | (with_reducible exact LeO.none _)
   | (with_reducible refine LeO.ite ?_ ?_)
   | (with_reducible refine LeO.bind ?_ (fun _ => ?_))
   | apply ih0
   | exact LeO.none _
   | refine LeO.ite ?_ ?_
   | refine LeO.bind ?_ (fun _ => ?_)
set_option maxHeartbeats 8000000 in
set_option maxRecDepth 100000 in
theorem laws_kIn.calls (k : Nat) (A0 : Option Addr) (c0 : Nat) (l0 : List (S23)) (a1_0 : Int) (a1_1 : Int) (r : Bool) (w : World) (hr0 : Kd.C k23 w A0 l0.length l0) (hc0 : l0.length ≤ c0) (h : laws_kIn.f k l0 a1_0 a1_1 = some r) :
  Calls Try.prog 19 #[.slice A0 l0.length c0, .agg #[.int .i64 a1_0, .int .i64 a1_1]] w fun e w' => e = .returned (.bool r) ∧ Below w.heap.size w w' := by
 have hu23 := Try.underlying23
 have HR0 := Am hr0
 have HC0 := Am hc0
 clear hr0 hc0
 have HB := Am (Below.refl w.heap.size w)
 have H : (laws_kIn.l0 k l0 (l0.length : Int) 0 a1_0 a1_1) = some r := h
 clear h
 have H' := Am H
 clear H
 go_enter Try.func19, Try.ntmps19
 go_wp2_with (first | ((with_reducible refine gate_dst (N := 3) rfl ?_); refine bE 3 #[.int .i64 a1_0, .int .i64 a1_1] 23 ?_; intro gb416 hg w3 hbox hb; have hv := vK HB hb; have n0_ := Am (bT hv hb); have n1_ := Am (hbox); have GE416 := kG hg hv; clear HB; have HB := n0_; have BK416 := n1_; clear n0_ n1_ hv; clear hb hbox hg))
 go_loopg [9] k (fun kq v9 w' => ∃ (x9_1 : Int), v9 = .int .i64 x9_1 ∧ Aside0 (laws_kIn.l0 kq l0 (l0.length : Int) x9_1 a1_0 a1_1 = some r) ∧ Aside0 (kq ≤ k) ∧ Aside0 (w'.heap[gb416]? = some (.cells #[.int .i64 a1_0, .int .i64 a1_1] 23 (0, 0))) ∧ Aside0 (Below w.heap.size w w'))
 case atStart => exact ⟨(0), (by first | rfl | (simp; done) | (simp [*]; done)), H', ⟨Nat.le_refl _⟩, kV BK416, ⟨by repeat (first | (with_reducible first | exact HB.out | apply bA | apply bN | apply bD | refine bX ?_ (by assumption)) | exact HB.out)⟩⟩
 case round =>
  clear H'
  obtain ⟨x9_1, rfl, HA, HK1, BK416, HB⟩ := hrel
  cases gk with
  | zero => exact absurd HA.out (by simp [laws_kIn.l0])
  | succ k1 =>
   have H := HA.out
   clear HA
   simp only [laws_kIn.l0] at H
   by_cases c4 : x9_1 < (l0.length : Int)
   ·rw [if_pos c4] at H
    have c4b0 : decide (x9_1 < (l0.length : Int)) = true := decide_eq_true c4
    clear c4
    by_cases c5 : 0 ≤ x9_1
    ·rw [if_pos c5] at H
     have c5b0 : decide (0 ≤ x9_1) = true := decide_eq_true c5
     clear c5
     by_cases c6 : x9_1 < (l0.length : Int)
     ·rw [if_pos c6] at H
      have c6b0 : decide (x9_1 < (l0.length : Int)) = true := decide_eq_true c6
      clear c6
      by_cases c7 : (((rd_T23 l0 x9_1).f0) == a1_0 && (((rd_T23 l0 x9_1).f1) == a1_1)) = true
      ·rw [if_pos c7] at H
       have c7b0 : (((rd_T23 l0 x9_1).f0) == a1_0 && (((rd_T23 l0 x9_1).f1) == a1_1)) = true := c7
       (try (have c7b1 : decide (((rd_T23 l0 x9_1).f0) = a1_0 && (((rd_T23 l0 x9_1).f1) == a1_1)) = true := by simpa using c7))
       (try (have c7b2 : (((rd_T23 l0 x9_1).f0) == a1_0 && (((rd_T23 l0 x9_1).f1) == a1_1)) = true := by simpa using c7))
       clear c7
       focus
        obtain rfl := Option.some.inj H
        have p417 : 0 ≤ (x9_1 : Int) := of_decide_eq_true (by first | (with_reducible assumption) | assumption)
        have q417 : x9_1 < (l0.length : Int) := of_decide_eq_true (by first | (with_reducible assumption) | assumption)
        obtain ⟨ad417, e417, hx417_0, hx417_1⟩ := at_T23 HR0.out x9_1 p417 q417
        cases e417
        replace hx417_0 := (HB.out.cell (World.block_lt_of_cell? w _ hx417_0)).trans hx417_0
        replace hx417_1 := (HB.out.cell (World.block_lt_of_cell? w _ hx417_1)).trans hx417_1
        replace p417 := eq_true p417
        replace q417 := eq_true q417
        go_wp2_with (first | ((with_reducible refine gate_dst (N := 6) rfl ?_); refine bE 6 #[.int .i64 0, .int .i64 0] 23 ?_; intro gb418 hg w8 hbox hb; have hp0 := pA BK416 hb; have hv := vK HB hb; have n1_ := Am (bT hv hb); have n2_ := Am (hbox); have GE418 := kG hg hv; have hp1 := pK BK416 hb; obtain ⟨NB416_418, NB418_416⟩ := kXY hg hp1 BK416; clear HB; replace BK416 := hp0 BK416; have HB := n1_; have BK418 := n2_; clear n1_ n2_ hp0 hp1 hv; clear hb hbox hg; have u9 := kO NB418_416; have hcz10_0 : w8.cell? ⟨gb418, 0, none⟩ = some (.int .i64 0) := (kC BK418.out 0).trans rfl; have hcz10_1 : w8.cell? ⟨gb418, 1, none⟩ = some (.int .i64 0) := (kC BK418.out 1).trans rfl; have hfz10_0 := kF BK418.out 0; have hfz10_1 := kF BK418.out 1; have z11 := c2 BK416))
        go_ret
        exact ⟨by first | rfl | (simp [errW_none, errW_some] <;> rfl) | (simp [*, errW_none, errW_some] <;> rfl), by repeat (first | (with_reducible first | exact HB.out | apply bA | apply bN | apply bD | refine bX ?_ (by assumption)) | exact HB.out)⟩
      rw [if_neg c7] at H
      have c7b0 : (((rd_T23 l0 x9_1).f0) == a1_0 && (((rd_T23 l0 x9_1).f1) == a1_1)) = false := by simpa using c7
      (try (have c7b1 : decide (((rd_T23 l0 x9_1).f0) = a1_0 && (((rd_T23 l0 x9_1).f1) == a1_1)) = false := by simpa using c7))
      (try (have c7b2 : (((rd_T23 l0 x9_1).f0) == a1_0 && (((rd_T23 l0 x9_1).f1) == a1_1)) = false := by simpa using c7))
      (try (have c7b3 : ¬ (((rd_T23 l0 x9_1).f0) = a1_0 && (((rd_T23 l0 x9_1).f1) == a1_1)) := by simpa using c7))
      clear c7
      focus
       have H' := Am H
       clear H
       have p417 : 0 ≤ (x9_1 : Int) := of_decide_eq_true (by first | (with_reducible assumption) | assumption)
       have q417 : x9_1 < (l0.length : Int) := of_decide_eq_true (by first | (with_reducible assumption) | assumption)
       obtain ⟨ad417, e417, hx417_0, hx417_1⟩ := at_T23 HR0.out x9_1 p417 q417
       cases e417
       replace hx417_0 := (HB.out.cell (World.block_lt_of_cell? w _ hx417_0)).trans hx417_0
       replace hx417_1 := (HB.out.cell (World.block_lt_of_cell? w _ hx417_1)).trans hx417_1
       replace p417 := eq_true p417
       replace q417 := eq_true q417
       go_wp2_with (first | ((with_reducible refine gate_dst (N := 6) rfl ?_); refine bE 6 #[.int .i64 0, .int .i64 0] 23 ?_; intro gb418 hg w12 hbox hb; have hp0 := pA BK416 hb; have hv := vK HB hb; have n1_ := Am (bT hv hb); have n2_ := Am (hbox); have GE418 := kG hg hv; have hp1 := pK BK416 hb; obtain ⟨NB416_418, NB418_416⟩ := kXY hg hp1 BK416; clear HB; replace BK416 := hp0 BK416; have HB := n1_; have BK418 := n2_; clear n1_ n2_ hp0 hp1 hv; clear hb hbox hg; have u13 := kO NB418_416; have hcz14_0 : w12.cell? ⟨gb418, 0, none⟩ = some (.int .i64 0) := (kC BK418.out 0).trans rfl; have hcz14_1 : w12.cell? ⟨gb418, 1, none⟩ = some (.int .i64 0) := (kC BK418.out 1).trans rfl; have hfz14_0 := kF BK418.out 0; have hfz14_1 := kF BK418.out 1; have z15 := c2 BK416))
       go_roundg k1
       case measure => have := HK1.out; omega
       case rel => exact ⟨(wrap64 (x9_1 + 1)), (by first | rfl | (simp; done) | (simp [*]; done)), H', ⟨by have := HK1.out; omega⟩, ⟨by (with_reducible repeat (first | refine kN ?_ _ | refine kD ?_ | refine kA ?_ _)); refine kR ?_ NB416_418.out _; (with_reducible repeat (first | refine kN ?_ _ | refine kD ?_ | refine kA ?_ _)); refine kR ?_ NB416_418.out _; (with_reducible repeat (first | refine kN ?_ _ | refine kD ?_ | refine kA ?_ _)); exact BK416.out⟩, ⟨by repeat (first | (with_reducible first | exact HB.out | apply bA | apply bN | apply bD | refine bX ?_ (by assumption)) | exact HB.out)⟩⟩
     rw [if_neg c6] at H
     exact absurd H (by simp)
    rw [if_neg c5] at H
    exact absurd H (by simp)
   rw [if_neg c4] at H
   have c4b0 : decide (x9_1 < (l0.length : Int)) = false := decide_eq_false c4
   clear c4
   focus
    obtain rfl := Option.some.inj H
    go_wp2
    go_ret
    exact ⟨by first | rfl | (simp [errW_none, errW_some] <;> rfl) | (simp [*, errW_none, errW_some] <;> rfl), by repeat (first | (with_reducible first | exact HB.out | apply bA | apply bN | apply bD | refine bX ?_ (by assumption)) | exact HB.out)⟩
/-! ### impl_TimesAtPlace: function 20 -/
def impl_TimesAtPlace.f (k : Nat) (a0_0 : Int) (a0_1 : Int) (a0_2 : Int) (a1_0 : Int) (a1_1 : Int) : Option ((List (S23)) × Bool) := (impl_IsHand.f k a0_0 a0_1 a0_2).bind fun t421 => (if t421 = true then ((impl_isCoarse.f k a1_0 a1_1).bind fun t422 => (if t422 = true then (if a0_2 = 0 then (some (([] : List (S23)), false)) else ((impl_Hand_timesAt.f k a0_0 a0_1 a0_2 a1_0 a1_1).bind fun bt423 => (some (bt423.1, bt423.2)))) else (some (([] : List (S23)), false)))) else (some (([] : List (S23)), false)))
theorem impl_TimesAtPlace.mono : ∀ a0 a1 a2 a3 a4 k, LeO (impl_TimesAtPlace.f k a0 a1 a2 a3 a4) (impl_TimesAtPlace.f (k + 1) a0 a1 a2 a3 a4) := by
 intro a0 a1 a2 a3 a4 k
 unfold impl_TimesAtPlace.f
 repeat' first
   | (with_reducible exact impl_Hand_timesAt.mono _ _ _ _ _ _)
   | (with_reducible exact impl_IsHand.mono _ _ _ _)
   | (with_reducible exact impl_isCoarse.mono _ _ _)
   | (with_reducible exact LeO.refl _)
   | (with_reducible exact LeO.none _)
   | (with_reducible refine LeO.ite ?_ ?_)
   | (with_reducible refine LeO.bind ?_ (fun _ => ?_))
   | exact impl_Hand_timesAt.mono _ _ _ _ _ _
   | exact impl_IsHand.mono _ _ _ _
   | exact impl_isCoarse.mono _ _ _
   | exact LeO.none _
   | refine LeO.ite ?_ ?_
   | refine LeO.bind ?_ (fun _ => ?_)
set_option maxHeartbeats 8000000 in
set_option maxRecDepth 100000 in
theorem impl_TimesAtPlace.calls (k : Nat) (a0_0 : Int) (a0_1 : Int) (a0_2 : Int) (a1_0 : Int) (a1_1 : Int) (r1 : List (S23)) (r2 : Bool) (w : World) (h : impl_TimesAtPlace.f k a0_0 a0_1 a0_2 a1_0 a1_1 = some (r1, r2)) :
  Calls Try.prog 20 #[.agg #[.int .i64 a0_0, .int .i64 a0_1, .int .i64 a0_2], .agg #[.int .i64 a1_0, .int .i64 a1_1]] w fun e w' => ∃ v0_ : Value, e = .returned (.tuple #[v0_, .bool r2]) ∧ Kd.R k23 23 w' w.heap.size (fun _ => True) v0_ r1 ∧ Below w.heap.size w w' := by
 have hu25 := Try.underlying25; have hu23 := Try.underlying23
 have HB := Am (Below.refl w.heap.size w)
 have H : ((impl_IsHand.f k a0_0 a0_1 a0_2).bind fun t421 => (if t421 = true then ((impl_isCoarse.f k a1_0 a1_1).bind fun t422 => (if t422 = true then (if a0_2 = 0 then (some (([] : List (S23)), false)) else ((impl_Hand_timesAt.f k a0_0 a0_1 a0_2 a1_0 a1_1).bind fun bt423 => (some (bt423.1, bt423.2)))) else (some (([] : List (S23)), false)))) else (some (([] : List (S23)), false)))) = some (r1, r2) := h
 clear h
 replace H := Option.bind_eq_some_iff.mp H
 obtain ⟨t421, A30, H⟩ := H
 try dsimp only at H
 have A3 := Am A30
 clear A30
 by_cases c4 : t421 = true
 ·subst c4
  have H1 : ((impl_isCoarse.f k a1_0 a1_1).bind fun t422 => (if t422 = true then (if a0_2 = 0 then (some (([] : List (S23)), false)) else ((impl_Hand_timesAt.f k a0_0 a0_1 a0_2 a1_0 a1_1).bind fun bt423 => (some (bt423.1, bt423.2)))) else (some (([] : List (S23)), false)))) = some (r1, r2) := by rw [if_pos rfl] at H; exact H
  clear H
  have H := H1
  clear H1
  replace H := Option.bind_eq_some_iff.mp H
  obtain ⟨t422, A50, H⟩ := H
  try dsimp only at H
  have A5 := Am A50
  clear A50
  by_cases c6 : t422 = true
  ·subst c6
   have H1 : (if a0_2 = 0 then (some (([] : List (S23)), false)) else ((impl_Hand_timesAt.f k a0_0 a0_1 a0_2 a1_0 a1_1).bind fun bt423 => (some (bt423.1, bt423.2)))) = some (r1, r2) := by rw [if_pos rfl] at H; exact H
   clear H
   have H := H1
   clear H1
   by_cases c7 : a0_2 = 0
   ·rw [if_pos c7] at H
    have c7b0 : (a0_2 == 0) = true := beq_iff_eq.mpr c7
    have c7b1 : (a0_2 != 0) = false := bne_eq_false_iff_eq.mpr c7
    clear c7
    focus
     simp only [Option.some.injEq, Prod.mk.injEq] at H
     obtain ⟨rfl, rfl⟩ := H
     go_enter Try.func20, Try.ntmps20
     go_wp2_with (first | ((with_reducible refine gate_dst (N := 2) rfl ?_); refine bE 2 #[.int .i64 a0_0, .int .i64 a0_1, .int .i64 a0_2] 25 ?_; intro gb419 hg w8 hbox hb; have hv := vK HB hb; have n0_ := Am (bT hv hb); have n1_ := Am (hbox); have GE419 := kG hg hv; clear HB; have HB := n0_; have BK419 := n1_; clear n0_ n1_ hv; clear hb hbox hg) | ((with_reducible refine gate_dst (N := 3) rfl ?_); refine bE 3 #[.int .i64 a1_0, .int .i64 a1_1] 23 ?_; intro gb420 hg w9 hbox hb; have hp0 := pA BK419 hb; have hv := vK HB hb; have n1_ := Am (bT hv hb); have n2_ := Am (hbox); have GE420 := kG hg hv; have hp1 := pK BK419 hb; obtain ⟨NB419_420, NB420_419⟩ := kXY hg hp1 BK419; clear HB; replace BK419 := hp0 BK419; have HB := n1_; have BK420 := n2_; clear n1_ n2_ hp0 hp1 hv; clear hb hbox hg; have u10 := kO NB419_420; have z11 := c3 BK419) | ((with_reducible refine gate_callee (f := 37) rfl ?_); refine gL (some 7) Try.func37 #[.agg #[.int .i64 a0_0, .int .i64 a0_1, .int .i64 a0_2]] rfl ?_; (with_reducible refine (impl_IsHand.calls k a0_0 a0_1 a0_2 true _ A3.out).mono ?_); rintro e w12 ⟨rfl, hb⟩; refine ⟨_, rfl, ?_⟩; have hp0 := pA BK419 hb; have hv := vK HB hb; have n2_ := Am (bT hv hb); clear HB; replace BK419 := hp0 BK419; replace BK420 := hp0 BK420; have HB := n2_; clear n2_ hp0 hv; (try clear hb); have z13 := c2 BK420) | (go_at_call 23; (with_reducible refine (impl_isCoarse.calls k a1_0 a1_1 true _ A5.out).mono ?_); rintro e w14 ⟨rfl, hb⟩; have hp0 := pA BK419 hb; have hv := vK HB hb; have n2_ := Am (bT hv hb); clear HB; replace BK419 := hp0 BK419; replace BK420 := hp0 BK420; have HB := n2_; clear n2_ hp0 hv; (try clear hb); have z15 := c3 BK419))
     go_ret2
     exact ⟨_, by first | rfl | (simp [errW_none, errW_some] <;> rfl) | (simp [*, errW_none, errW_some] <;> rfl), by first | exact Kd.R_nil _ _ _ _ _ | exact Kd.N_nil _ _ _ _ _ | exact Kd.V_nil _ _ _ _ _ | exact Kd.Q_nil _ _ _ _ _ | exact Kd.S_nil _ _ _ _ _, by repeat (first | (with_reducible first | exact HB.out | apply bA | apply bN | apply bD | refine bX ?_ (by assumption)) | exact HB.out)⟩
   rw [if_neg c7] at H
   have c7b0 : (a0_2 == 0) = false := beq_eq_false_iff_ne.mpr c7
   have c7b1 : (a0_2 != 0) = true := bne_iff_ne.mpr c7
   replace H := Option.bind_eq_some_iff.mp H
   obtain ⟨⟨t423, t426⟩, A160, H⟩ := H
   try dsimp only at H
   have A16 := Am A160
   clear A160
   focus
    simp only [Option.some.injEq, Prod.mk.injEq] at H
    obtain ⟨rfl, rfl⟩ := H
    go_enter Try.func20, Try.ntmps20
    go_wp2_with (first | ((with_reducible refine gate_dst (N := 2) rfl ?_); refine bE 2 #[.int .i64 a0_0, .int .i64 a0_1, .int .i64 a0_2] 25 ?_; intro gb419 hg w17 hbox hb; have hv := vK HB hb; have n0_ := Am (bT hv hb); have n1_ := Am (hbox); have GE419 := kG hg hv; clear HB; have HB := n0_; have BK419 := n1_; clear n0_ n1_ hv; clear hb hbox hg) | ((with_reducible refine gate_dst (N := 3) rfl ?_); refine bE 3 #[.int .i64 a1_0, .int .i64 a1_1] 23 ?_; intro gb420 hg w18 hbox hb; have hp0 := pA BK419 hb; have hv := vK HB hb; have n1_ := Am (bT hv hb); have n2_ := Am (hbox); have GE420 := kG hg hv; have hp1 := pK BK419 hb; obtain ⟨NB419_420, NB420_419⟩ := kXY hg hp1 BK419; clear HB; replace BK419 := hp0 BK419; have HB := n1_; have BK420 := n2_; clear n1_ n2_ hp0 hp1 hv; clear hb hbox hg; have u19 := kO NB419_420; have z20 := c3 BK419) | ((with_reducible refine gate_callee (f := 37) rfl ?_); refine gL (some 7) Try.func37 #[.agg #[.int .i64 a0_0, .int .i64 a0_1, .int .i64 a0_2]] rfl ?_; (with_reducible refine (impl_IsHand.calls k a0_0 a0_1 a0_2 true _ A3.out).mono ?_); rintro e w21 ⟨rfl, hb⟩; refine ⟨_, rfl, ?_⟩; have hp0 := pA BK419 hb; have hv := vK HB hb; have n2_ := Am (bT hv hb); clear HB; replace BK419 := hp0 BK419; replace BK420 := hp0 BK420; have HB := n2_; clear n2_ hp0 hv; (try clear hb); have z22 := c2 BK420) | (go_at_call 23; (with_reducible refine (impl_isCoarse.calls k a1_0 a1_1 true _ A5.out).mono ?_); rintro e w23 ⟨rfl, hb⟩; have hp0 := pA BK419 hb; have hv := vK HB hb; have n2_ := Am (bT hv hb); clear HB; replace BK419 := hp0 BK419; replace BK420 := hp0 BK420; have HB := n2_; clear n2_ hp0 hv; (try clear hb); have z24 := c3 BK419; have z25 := c2 BK420) | ((with_reducible refine gate_callee (f := 42) rfl ?_); refine gL (some 21) Try.func42 #[.agg #[.int .i64 a0_0, .int .i64 a0_1, .int .i64 a0_2], .agg #[.int .i64 a1_0, .int .i64 a1_1]] rfl ?_; (with_reducible refine (impl_Hand_timesAt.calls k a0_0 a0_1 a0_2 a1_0 a1_1 t423 t426 _ A16.out).mono ?_); rintro e w26 ⟨v424, rfl, ho0, hb⟩; refine ⟨_, rfl, ?_⟩; have n0_ := Am (Kd.R_lower (Kd.R_newB ho0 (g := gb420) (o := .cells #[.int .i64 a1_0, .int .i64 a1_1] 23 (0, 0)) (kU BK420)) (bZ (by repeat (first | (with_reducible first | exact HB.out | apply bA | apply bN | apply bD | refine bX ?_ (by assumption)) | exact HB.out)))); have hp0 := pA BK419 hb; have hv := vK HB hb; have n3_ := Am (bT hv hb); clear HB; have HO425 := n0_; replace BK419 := hp0 BK419; replace BK420 := hp0 BK420; have HB := n3_; clear n0_ n3_ hp0 hv; (try clear hb); (try clear ho0)))
    go_ret2
    exact ⟨_, by first | rfl | (simp [errW_none, errW_some] <;> rfl) | (simp [*, errW_none, errW_some] <;> rfl), by (with_reducible repeat (first | apply Kd.R_alloc | apply Kd.R_drewN | apply Kd.R_drew)); exact Kd.R_mono HO425.out (fun _ hk => trivial), by repeat (first | (with_reducible first | exact HB.out | apply bA | apply bN | apply bD | refine bX ?_ (by assumption)) | exact HB.out)⟩
  replace c6 := Bool.eq_false_iff.mpr c6
  subst c6
  have H1 : (some (([] : List (S23)), false)) = some (r1, r2) := by rw [if_neg (show ¬ (false = true) by decide)] at H; exact H
  clear H
  have H := H1
  clear H1
  focus
   simp only [Option.some.injEq, Prod.mk.injEq] at H
   obtain ⟨rfl, rfl⟩ := H
   go_enter Try.func20, Try.ntmps20
   go_wp2_with (first | ((with_reducible refine gate_dst (N := 2) rfl ?_); refine bE 2 #[.int .i64 a0_0, .int .i64 a0_1, .int .i64 a0_2] 25 ?_; intro gb419 hg w27 hbox hb; have hv := vK HB hb; have n0_ := Am (bT hv hb); have n1_ := Am (hbox); have GE419 := kG hg hv; clear HB; have HB := n0_; have BK419 := n1_; clear n0_ n1_ hv; clear hb hbox hg) | ((with_reducible refine gate_dst (N := 3) rfl ?_); refine bE 3 #[.int .i64 a1_0, .int .i64 a1_1] 23 ?_; intro gb420 hg w28 hbox hb; have hp0 := pA BK419 hb; have hv := vK HB hb; have n1_ := Am (bT hv hb); have n2_ := Am (hbox); have GE420 := kG hg hv; have hp1 := pK BK419 hb; obtain ⟨NB419_420, NB420_419⟩ := kXY hg hp1 BK419; clear HB; replace BK419 := hp0 BK419; have HB := n1_; have BK420 := n2_; clear n1_ n2_ hp0 hp1 hv; clear hb hbox hg; have u29 := kO NB419_420; have z30 := c3 BK419) | ((with_reducible refine gate_callee (f := 37) rfl ?_); refine gL (some 7) Try.func37 #[.agg #[.int .i64 a0_0, .int .i64 a0_1, .int .i64 a0_2]] rfl ?_; (with_reducible refine (impl_IsHand.calls k a0_0 a0_1 a0_2 true _ A3.out).mono ?_); rintro e w31 ⟨rfl, hb⟩; refine ⟨_, rfl, ?_⟩; have hp0 := pA BK419 hb; have hv := vK HB hb; have n2_ := Am (bT hv hb); clear HB; replace BK419 := hp0 BK419; replace BK420 := hp0 BK420; have HB := n2_; clear n2_ hp0 hv; (try clear hb); have z32 := c2 BK420) | (go_at_call 23; (with_reducible refine (impl_isCoarse.calls k a1_0 a1_1 false _ A5.out).mono ?_); rintro e w33 ⟨rfl, hb⟩; have hp0 := pA BK419 hb; have hv := vK HB hb; have n2_ := Am (bT hv hb); clear HB; replace BK419 := hp0 BK419; replace BK420 := hp0 BK420; have HB := n2_; clear n2_ hp0 hv; (try clear hb)))
   go_ret2
   exact ⟨_, by first | rfl | (simp [errW_none, errW_some] <;> rfl) | (simp [*, errW_none, errW_some] <;> rfl), by first | exact Kd.R_nil _ _ _ _ _ | exact Kd.N_nil _ _ _ _ _ | exact Kd.V_nil _ _ _ _ _ | exact Kd.Q_nil _ _ _ _ _ | exact Kd.S_nil _ _ _ _ _, by repeat (first | (with_reducible first | exact HB.out | apply bA | apply bN | apply bD | refine bX ?_ (by assumption)) | exact HB.out)⟩
 replace c4 := Bool.eq_false_iff.mpr c4
 subst c4
 have H1 : (some (([] : List (S23)), false)) = some (r1, r2) := by rw [if_neg (show ¬ (false = true) by decide)] at H; exact H
 clear H
 have H := H1
 clear H1
 focus
  simp only [Option.some.injEq, Prod.mk.injEq] at H
  obtain ⟨rfl, rfl⟩ := H
  go_enter Try.func20, Try.ntmps20
  go_wp2_with (first | ((with_reducible refine gate_dst (N := 2) rfl ?_); refine bE 2 #[.int .i64 a0_0, .int .i64 a0_1, .int .i64 a0_2] 25 ?_; intro gb419 hg w34 hbox hb; have hv := vK HB hb; have n0_ := Am (bT hv hb); have n1_ := Am (hbox); have GE419 := kG hg hv; clear HB; have HB := n0_; have BK419 := n1_; clear n0_ n1_ hv; clear hb hbox hg) | ((with_reducible refine gate_dst (N := 3) rfl ?_); refine bE 3 #[.int .i64 a1_0, .int .i64 a1_1] 23 ?_; intro gb420 hg w35 hbox hb; have hp0 := pA BK419 hb; have hv := vK HB hb; have n1_ := Am (bT hv hb); have n2_ := Am (hbox); have GE420 := kG hg hv; have hp1 := pK BK419 hb; obtain ⟨NB419_420, NB420_419⟩ := kXY hg hp1 BK419; clear HB; replace BK419 := hp0 BK419; have HB := n1_; have BK420 := n2_; clear n1_ n2_ hp0 hp1 hv; clear hb hbox hg; have u36 := kO NB419_420; have z37 := c3 BK419) | ((with_reducible refine gate_callee (f := 37) rfl ?_); refine gL (some 7) Try.func37 #[.agg #[.int .i64 a0_0, .int .i64 a0_1, .int .i64 a0_2]] rfl ?_; (with_reducible refine (impl_IsHand.calls k a0_0 a0_1 a0_2 false _ A3.out).mono ?_); rintro e w38 ⟨rfl, hb⟩; refine ⟨_, rfl, ?_⟩; have hp0 := pA BK419 hb; have hv := vK HB hb; have n2_ := Am (bT hv hb); clear HB; replace BK419 := hp0 BK419; replace BK420 := hp0 BK420; have HB := n2_; clear n2_ hp0 hv; (try clear hb)))
  go_ret2
  exact ⟨_, by first | rfl | (simp [errW_none, errW_some] <;> rfl) | (simp [*, errW_none, errW_some] <;> rfl), by first | exact Kd.R_nil _ _ _ _ _ | exact Kd.N_nil _ _ _ _ _ | exact Kd.V_nil _ _ _ _ _ | exact Kd.Q_nil _ _ _ _ _ | exact Kd.S_nil _ _ _ _ _, by repeat (first | (with_reducible first | exact HB.out | apply bA | apply bN | apply bD | refine bX ?_ (by assumption)) | exact HB.out)⟩
/-! ### spec_TimesAtPlace: function 21 -/
def spec_TimesAtPlace.f (k : Nat) (a0_0 : Int) (a0_1 : Int) (a0_2 : Int) (a1_0 : Int) (a1_1 : Int) : Option ((List (S23)) × Bool) := (spec_meGood.f k a0_0 a0_1 a0_2).bind fun t429 => (if t429 = true then (if a0_2 = 0 then (some (([] : List (S23)), false)) else ((spec_mePlace.f k a1_0 a1_1).bind fun t430 => (if t430 = true then ((spec_meTimes.f k a0_0 a0_1 a0_2 a1_0 a1_1).bind fun bt431 => (some (bt431.1, bt431.2))) else (some (([] : List (S23)), false))))) else (some (([] : List (S23)), false)))
theorem spec_TimesAtPlace.mono : ∀ a0 a1 a2 a3 a4 k, LeO (spec_TimesAtPlace.f k a0 a1 a2 a3 a4) (spec_TimesAtPlace.f (k + 1) a0 a1 a2 a3 a4) := by
 intro a0 a1 a2 a3 a4 k
 unfold spec_TimesAtPlace.f
 repeat' first
   | (with_reducible exact spec_meGood.mono _ _ _ _)
   | (with_reducible exact spec_mePlace.mono _ _ _)
   | (with_reducible exact spec_meTimes.mono _ _ _ _ _ _)
   | (with_reducible exact LeO.refl _)
   | (with_reducible exact LeO.none _)
   | (with_reducible refine LeO.ite ?_ ?_)
   | (with_reducible refine LeO.bind ?_ (fun _ => ?_))
   | exact spec_meGood.mono _ _ _ _
   | exact spec_mePlace.mono _ _ _
   | exact spec_meTimes.mono _ _ _ _ _ _
   | exact LeO.none _
   | refine LeO.ite ?_ ?_
   | refine LeO.bind ?_ (fun _ => ?_)
set_option maxHeartbeats 8000000 in
set_option maxRecDepth 100000 in
theorem spec_TimesAtPlace.calls (k : Nat) (a0_0 : Int) (a0_1 : Int) (a0_2 : Int) (a1_0 : Int) (a1_1 : Int) (r1 : List (S23)) (r2 : Bool) (w : World) (h : spec_TimesAtPlace.f k a0_0 a0_1 a0_2 a1_0 a1_1 = some (r1, r2)) :
  Calls Try.prog 21 #[.agg #[.int .i64 a0_0, .int .i64 a0_1, .int .i64 a0_2], .agg #[.int .i64 a1_0, .int .i64 a1_1]] w fun e w' => ∃ v0_ : Value, e = .returned (.tuple #[v0_, .bool r2]) ∧ Kd.R k23 23 w' w.heap.size (fun _ => True) v0_ r1 ∧ Below w.heap.size w w' := by
 have hu25 := Try.underlying25; have hu23 := Try.underlying23
 have HB := Am (Below.refl w.heap.size w)
 have H : ((spec_meGood.f k a0_0 a0_1 a0_2).bind fun t429 => (if t429 = true then (if a0_2 = 0 then (some (([] : List (S23)), false)) else ((spec_mePlace.f k a1_0 a1_1).bind fun t430 => (if t430 = true then ((spec_meTimes.f k a0_0 a0_1 a0_2 a1_0 a1_1).bind fun bt431 => (some (bt431.1, bt431.2))) else (some (([] : List (S23)), false))))) else (some (([] : List (S23)), false)))) = some (r1, r2) := h
 clear h
 replace H := Option.bind_eq_some_iff.mp H
 obtain ⟨t429, A30, H⟩ := H
 try dsimp only at H
 have A3 := Am A30
 clear A30
 by_cases c4 : t429 = true
 ·subst c4
  have H1 : (if a0_2 = 0 then (some (([] : List (S23)), false)) else ((spec_mePlace.f k a1_0 a1_1).bind fun t430 => (if t430 = true then ((spec_meTimes.f k a0_0 a0_1 a0_2 a1_0 a1_1).bind fun bt431 => (some (bt431.1, bt431.2))) else (some (([] : List (S23)), false))))) = some (r1, r2) := by rw [if_pos rfl] at H; exact H
  clear H
  have H := H1
  clear H1
  by_cases c5 : a0_2 = 0
  ·rw [if_pos c5] at H
   have c5b0 : (a0_2 == 0) = true := beq_iff_eq.mpr c5
   have c5b1 : (a0_2 != 0) = false := bne_eq_false_iff_eq.mpr c5
   clear c5
   focus
    simp only [Option.some.injEq, Prod.mk.injEq] at H
    obtain ⟨rfl, rfl⟩ := H
    go_enter Try.func21, Try.ntmps21
    go_wp2_with (first | ((with_reducible refine gate_dst (N := 2) rfl ?_); refine bE 2 #[.int .i64 a0_0, .int .i64 a0_1, .int .i64 a0_2] 25 ?_; intro gb427 hg w6 hbox hb; have hv := vK HB hb; have n0_ := Am (bT hv hb); have n1_ := Am (hbox); have GE427 := kG hg hv; clear HB; have HB := n0_; have BK427 := n1_; clear n0_ n1_ hv; clear hb hbox hg) | ((with_reducible refine gate_dst (N := 3) rfl ?_); refine bE 3 #[.int .i64 a1_0, .int .i64 a1_1] 23 ?_; intro gb428 hg w7 hbox hb; have hp0 := pA BK427 hb; have hv := vK HB hb; have n1_ := Am (bT hv hb); have n2_ := Am (hbox); have GE428 := kG hg hv; have hp1 := pK BK427 hb; obtain ⟨NB427_428, NB428_427⟩ := kXY hg hp1 BK427; clear HB; replace BK427 := hp0 BK427; have HB := n1_; have BK428 := n2_; clear n1_ n2_ hp0 hp1 hv; clear hb hbox hg; have u8 := kO NB427_428; have z9 := c3 BK427) | ((with_reducible refine gate_callee (f := 38) rfl ?_); refine gL (some 7) Try.func38 #[.agg #[.int .i64 a0_0, .int .i64 a0_1, .int .i64 a0_2]] rfl ?_; (with_reducible refine (spec_meGood.calls k a0_0 a0_1 a0_2 true _ A3.out).mono ?_); rintro e w10 ⟨rfl, hb⟩; refine ⟨_, rfl, ?_⟩; have hp0 := pA BK427 hb; have hv := vK HB hb; have n2_ := Am (bT hv hb); clear HB; replace BK427 := hp0 BK427; replace BK428 := hp0 BK428; have HB := n2_; clear n2_ hp0 hv; (try clear hb); have z11 := c3 BK427))
    go_ret2
    exact ⟨_, by first | rfl | (simp [errW_none, errW_some] <;> rfl) | (simp [*, errW_none, errW_some] <;> rfl), by first | exact Kd.R_nil _ _ _ _ _ | exact Kd.N_nil _ _ _ _ _ | exact Kd.V_nil _ _ _ _ _ | exact Kd.Q_nil _ _ _ _ _ | exact Kd.S_nil _ _ _ _ _, by repeat (first | (with_reducible first | exact HB.out | apply bA | apply bN | apply bD | refine bX ?_ (by assumption)) | exact HB.out)⟩
  rw [if_neg c5] at H
  have c5b0 : (a0_2 == 0) = false := beq_eq_false_iff_ne.mpr c5
  have c5b1 : (a0_2 != 0) = true := bne_iff_ne.mpr c5
  replace H := Option.bind_eq_some_iff.mp H
  obtain ⟨t430, A120, H⟩ := H
  try dsimp only at H
  have A12 := Am A120
  clear A120
  by_cases c13 : t430 = true
  ·subst c13
   have H1 : ((spec_meTimes.f k a0_0 a0_1 a0_2 a1_0 a1_1).bind fun bt431 => (some (bt431.1, bt431.2))) = some (r1, r2) := by rw [if_pos rfl] at H; exact H
   clear H
   have H := H1
   clear H1
   replace H := Option.bind_eq_some_iff.mp H
   obtain ⟨⟨t431, t434⟩, A140, H⟩ := H
   try dsimp only at H
   have A14 := Am A140
   clear A140
   focus
    simp only [Option.some.injEq, Prod.mk.injEq] at H
    obtain ⟨rfl, rfl⟩ := H
    go_enter Try.func21, Try.ntmps21
    go_wp2_with (first | ((with_reducible refine gate_dst (N := 2) rfl ?_); refine bE 2 #[.int .i64 a0_0, .int .i64 a0_1, .int .i64 a0_2] 25 ?_; intro gb427 hg w15 hbox hb; have hv := vK HB hb; have n0_ := Am (bT hv hb); have n1_ := Am (hbox); have GE427 := kG hg hv; clear HB; have HB := n0_; have BK427 := n1_; clear n0_ n1_ hv; clear hb hbox hg) | ((with_reducible refine gate_dst (N := 3) rfl ?_); refine bE 3 #[.int .i64 a1_0, .int .i64 a1_1] 23 ?_; intro gb428 hg w16 hbox hb; have hp0 := pA BK427 hb; have hv := vK HB hb; have n1_ := Am (bT hv hb); have n2_ := Am (hbox); have GE428 := kG hg hv; have hp1 := pK BK427 hb; obtain ⟨NB427_428, NB428_427⟩ := kXY hg hp1 BK427; clear HB; replace BK427 := hp0 BK427; have HB := n1_; have BK428 := n2_; clear n1_ n2_ hp0 hp1 hv; clear hb hbox hg; have u17 := kO NB427_428; have z18 := c3 BK427) | ((with_reducible refine gate_callee (f := 38) rfl ?_); refine gL (some 7) Try.func38 #[.agg #[.int .i64 a0_0, .int .i64 a0_1, .int .i64 a0_2]] rfl ?_; (with_reducible refine (spec_meGood.calls k a0_0 a0_1 a0_2 true _ A3.out).mono ?_); rintro e w19 ⟨rfl, hb⟩; refine ⟨_, rfl, ?_⟩; have hp0 := pA BK427 hb; have hv := vK HB hb; have n2_ := Am (bT hv hb); clear HB; replace BK427 := hp0 BK427; replace BK428 := hp0 BK428; have HB := n2_; clear n2_ hp0 hv; (try clear hb); have z20 := c3 BK427; have z21 := c2 BK428) | (go_at_call 26; (with_reducible refine (spec_mePlace.calls k a1_0 a1_1 true _ A12.out).mono ?_); rintro e w22 ⟨rfl, hb⟩; have hp0 := pA BK427 hb; have hv := vK HB hb; have n2_ := Am (bT hv hb); clear HB; replace BK427 := hp0 BK427; replace BK428 := hp0 BK428; have HB := n2_; clear n2_ hp0 hv; (try clear hb); have z23 := c3 BK427; have z24 := c2 BK428) | ((with_reducible refine gate_callee (f := 27) rfl ?_); refine gL (some 21) Try.func27 #[.agg #[.int .i64 a0_0, .int .i64 a0_1, .int .i64 a0_2], .agg #[.int .i64 a1_0, .int .i64 a1_1]] rfl ?_; (with_reducible refine (spec_meTimes.calls k a0_0 a0_1 a0_2 a1_0 a1_1 t431 t434 _ A14.out).mono ?_); rintro e w25 ⟨v432, rfl, ho0, hb⟩; refine ⟨_, rfl, ?_⟩; have n0_ := Am (Kd.R_lower (Kd.R_newB ho0 (g := gb428) (o := .cells #[.int .i64 a1_0, .int .i64 a1_1] 23 (0, 0)) (kU BK428)) (bZ (by repeat (first | (with_reducible first | exact HB.out | apply bA | apply bN | apply bD | refine bX ?_ (by assumption)) | exact HB.out)))); have hp0 := pA BK427 hb; have hv := vK HB hb; have n3_ := Am (bT hv hb); clear HB; have HO433 := n0_; replace BK427 := hp0 BK427; replace BK428 := hp0 BK428; have HB := n3_; clear n0_ n3_ hp0 hv; (try clear hb); (try clear ho0)))
    go_ret2
    exact ⟨_, by first | rfl | (simp [errW_none, errW_some] <;> rfl) | (simp [*, errW_none, errW_some] <;> rfl), by (with_reducible repeat (first | apply Kd.R_alloc | apply Kd.R_drewN | apply Kd.R_drew)); exact Kd.R_mono HO433.out (fun _ hk => trivial), by repeat (first | (with_reducible first | exact HB.out | apply bA | apply bN | apply bD | refine bX ?_ (by assumption)) | exact HB.out)⟩
  replace c13 := Bool.eq_false_iff.mpr c13
  subst c13
  have H1 : (some (([] : List (S23)), false)) = some (r1, r2) := by rw [if_neg (show ¬ (false = true) by decide)] at H; exact H
  clear H
  have H := H1
  clear H1
  focus
   simp only [Option.some.injEq, Prod.mk.injEq] at H
   obtain ⟨rfl, rfl⟩ := H
   go_enter Try.func21, Try.ntmps21
   go_wp2_with (first | ((with_reducible refine gate_dst (N := 2) rfl ?_); refine bE 2 #[.int .i64 a0_0, .int .i64 a0_1, .int .i64 a0_2] 25 ?_; intro gb427 hg w26 hbox hb; have hv := vK HB hb; have n0_ := Am (bT hv hb); have n1_ := Am (hbox); have GE427 := kG hg hv; clear HB; have HB := n0_; have BK427 := n1_; clear n0_ n1_ hv; clear hb hbox hg) | ((with_reducible refine gate_dst (N := 3) rfl ?_); refine bE 3 #[.int .i64 a1_0, .int .i64 a1_1] 23 ?_; intro gb428 hg w27 hbox hb; have hp0 := pA BK427 hb; have hv := vK HB hb; have n1_ := Am (bT hv hb); have n2_ := Am (hbox); have GE428 := kG hg hv; have hp1 := pK BK427 hb; obtain ⟨NB427_428, NB428_427⟩ := kXY hg hp1 BK427; clear HB; replace BK427 := hp0 BK427; have HB := n1_; have BK428 := n2_; clear n1_ n2_ hp0 hp1 hv; clear hb hbox hg; have u28 := kO NB427_428; have z29 := c3 BK427) | ((with_reducible refine gate_callee (f := 38) rfl ?_); refine gL (some 7) Try.func38 #[.agg #[.int .i64 a0_0, .int .i64 a0_1, .int .i64 a0_2]] rfl ?_; (with_reducible refine (spec_meGood.calls k a0_0 a0_1 a0_2 true _ A3.out).mono ?_); rintro e w30 ⟨rfl, hb⟩; refine ⟨_, rfl, ?_⟩; have hp0 := pA BK427 hb; have hv := vK HB hb; have n2_ := Am (bT hv hb); clear HB; replace BK427 := hp0 BK427; replace BK428 := hp0 BK428; have HB := n2_; clear n2_ hp0 hv; (try clear hb); have z31 := c3 BK427; have z32 := c2 BK428) | (go_at_call 26; (with_reducible refine (spec_mePlace.calls k a1_0 a1_1 false _ A12.out).mono ?_); rintro e w33 ⟨rfl, hb⟩; have hp0 := pA BK427 hb; have hv := vK HB hb; have n2_ := Am (bT hv hb); clear HB; replace BK427 := hp0 BK427; replace BK428 := hp0 BK428; have HB := n2_; clear n2_ hp0 hv; (try clear hb)))
   go_ret2
   exact ⟨_, by first | rfl | (simp [errW_none, errW_some] <;> rfl) | (simp [*, errW_none, errW_some] <;> rfl), by first | exact Kd.R_nil _ _ _ _ _ | exact Kd.N_nil _ _ _ _ _ | exact Kd.V_nil _ _ _ _ _ | exact Kd.Q_nil _ _ _ _ _ | exact Kd.S_nil _ _ _ _ _, by repeat (first | (with_reducible first | exact HB.out | apply bA | apply bN | apply bD | refine bX ?_ (by assumption)) | exact HB.out)⟩
 replace c4 := Bool.eq_false_iff.mpr c4
 subst c4
 have H1 : (some (([] : List (S23)), false)) = some (r1, r2) := by rw [if_neg (show ¬ (false = true) by decide)] at H; exact H
 clear H
 have H := H1
 clear H1
 focus
  simp only [Option.some.injEq, Prod.mk.injEq] at H
  obtain ⟨rfl, rfl⟩ := H
  go_enter Try.func21, Try.ntmps21
  go_wp2_with (first | ((with_reducible refine gate_dst (N := 2) rfl ?_); refine bE 2 #[.int .i64 a0_0, .int .i64 a0_1, .int .i64 a0_2] 25 ?_; intro gb427 hg w34 hbox hb; have hv := vK HB hb; have n0_ := Am (bT hv hb); have n1_ := Am (hbox); have GE427 := kG hg hv; clear HB; have HB := n0_; have BK427 := n1_; clear n0_ n1_ hv; clear hb hbox hg) | ((with_reducible refine gate_dst (N := 3) rfl ?_); refine bE 3 #[.int .i64 a1_0, .int .i64 a1_1] 23 ?_; intro gb428 hg w35 hbox hb; have hp0 := pA BK427 hb; have hv := vK HB hb; have n1_ := Am (bT hv hb); have n2_ := Am (hbox); have GE428 := kG hg hv; have hp1 := pK BK427 hb; obtain ⟨NB427_428, NB428_427⟩ := kXY hg hp1 BK427; clear HB; replace BK427 := hp0 BK427; have HB := n1_; have BK428 := n2_; clear n1_ n2_ hp0 hp1 hv; clear hb hbox hg; have u36 := kO NB427_428; have z37 := c3 BK427) | ((with_reducible refine gate_callee (f := 38) rfl ?_); refine gL (some 7) Try.func38 #[.agg #[.int .i64 a0_0, .int .i64 a0_1, .int .i64 a0_2]] rfl ?_; (with_reducible refine (spec_meGood.calls k a0_0 a0_1 a0_2 false _ A3.out).mono ?_); rintro e w38 ⟨rfl, hb⟩; refine ⟨_, rfl, ?_⟩; have hp0 := pA BK427 hb; have hv := vK HB hb; have n2_ := Am (bT hv hb); clear HB; replace BK427 := hp0 BK427; replace BK428 := hp0 BK428; have HB := n2_; clear n2_ hp0 hv; (try clear hb)))
  go_ret2
  exact ⟨_, by first | rfl | (simp [errW_none, errW_some] <;> rfl) | (simp [*, errW_none, errW_some] <;> rfl), by first | exact Kd.R_nil _ _ _ _ _ | exact Kd.N_nil _ _ _ _ _ | exact Kd.V_nil _ _ _ _ _ | exact Kd.Q_nil _ _ _ _ _ | exact Kd.S_nil _ _ _ _ _, by repeat (first | (with_reducible first | exact HB.out | apply bA | apply bN | apply bD | refine bX ?_ (by assumption)) | exact HB.out)⟩
/-! ### spec_HandAt: function 22 -/
def spec_HandAt.f (k : Nat) (a0_0 : Int) (a0_1 : Int) (a0_2 : Int) (a1_0 : Int) (a1_1 : Int) : Option (Int × Int × Bool) := (spec_meGood.f k a0_0 a0_1 a0_2).bind fun t438 => (if t438 = true then ((spec_diGood.f k a1_0 a1_1).bind fun t439 => (if t439 = true then ((spec_meAt.f k a0_0 a0_1 a0_2 a1_0 a1_1).bind fun bt440 => (some (bt440.1, bt440.2.1, bt440.2.2))) else (some (0, 0, false)))) else (some (0, 0, false)))
theorem spec_HandAt.mono : ∀ a0 a1 a2 a3 a4 k, LeO (spec_HandAt.f k a0 a1 a2 a3 a4) (spec_HandAt.f (k + 1) a0 a1 a2 a3 a4) := by
 intro a0 a1 a2 a3 a4 k
 unfold spec_HandAt.f
 repeat' first
   | (with_reducible exact spec_diGood.mono _ _ _)
   | (with_reducible exact spec_meAt.mono _ _ _ _ _ _)
   | (with_reducible exact spec_meGood.mono _ _ _ _)
   | (with_reducible exact LeO.refl _)
   | (with_reducible exact LeO.none _)
   | (with_reducible refine LeO.ite ?_ ?_)
   | (with_reducible refine LeO.bind ?_ (fun _ => ?_))
   | exact spec_diGood.mono _ _ _
   | exact spec_meAt.mono _ _ _ _ _ _
   | exact spec_meGood.mono _ _ _ _
   | exact LeO.none _
   | refine LeO.ite ?_ ?_
   | refine LeO.bind ?_ (fun _ => ?_)
set_option maxHeartbeats 8000000 in
set_option maxRecDepth 100000 in
theorem spec_HandAt.calls (k : Nat) (a0_0 : Int) (a0_1 : Int) (a0_2 : Int) (a1_0 : Int) (a1_1 : Int) (r1 : Int) (r2 : Int) (r3 : Bool) (w : World) (h : spec_HandAt.f k a0_0 a0_1 a0_2 a1_0 a1_1 = some (r1, r2, r3)) :
  Calls Try.prog 22 #[.agg #[.int .i64 a0_0, .int .i64 a0_1, .int .i64 a0_2], .agg #[.int .i64 a1_0, .int .i64 a1_1]] w fun e w' => e = .returned (.tuple #[.agg #[.int .i64 r1, .int .i64 r2], .bool r3]) ∧ Below w.heap.size w w' := by
 have hu25 := Try.underlying25; have hu23 := Try.underlying23
 have HB := Am (Below.refl w.heap.size w)
 have H : ((spec_meGood.f k a0_0 a0_1 a0_2).bind fun t438 => (if t438 = true then ((spec_diGood.f k a1_0 a1_1).bind fun t439 => (if t439 = true then ((spec_meAt.f k a0_0 a0_1 a0_2 a1_0 a1_1).bind fun bt440 => (some (bt440.1, bt440.2.1, bt440.2.2))) else (some (0, 0, false)))) else (some (0, 0, false)))) = some (r1, r2, r3) := h
 clear h
 replace H := Option.bind_eq_some_iff.mp H
 obtain ⟨t438, A30, H⟩ := H
 try dsimp only at H
 have A3 := Am A30
 clear A30
 by_cases c4 : t438 = true
 ·subst c4
  have H1 : ((spec_diGood.f k a1_0 a1_1).bind fun t439 => (if t439 = true then ((spec_meAt.f k a0_0 a0_1 a0_2 a1_0 a1_1).bind fun bt440 => (some (bt440.1, bt440.2.1, bt440.2.2))) else (some (0, 0, false)))) = some (r1, r2, r3) := by rw [if_pos rfl] at H; exact H
  clear H
  have H := H1
  clear H1
  replace H := Option.bind_eq_some_iff.mp H
  obtain ⟨t439, A50, H⟩ := H
  try dsimp only at H
  have A5 := Am A50
  clear A50
  by_cases c6 : t439 = true
  ·subst c6
   have H1 : ((spec_meAt.f k a0_0 a0_1 a0_2 a1_0 a1_1).bind fun bt440 => (some (bt440.1, bt440.2.1, bt440.2.2))) = some (r1, r2, r3) := by rw [if_pos rfl] at H; exact H
   clear H
   have H := H1
   clear H1
   replace H := Option.bind_eq_some_iff.mp H
   obtain ⟨⟨t440, t441, t442⟩, A70, H⟩ := H
   try dsimp only at H
   have A7 := Am A70
   clear A70
   focus
    simp only [Option.some.injEq, Prod.mk.injEq] at H
    obtain ⟨rfl, rfl, rfl⟩ := H
    go_enter Try.func22, Try.ntmps22
    go_wp2_with (first | ((with_reducible refine gate_dst (N := 2) rfl ?_); refine bE 2 #[.int .i64 a0_0, .int .i64 a0_1, .int .i64 a0_2] 25 ?_; intro gb435 hg w8 hbox hb; have hv := vK HB hb; have n0_ := Am (bT hv hb); have n1_ := Am (hbox); have GE435 := kG hg hv; clear HB; have HB := n0_; have BK435 := n1_; clear n0_ n1_ hv; clear hb hbox hg) | ((with_reducible refine gate_dst (N := 3) rfl ?_); refine bE 3 #[.int .i64 a1_0, .int .i64 a1_1] 23 ?_; intro gb436 hg w9 hbox hb; have hp0 := pA BK435 hb; have hv := vK HB hb; have n1_ := Am (bT hv hb); have n2_ := Am (hbox); have GE436 := kG hg hv; have hp1 := pK BK435 hb; obtain ⟨NB435_436, NB436_435⟩ := kXY hg hp1 BK435; clear HB; replace BK435 := hp0 BK435; have HB := n1_; have BK436 := n2_; clear n1_ n2_ hp0 hp1 hv; clear hb hbox hg) | ((with_reducible refine gate_dst (N := 4) rfl ?_); refine bE 4 #[.int .i64 0, .int .i64 0] 23 ?_; intro gb437 hg w10 hbox hb; have hp0 := pA BK435 hb; have hv := vK HB hb; have n2_ := Am (bT hv hb); have n3_ := Am (hbox); have GE437 := kG hg hv; have hp1 := pK BK435 hb; obtain ⟨NB435_437, NB437_435⟩ := kXY hg hp1 BK435; obtain ⟨NB436_437, NB437_436⟩ := kXY hg hp1 BK436; clear HB; replace BK435 := hp0 BK435; replace BK436 := hp0 BK436; have HB := n2_; have BK437 := n3_; clear n2_ n3_ hp0 hp1 hv; clear hb hbox hg; have u11 := kO NB435_436; have u12 := kO NB435_437; have z13 := c3 BK435) | ((with_reducible refine gate_callee (f := 38) rfl ?_); refine gL (some 7) Try.func38 #[.agg #[.int .i64 a0_0, .int .i64 a0_1, .int .i64 a0_2]] rfl ?_; (with_reducible refine (spec_meGood.calls k a0_0 a0_1 a0_2 true _ A3.out).mono ?_); rintro e w14 ⟨rfl, hb⟩; refine ⟨_, rfl, ?_⟩; have hp0 := pA BK435 hb; have hv := vK HB hb; have n3_ := Am (bT hv hb); clear HB; replace BK435 := hp0 BK435; replace BK436 := hp0 BK436; replace BK437 := hp0 BK437; have HB := n3_; clear n3_ hp0 hv; (try clear hb); have u15 := kO NB436_437; have z16 := c2 BK436) | (go_at_call 35; (with_reducible refine (spec_diGood.calls k a1_0 a1_1 true _ A5.out).mono ?_); rintro e w17 ⟨rfl, hb⟩; have hp0 := pA BK435 hb; have hv := vK HB hb; have n3_ := Am (bT hv hb); clear HB; replace BK435 := hp0 BK435; replace BK436 := hp0 BK436; replace BK437 := hp0 BK437; have HB := n3_; clear n3_ hp0 hv; (try clear hb); have z18 := c3 BK435; have z19 := c2 BK436) | ((with_reducible refine gate_callee (f := 36) rfl ?_); refine gL (some 17) Try.func36 #[.agg #[.int .i64 a0_0, .int .i64 a0_1, .int .i64 a0_2], .agg #[.int .i64 a1_0, .int .i64 a1_1]] rfl ?_; (with_reducible refine (spec_meAt.calls k a0_0 a0_1 a0_2 a1_0 a1_1 t440 t441 t442 _ A7.out).mono ?_); rintro e w20 ⟨rfl, hb⟩; refine ⟨_, rfl, ?_⟩; have hp0 := pA BK435 hb; have hv := vK HB hb; have n3_ := Am (bT hv hb); clear HB; replace BK435 := hp0 BK435; replace BK436 := hp0 BK436; replace BK437 := hp0 BK437; have HB := n3_; clear n3_ hp0 hv; (try clear hb); have z21 := c2 BK437))
    refine bodyPost_ret (results_ct rfl _ _ gb437 23 #[.int .i64 t440, .int .i64 t441] (0, 0) _ rfl (by (with_reducible repeat (first | refine kN ?_ _ | refine kD ?_ | refine kA ?_ _)); refine kP (cs := #[.int .i64 t440, .int .i64 0]) ?_ 1 _ rfl; (with_reducible repeat (first | refine kN ?_ _ | refine kD ?_ | refine kA ?_ _)); refine kP (cs := #[.int .i64 0, .int .i64 0]) ?_ 0 _ rfl; (with_reducible repeat (first | refine kN ?_ _ | refine kD ?_ | refine kA ?_ _)); exact BK437.out) Try.underlying23 rfl (by kernel_rfl)) rfl ?_
    exact ⟨by first | rfl | (simp [errW_none, errW_some] <;> rfl) | (simp [*, errW_none, errW_some] <;> rfl), by repeat (first | (with_reducible first | exact HB.out | apply bA | apply bN | apply bD | refine bX ?_ (by assumption)) | exact HB.out)⟩
  replace c6 := Bool.eq_false_iff.mpr c6
  subst c6
  have H1 : (some (0, 0, false)) = some (r1, r2, r3) := by rw [if_neg (show ¬ (false = true) by decide)] at H; exact H
  clear H
  have H := H1
  clear H1
  focus
   simp only [Option.some.injEq, Prod.mk.injEq] at H
   obtain ⟨rfl, rfl, rfl⟩ := H
   go_enter Try.func22, Try.ntmps22
   go_wp2_with (first | ((with_reducible refine gate_dst (N := 2) rfl ?_); refine bE 2 #[.int .i64 a0_0, .int .i64 a0_1, .int .i64 a0_2] 25 ?_; intro gb435 hg w22 hbox hb; have hv := vK HB hb; have n0_ := Am (bT hv hb); have n1_ := Am (hbox); have GE435 := kG hg hv; clear HB; have HB := n0_; have BK435 := n1_; clear n0_ n1_ hv; clear hb hbox hg) | ((with_reducible refine gate_dst (N := 3) rfl ?_); refine bE 3 #[.int .i64 a1_0, .int .i64 a1_1] 23 ?_; intro gb436 hg w23 hbox hb; have hp0 := pA BK435 hb; have hv := vK HB hb; have n1_ := Am (bT hv hb); have n2_ := Am (hbox); have GE436 := kG hg hv; have hp1 := pK BK435 hb; obtain ⟨NB435_436, NB436_435⟩ := kXY hg hp1 BK435; clear HB; replace BK435 := hp0 BK435; have HB := n1_; have BK436 := n2_; clear n1_ n2_ hp0 hp1 hv; clear hb hbox hg) | ((with_reducible refine gate_dst (N := 4) rfl ?_); refine bE 4 #[.int .i64 0, .int .i64 0] 23 ?_; intro gb437 hg w24 hbox hb; have hp0 := pA BK435 hb; have hv := vK HB hb; have n2_ := Am (bT hv hb); have n3_ := Am (hbox); have GE437 := kG hg hv; have hp1 := pK BK435 hb; obtain ⟨NB435_437, NB437_435⟩ := kXY hg hp1 BK435; obtain ⟨NB436_437, NB437_436⟩ := kXY hg hp1 BK436; clear HB; replace BK435 := hp0 BK435; replace BK436 := hp0 BK436; have HB := n2_; have BK437 := n3_; clear n2_ n3_ hp0 hp1 hv; clear hb hbox hg; have u25 := kO NB435_436; have u26 := kO NB435_437; have z27 := c3 BK435) | ((with_reducible refine gate_callee (f := 38) rfl ?_); refine gL (some 7) Try.func38 #[.agg #[.int .i64 a0_0, .int .i64 a0_1, .int .i64 a0_2]] rfl ?_; (with_reducible refine (spec_meGood.calls k a0_0 a0_1 a0_2 true _ A3.out).mono ?_); rintro e w28 ⟨rfl, hb⟩; refine ⟨_, rfl, ?_⟩; have hp0 := pA BK435 hb; have hv := vK HB hb; have n3_ := Am (bT hv hb); clear HB; replace BK435 := hp0 BK435; replace BK436 := hp0 BK436; replace BK437 := hp0 BK437; have HB := n3_; clear n3_ hp0 hv; (try clear hb); have u29 := kO NB436_437; have z30 := c2 BK436) | (go_at_call 35; (with_reducible refine (spec_diGood.calls k a1_0 a1_1 false _ A5.out).mono ?_); rintro e w31 ⟨rfl, hb⟩; have hp0 := pA BK435 hb; have hv := vK HB hb; have n3_ := Am (bT hv hb); clear HB; replace BK435 := hp0 BK435; replace BK436 := hp0 BK436; replace BK437 := hp0 BK437; have HB := n3_; clear n3_ hp0 hv; (try clear hb); have z32 := c2 BK437))
   refine bodyPost_ret (results_ct rfl _ _ gb437 23 #[.int .i64 0, .int .i64 0] (0, 0) _ rfl (by (with_reducible repeat (first | refine kN ?_ _ | refine kD ?_ | refine kA ?_ _)); refine kP (cs := #[.int .i64 0, .int .i64 0]) ?_ 1 _ rfl; (with_reducible repeat (first | refine kN ?_ _ | refine kD ?_ | refine kA ?_ _)); refine kP (cs := #[.int .i64 0, .int .i64 0]) ?_ 0 _ rfl; (with_reducible repeat (first | refine kN ?_ _ | refine kD ?_ | refine kA ?_ _)); exact BK437.out) Try.underlying23 rfl (by kernel_rfl)) rfl ?_
   exact ⟨by first | rfl | (simp [errW_none, errW_some] <;> rfl) | (simp [*, errW_none, errW_some] <;> rfl), by repeat (first | (with_reducible first | exact HB.out | apply bA | apply bN | apply bD | refine bX ?_ (by assumption)) | exact HB.out)⟩
 replace c4 := Bool.eq_false_iff.mpr c4
 subst c4
 have H1 : (some (0, 0, false)) = some (r1, r2, r3) := by rw [if_neg (show ¬ (false = true) by decide)] at H; exact H
 clear H
 have H := H1
 clear H1
 focus
  simp only [Option.some.injEq, Prod.mk.injEq] at H
  obtain ⟨rfl, rfl, rfl⟩ := H
  go_enter Try.func22, Try.ntmps22
  go_wp2_with (first | ((with_reducible refine gate_dst (N := 2) rfl ?_); refine bE 2 #[.int .i64 a0_0, .int .i64 a0_1, .int .i64 a0_2] 25 ?_; intro gb435 hg w33 hbox hb; have hv := vK HB hb; have n0_ := Am (bT hv hb); have n1_ := Am (hbox); have GE435 := kG hg hv; clear HB; have HB := n0_; have BK435 := n1_; clear n0_ n1_ hv; clear hb hbox hg) | ((with_reducible refine gate_dst (N := 3) rfl ?_); refine bE 3 #[.int .i64 a1_0, .int .i64 a1_1] 23 ?_; intro gb436 hg w34 hbox hb; have hp0 := pA BK435 hb; have hv := vK HB hb; have n1_ := Am (bT hv hb); have n2_ := Am (hbox); have GE436 := kG hg hv; have hp1 := pK BK435 hb; obtain ⟨NB435_436, NB436_435⟩ := kXY hg hp1 BK435; clear HB; replace BK435 := hp0 BK435; have HB := n1_; have BK436 := n2_; clear n1_ n2_ hp0 hp1 hv; clear hb hbox hg) | ((with_reducible refine gate_dst (N := 4) rfl ?_); refine bE 4 #[.int .i64 0, .int .i64 0] 23 ?_; intro gb437 hg w35 hbox hb; have hp0 := pA BK435 hb; have hv := vK HB hb; have n2_ := Am (bT hv hb); have n3_ := Am (hbox); have GE437 := kG hg hv; have hp1 := pK BK435 hb; obtain ⟨NB435_437, NB437_435⟩ := kXY hg hp1 BK435; obtain ⟨NB436_437, NB437_436⟩ := kXY hg hp1 BK436; clear HB; replace BK435 := hp0 BK435; replace BK436 := hp0 BK436; have HB := n2_; have BK437 := n3_; clear n2_ n3_ hp0 hp1 hv; clear hb hbox hg; have u36 := kO NB435_436; have u37 := kO NB435_437; have z38 := c3 BK435) | ((with_reducible refine gate_callee (f := 38) rfl ?_); refine gL (some 7) Try.func38 #[.agg #[.int .i64 a0_0, .int .i64 a0_1, .int .i64 a0_2]] rfl ?_; (with_reducible refine (spec_meGood.calls k a0_0 a0_1 a0_2 false _ A3.out).mono ?_); rintro e w39 ⟨rfl, hb⟩; refine ⟨_, rfl, ?_⟩; have hp0 := pA BK435 hb; have hv := vK HB hb; have n3_ := Am (bT hv hb); clear HB; replace BK435 := hp0 BK435; replace BK436 := hp0 BK436; replace BK437 := hp0 BK437; have HB := n3_; clear n3_ hp0 hv; (try clear hb); have u40 := kO NB437_436; have z41 := c2 BK437))
  refine bodyPost_ret (results_ct rfl _ _ gb437 23 #[.int .i64 0, .int .i64 0] (0, 0) _ rfl (by (with_reducible repeat (first | refine kN ?_ _ | refine kD ?_ | refine kA ?_ _)); refine kP (cs := #[.int .i64 0, .int .i64 0]) ?_ 1 _ rfl; (with_reducible repeat (first | refine kN ?_ _ | refine kD ?_ | refine kA ?_ _)); refine kP (cs := #[.int .i64 0, .int .i64 0]) ?_ 0 _ rfl; (with_reducible repeat (first | refine kN ?_ _ | refine kD ?_ | refine kA ?_ _)); exact BK437.out) Try.underlying23 rfl (by kernel_rfl)) rfl ?_
  exact ⟨by first | rfl | (simp [errW_none, errW_some] <;> rfl) | (simp [*, errW_none, errW_some] <;> rfl), by repeat (first | (with_reducible first | exact HB.out | apply bA | apply bN | apply bD | refine bX ?_ (by assumption)) | exact HB.out)⟩
end Go.Proofs.Ytcoembcafgelkaa.PFnHandsAheadOfAll
