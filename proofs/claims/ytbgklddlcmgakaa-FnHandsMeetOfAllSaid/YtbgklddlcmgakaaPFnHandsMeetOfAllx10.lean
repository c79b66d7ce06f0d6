-- WRITTEN BY A PROGRAM OF THIS SESSION (wip/tools): its own text, not the kit's printed one.
import Derived.Test.YtbgklddlcmgakaaPFnHandsMeetOfAllx0
import Derived.Test.YtbgklddlcmgakaaPFnHandsMeetOfAllx1
import Derived.Test.YtbgklddlcmgakaaPFnHandsMeetOfAllx2
import Derived.Test.YtbgklddlcmgakaaPFnHandsMeetOfAllx5
import Derived.Test.YtbgklddlcmgakaaPFnHandsMeetOfAllx6
import Derived.Test.YtbgklddlcmgakaaPFnHandsMeetOfAllx7
import Derived.Test.YtbgklddlcmgakaaPFnHandsMeetOfAllx8
import Derived.Test.YtbgklddlcmgakaaPFnHandsMeetOfAllx9
namespace Go.Proofs.Ytbgklddlcmgakaa.PFnHandsMeetOfAll
open Go.RowKit Go.Proofs.YtbgklddlcmgakaaW.PrintWords Go.Proofs.YtbgklddlcmgakaaW.PrintLast Go.Proofs.YtbgklddlcmgakaaW.PrintMore
attribute [local go_sem] max2_int min2_int max_two min_two max_three min_three max_four min_four   -- for this text's walks alone
set_option linter.unusedVariables false
set_option linter.unusedSimpArgs false

attribute [local go_sem high] eqA23
/-! ### spec_MeetPlaces: function 11 -/
def spec_MeetPlaces.l0 : Nat → List (S23) → List (S23) → Int → Int → Int → Int → Int → Option ((List (S23)) × Bool)
 | 0, _, _, _, _, _, _, _ => none
 | k + 1, x8, x21, x22, x23, x404000, x404001, x404002 => if x23 < x22 then (if 0 ≤ x23 then (if x23 < (x21.length : Int) then ((spec_meAt.f k x404000 x404001 x404002 ((rd_T23 x21 x23).f0) ((rd_T23 x21 x23).f1)).bind fun bt411 => (if bt411.2.2 = true then ((spec_meSorted.f k x8 bt411.1 bt411.2.1).bind fun t415 => (spec_MeetPlaces.l0 k t415 x21 x22 (wrap64 (x23 + 1)) x404000 x404001 x404002)) else (some (([] : List (S23)), false)))) else (none)) else (none)) else (some (x8, true))
def spec_MeetPlaces.f (k : Nat) (a0_0 : Int) (a0_1 : Int) (a0_2 : Int) (a1_0 : Int) (a1_1 : Int) (a1_2 : Int) : Option ((List (S23)) × Bool) := (spec_MeetTimes.f k a0_0 a0_1 a0_2 a1_0 a1_1 a1_2).bind fun bt405 => (if bt405.2 = true then (spec_MeetPlaces.l0 k ([] : List (S23)) bt405.1 (bt405.1.length : Int) 0 a0_0 a0_1 a0_2) else (some (([] : List (S23)), false)))
theorem spec_MeetPlaces.mono_l : ∀ k, (∀ y0 y1 y2 y3 y4 y5 y6, LeO (spec_MeetPlaces.l0 k y0 y1 y2 y3 y4 y5 y6) (spec_MeetPlaces.l0 (k + 1) y0 y1 y2 y3 y4 y5 y6))
 | 0 => fun _ _ _ _ _ _ _ r h => by simp [spec_MeetPlaces.l0] at h
 | k + 1 => by
  have ih0 := spec_MeetPlaces.mono_l k
  ·intro y0 y1 y2 y3 y4 y5 y6
   unfold spec_MeetPlaces.l0
   repeat' first
   | (with_reducible apply ih0)
   | (with_reducible exact spec_MeetTimes.mono _ _ _ _ _ _ _)
   | (with_reducible exact spec_meAt.mono _ _ _ _ _ _)
   | (with_reducible exact spec_meSorted.mono _ _ _ _)
   | (with_reducible exact LeO.refl _)
   | (with_reducible exact LeO.none _)
   | (with_reducible refine LeO.ite ?_ ?_)
   | (with_reducible refine LeO.bind ?_ (fun _ => ?_))
   | apply ih0
   | exact spec_MeetTimes.mono _ _ _ _ _ _ _
   | exact spec_meAt.mono _ _ _ _ _ _
   | exact spec_meSorted.mono _ _ _ _
   | exact LeO.none _
   | refine LeO.ite ?_ ?_
   | refine LeO.bind ?_ (fun _ => ?_)
theorem spec_MeetPlaces.mono : ∀ a0 a1 a2 a3 a4 a5 k, LeO (spec_MeetPlaces.f k a0 a1 a2 a3 a4 a5) (spec_MeetPlaces.f (k + 1) a0 a1 a2 a3 a4 a5) := by
 intro a0 a1 a2 a3 a4 a5 k
 have ih0 := spec_MeetPlaces.mono_l k
 unfold spec_MeetPlaces.f
 repeat' first
   | (with_reducible apply ih0)
   | (with_reducible exact spec_MeetTimes.mono _ _ _ _ _ _ _)
   | (with_reducible exact spec_meAt.mono _ _ _ _ _ _)
   | (with_reducible exact spec_meSorted.mono _ _ _ _)
   | (with_reducible exact LeO.refl _)
   | (with_reducible exact LeO.none _)
   | (with_reducible refine LeO.ite ?_ ?_)
   | (with_reducible refine LeO.bind ?_ (fun _ => ?_))
   | apply ih0
   | exact spec_MeetTimes.mono _ _ _ _ _ _ _
   | exact spec_meAt.mono _ _ _ _ _ _
   | exact spec_meSorted.mono _ _ _ _
   | exact LeO.none _
   | refine LeO.ite ?_ ?_
   | refine LeO.bind ?_ (fun _ => ?_)
set_option maxHeartbeats 8000000 in
set_option maxRecDepth 100000 in
theorem spec_MeetPlaces.calls (k : Nat) (a0_0 : Int) (a0_1 : Int) (a0_2 : Int) (a1_0 : Int) (a1_1 : Int) (a1_2 : Int) (r1 : List (S23)) (r2 : Bool) (w : World) (h : spec_MeetPlaces.f k a0_0 a0_1 a0_2 a1_0 a1_1 a1_2 = some (r1, r2)) :
  Calls Try.prog 11 #[.agg #[.int .i64 a0_0, .int .i64 a0_1, .int .i64 a0_2], .agg #[.int .i64 a1_0, .int .i64 a1_1, .int .i64 a1_2]] w fun e w' => ∃ v0_ : Value, e = .returned (.tuple #[v0_, .bool r2]) ∧ Kd.R k23 23 w' w.heap.size (fun _ => True) v0_ r1 ∧ Below w.heap.size w w' := by
 have hu25 := Try.underlying25; have hu23 := Try.underlying23
 have HB := Am (Below.refl w.heap.size w)
 have H : ((spec_MeetTimes.f k a0_0 a0_1 a0_2 a1_0 a1_1 a1_2).bind fun bt405 => (if bt405.2 = true then (spec_MeetPlaces.l0 k ([] : List (S23)) bt405.1 (bt405.1.length : Int) 0 a0_0 a0_1 a0_2) else (some (([] : List (S23)), false)))) = some (r1, r2) := h
 clear h
 replace H := Option.bind_eq_some_iff.mp H
 obtain ⟨⟨t405, t408⟩, A30, H⟩ := H
 try dsimp only at H
 have A3 := Am A30
 clear A30
 by_cases c4 : t408 = true
 ·subst c4
  have H1 : (spec_MeetPlaces.l0 k ([] : List (S23)) t405 (t405.length : Int) 0 a0_0 a0_1 a0_2) = some (r1, r2) := by rw [if_pos rfl] at H; exact H
  clear H
  have H := H1
  clear H1
  have H' := Am H
  clear H
  go_enter Try.func11, Try.ntmps11
  go_wp2_with (first | ((with_reducible refine gate_dst (N := 2) rfl ?_); refine bE 2 #[.int .i64 a0_0, .int .i64 a0_1, .int .i64 a0_2] 25 ?_; intro gb403 hg w5 hbox hb; have hv := vK HB hb; have n0_ := Am (bT hv hb); have n1_ := Am (hbox); have GE403 := kG hg hv; clear HB; have HB := n0_; have BK403 := n1_; clear n0_ n1_ hv; clear hb hbox hg) | ((with_reducible refine gate_dst (N := 3) rfl ?_); refine bE 3 #[.int .i64 a1_0, .int .i64 a1_1, .int .i64 a1_2] 25 ?_; intro gb404 hg w6 hbox hb; have hp0 := pA BK403 hb; have hv := vK HB hb; have n1_ := Am (bT hv hb); have n2_ := Am (hbox); have GE404 := kG hg hv; have hp1 := pK BK403 hb; obtain ⟨NB403_404, NB404_403⟩ := kXY hg hp1 BK403; clear HB; replace BK403 := hp0 BK403; have HB := n1_; have BK404 := n2_; clear n1_ n2_ hp0 hp1 hv; clear hb hbox hg; have nq7 := kO NB403_404; have zq8 := c3 BK403; have zq9 := c3 BK404) | ((with_reducible refine gate_callee (f := 5) rfl ?_); refine gL (some 16) Try.func5 #[.agg #[.int .i64 a0_0, .int .i64 a0_1, .int .i64 a0_2], .agg #[.int .i64 a1_0, .int .i64 a1_1, .int .i64 a1_2]] rfl ?_; (with_reducible refine (spec_MeetTimes.calls k a0_0 a0_1 a0_2 a1_0 a1_1 a1_2 t405 true _ A3.out).mono ?_); rintro e w10 ⟨v406, rfl, ho0, hb⟩; refine ⟨_, rfl, ?_⟩; have n0_ := Am (Kd.R_lower ho0 (bZ (by repeat (first | (with_reducible first | exact HB.out | apply bA | apply bN | apply bD | refine bX ?_ (by assumption)) | exact HB.out)))); have hp0 := pA BK403 hb; have hv := vK HB hb; have n3_ := Am (bT hv hb); clear HB; have HO407 := n0_; replace BK403 := hp0 BK403; replace BK404 := hp0 BK404; have HB := n3_; clear n0_ n3_ hp0 hv; (try clear hb); (try clear ho0); obtain ⟨Ao11, co11, eo11⟩ := Kd.R_slice HO407.out; subst eo11))
  go_loopg [8, 23] k (fun kq v8 v23 w' => ∃ (x8_1 : List (S23)) (x23_1 : Int), v23 = .int .i64 x23_1 ∧ Aside0 (spec_MeetPlaces.l0 kq x8_1 t405 (t405.length : Int) x23_1 a0_0 a0_1 a0_2 = some (r1, r2)) ∧ Aside0 (kq ≤ k) ∧ Aside0 (Kd.R k23 23 w' w.heap.size (fun k_ => some k_ ≠ ((.slice Ao11 t405.length co11) : Value).ownBlock) v8 x8_1) ∧ Aside0 (Kd.R k23 23 w' w.heap.size (fun k_ => some k_ ≠ (v8 : Value).ownBlock) (.slice Ao11 t405.length co11) t405) ∧ Aside0 (w'.heap[gb403]? = some (.cells #[.int .i64 a0_0, .int .i64 a0_1, .int .i64 a0_2] 25 (0, 0))) ∧ Aside0 (w'.heap[gb404]? = some (.cells #[.int .i64 a1_0, .int .i64 a1_1, .int .i64 a1_2] 25 (0, 0))) ∧ Aside0 (Below w.heap.size w w'))
  case atStart => exact ⟨(([] : List (S23))), (0), (by first | rfl | (simp; done) | (simp [*]; done)), H', ⟨Nat.le_refl _⟩, ⟨by first | exact Kd.R_nil _ _ _ _ _ | exact Kd.N_nil _ _ _ _ _ | exact Kd.V_nil _ _ _ _ _ | exact Kd.Q_nil _ _ _ _ _ | exact Kd.S_nil _ _ _ _ _⟩, ⟨by (with_reducible repeat (first | apply Kd.R_alloc | apply Kd.R_drewN | apply Kd.R_drew)); exact Kd.R_mono HO407.out (fun _ hk => (by simp [Value.ownBlock]))⟩, kV BK403, kV BK404, ⟨by repeat (first | (with_reducible first | exact HB.out | apply bA | apply bN | apply bD | refine bX ?_ (by assumption)) | exact HB.out)⟩⟩
  case round =>
   clear H'
   (try clear c4); (try clear zq8); (try clear zq9)
   obtain ⟨x8_1, x23_1, rfl, HA, HK1, HO_8, HO_21, BK403, BK404, HB⟩ := hrel
   cases gk with
   | zero => exact absurd HA.out (by simp [spec_MeetPlaces.l0])
   | succ k1 =>
    have H := HA.out
    clear HA
    simp only [spec_MeetPlaces.l0] at H
    by_cases c12 : x23_1 < (t405.length : Int)
    ·rw [if_pos c12] at H
     have c12b0 : decide (x23_1 < (t405.length : Int)) = true := decide_eq_true c12
     clear c12
     by_cases c13 : 0 ≤ x23_1
     ·rw [if_pos c13] at H
      have c13b0 : decide (0 ≤ x23_1) = true := decide_eq_true c13
      clear c13
      by_cases c14 : x23_1 < (t405.length : Int)
      ·rw [if_pos c14] at H
       have c14b0 : decide (x23_1 < (t405.length : Int)) = true := decide_eq_true c14
       clear c14
       replace H := Option.bind_eq_some_iff.mp H
       obtain ⟨⟨t411, t412, t413⟩, A150, H⟩ := H
       try dsimp only at H
       have A15 := Am A150
       clear A150
       by_cases c16 : t413 = true
       ·subst c16
        have H1 : ((spec_meSorted.f k1 x8_1 t411 t412).bind fun t415 => (spec_MeetPlaces.l0 k1 t415 t405 (t405.length : Int) (wrap64 (x23_1 + 1)) a0_0 a0_1 a0_2)) = some (r1, r2) := by rw [if_pos rfl] at H; exact H
        clear H
        have H := H1
        clear H1
        replace H := Option.bind_eq_some_iff.mp H
        obtain ⟨t415, A170, H⟩ := H
        try dsimp only at H
        have A17 := Am A170
        clear A170
        focus
         have H' := Am H
         clear H
         have p409 : 0 ≤ (x23_1 : Int) := of_decide_eq_true (by first | (with_reducible assumption) | assumption)
         have q409 : x23_1 < (t405.length : Int) := of_decide_eq_true (by first | (with_reducible assumption) | assumption)
         obtain ⟨ad409, e409, hx409_0, hx409_1⟩ := at_T23 (Kd.R_reads' HO_21.out).2.2 x23_1 p409 q409
         cases e409
         replace p409 := eq_true p409
         replace q409 := eq_true q409
         go_wp2_with (first | ((with_reducible refine gate_dst (N := 10) rfl ?_); refine bE 10 #[.int .i64 0, .int .i64 0] 23 ?_; intro gb410 hg w18 hbox hb; have n0_ := Am (Kd.R_below (Kd.R_elderB (kW HO_8) gb410 (Nat.le_of_eq hg.symm)) hb); have n1_ := Am (Kd.R_below (Kd.R_elderB (kW HO_21) gb410 (Nat.le_of_eq hg.symm)) hb); have hp0 := pA BK403 hb; have hv := vK HB hb; have n4_ := Am (bT hv hb); have n5_ := Am (hbox); have GE410 := kG hg hv; have hp1 := pK BK403 hb; obtain ⟨NB403_410, NB410_403⟩ := kXY hg hp1 BK403; obtain ⟨NB404_410, NB410_404⟩ := kXY hg hp1 BK404; clear HO_8; clear HO_21; clear HB; have HO_8 := n0_; have HO_21 := n1_; replace BK403 := hp0 BK403; replace BK404 := hp0 BK404; have HB := n4_; have BK410 := n5_; clear n0_ n1_ n4_ n5_ hp0 hp1 hv; clear hb hbox hg; have nq19 := kO NB410_403; have nq20 := kO NB410_404; have zq21 := c2 BK410; have nq22 := kO NB403_404; have zq23 := c3 BK403) | ((with_reducible refine gate_callee (f := 30) rfl ?_); refine gL (some 30) Try.func30 #[.agg #[.int .i64 a0_0, .int .i64 a0_1, .int .i64 a0_2], .agg #[.int .i64 ((rd_T23 t405 x23_1).f0), .int .i64 ((rd_T23 t405 x23_1).f1)]] rfl ?_; (with_reducible refine (spec_meAt.calls k1 a0_0 a0_1 a0_2 ((rd_T23 t405 x23_1).f0) ((rd_T23 t405 x23_1).f1) t411 t412 true _ A15.out).mono ?_); rintro e w24 ⟨rfl, hb⟩; refine ⟨_, rfl, ?_⟩; have n0_ := Am (Kd.R_below (by (with_reducible repeat (first | apply Kd.R_alloc | apply Kd.R_drewN | apply Kd.R_drew)); exact (Kd.R_mono (Kd.R_far (p := ⟨gb410, 1, none⟩) (Kd.R_far (p := ⟨gb410, 0, none⟩) (Kd.R_mono HO_8.out (fun k_ hk => (⟨hk, hk.2⟩ : _ ∧ k_ ≠ gb410))) (fun _ hk => hk.2) (.int .i64 ((rd_T23 t405 x23_1).f0))) (fun _ hk => hk.2) (.int .i64 ((rd_T23 t405 x23_1).f1))) (fun _ h_ => h_.1))) hb); have n1_ := Am (Kd.R_below (by (with_reducible repeat (first | apply Kd.R_alloc | apply Kd.R_drewN | apply Kd.R_drew)); exact (Kd.R_mono (Kd.R_far (p := ⟨gb410, 1, none⟩) (Kd.R_far (p := ⟨gb410, 0, none⟩) (Kd.R_mono HO_21.out (fun k_ hk => (⟨hk, hk.2⟩ : _ ∧ k_ ≠ gb410))) (fun _ hk => hk.2) (.int .i64 ((rd_T23 t405 x23_1).f0))) (fun _ hk => hk.2) (.int .i64 ((rd_T23 t405 x23_1).f1))) (fun _ h_ => h_.1))) hb); have hp0 := pB gb410 BK403 hb; have n4_ := Am (kB (g := gb410) (o := .cells #[.int .i64 ((rd_T23 t405 x23_1).f0), .int .i64 ((rd_T23 t405 x23_1).f1)] 23 (0, 0)) (by (with_reducible repeat (first | refine kN ?_ _ | refine kD ?_ | refine kA ?_ _)); refine kP (cs := #[.int .i64 ((rd_T23 t405 x23_1).f0), .int .i64 0]) ?_ 1 _ rfl; (with_reducible repeat (first | refine kN ?_ _ | refine kD ?_ | refine kA ?_ _)); refine kP (cs := #[.int .i64 0, .int .i64 0]) ?_ 0 _ rfl; (with_reducible repeat (first | refine kN ?_ _ | refine kD ?_ | refine kA ?_ _)); exact BK410.out) hb); have hv := vK HB hb; have n5_ := Am (bT hv hb); clear HO_8; clear HO_21; clear BK410; clear HB; have HO_8 := n0_; have HO_21 := n1_; replace BK403 := hp0 NB403_410 BK403; replace BK404 := hp0 NB404_410 BK404; have BK410 := n4_; have HB := n5_; clear n0_ n1_ n4_ n5_ hp0 hv; (try clear hb); (try clear hk)) | ((with_reducible refine gate_dst (N := 11) rfl ?_); refine bE 11 #[.int .i64 0, .int .i64 0] 23 ?_; intro gb414 hg w25 hbox hb; have n0_ := Am (Kd.R_below (Kd.R_elderB (kW HO_8) gb414 (Nat.le_of_eq hg.symm)) hb); have n1_ := Am (Kd.R_below (Kd.R_elderB (kW HO_21) gb414 (Nat.le_of_eq hg.symm)) hb); have hp0 := pA BK403 hb; have hv := vK HB hb; have n5_ := Am (bT hv hb); have n6_ := Am (hbox); have GE414 := kG hg hv; have hp1 := pK BK403 hb; obtain ⟨NB403_414, NB414_403⟩ := kXY hg hp1 BK403; obtain ⟨NB404_414, NB414_404⟩ := kXY hg hp1 BK404; obtain ⟨NB410_414, NB414_410⟩ := kXY hg hp1 BK410; clear HO_8; clear HO_21; clear HB; have HO_8 := n0_; have HO_21 := n1_; replace BK403 := hp0 BK403; replace BK404 := hp0 BK404; replace BK410 := hp0 BK410; have HB := n5_; have BK414 := n6_; clear n0_ n1_ n5_ n6_ hp0 hp1 hv; clear hb hbox hg; have nq26 := kO NB414_403; have nq27 := kO NB414_404; have nq28 := kO NB414_410; have zq29 := c2 BK414) | ((with_reducible refine gate_store (t := 23) (p := 11) rfl ?_); refine store_event (t := 23) (p := 11) (v := ?vo_w30) (w1 := ((w25.setCell ⟨gb414, 0, none⟩ (.int .i64 t411)).setCell ⟨gb414, 1, none⟩ (.int .i64 t412))) ?hg ?ho ?hn ?hr ?_; (case ho => rfl); (case hg => rfl); (case hn => rfl); (case hr => first | (go_simp; done) | (go_simp; rfl)); intro w30 hw; have n0_ : Aside0 (Kd.R k23 23 w30 w.heap.size (fun k_ => some k_ ≠ (.slice (some ad409) t405.length co11 : Value).ownBlock ∧ k_ ≠ gb410 ∧ k_ ≠ gb414) u8 x8_1) := ⟨(by rw [hw]; exact (by (with_reducible repeat (first | apply Kd.R_alloc | apply Kd.R_drewN | apply Kd.R_drew)); exact Kd.R_mono (Kd.R_far (p := ⟨gb414, 1, none⟩) (Kd.R_far (p := ⟨gb414, 0, none⟩) (Kd.R_mono HO_8.out (fun k_ hk => (⟨hk, hk.2⟩ : _ ∧ k_ ≠ gb414))) (fun _ hk => hk.2) (.int .i64 t411)) (fun _ hk => hk.2) (.int .i64 t412)) (fun _ hk => ⟨hk.1.1.1, ⟨hk.1.1.2, hk.1.2⟩⟩)))⟩; have n1_ : Aside0 (Kd.R k23 23 w30 w.heap.size (fun k_ => some k_ ≠ (u8 : Value).ownBlock ∧ k_ ≠ gb410 ∧ k_ ≠ gb414) (.slice (some ad409) t405.length co11) t405) := ⟨(by rw [hw]; exact (by (with_reducible repeat (first | apply Kd.R_alloc | apply Kd.R_drewN | apply Kd.R_drew)); exact Kd.R_mono (Kd.R_far (p := ⟨gb414, 1, none⟩) (Kd.R_far (p := ⟨gb414, 0, none⟩) (Kd.R_mono HO_21.out (fun k_ hk => (⟨hk, hk.2⟩ : _ ∧ k_ ≠ gb414))) (fun _ hk => hk.2) (.int .i64 t411)) (fun _ hk => hk.2) (.int .i64 t412)) (fun _ hk => ⟨hk.1.1.1, ⟨hk.1.1.2, hk.1.2⟩⟩)))⟩; have n2_ : Aside0 (w30.heap[gb403]? = some (.cells #[.int .i64 a0_0, .int .i64 a0_1, .int .i64 a0_2] 25 (0, 0))) := ⟨(by rw [hw]; exact (by (with_reducible repeat (first | refine kN ?_ _ | refine kD ?_ | refine kA ?_ _)); refine kR ?_ NB403_414.out _; (with_reducible repeat (first | refine kN ?_ _ | refine kD ?_ | refine kA ?_ _)); refine kR ?_ NB403_414.out _; (with_reducible repeat (first | refine kN ?_ _ | refine kD ?_ | refine kA ?_ _)); exact BK403.out))⟩; have n3_ : Aside0 (w30.heap[gb404]? = some (.cells #[.int .i64 a1_0, .int .i64 a1_1, .int .i64 a1_2] 25 (0, 0))) := ⟨(by rw [hw]; exact (by (with_reducible repeat (first | refine kN ?_ _ | refine kD ?_ | refine kA ?_ _)); refine kR ?_ NB404_414.out _; (with_reducible repeat (first | refine kN ?_ _ | refine kD ?_ | refine kA ?_ _)); refine kR ?_ NB404_414.out _; (with_reducible repeat (first | refine kN ?_ _ | refine kD ?_ | refine kA ?_ _)); exact BK404.out))⟩; have n4_ : Aside0 (w30.heap[gb410]? = some (.cells #[.int .i64 ((rd_T23 t405 x23_1).f0), .int .i64 ((rd_T23 t405 x23_1).f1)] 23 (0, 0))) := ⟨(by rw [hw]; exact (by (with_reducible repeat (first | refine kN ?_ _ | refine kD ?_ | refine kA ?_ _)); refine kR ?_ NB410_414.out _; (with_reducible repeat (first | refine kN ?_ _ | refine kD ?_ | refine kA ?_ _)); refine kR ?_ NB410_414.out _; (with_reducible repeat (first | refine kN ?_ _ | refine kD ?_ | refine kA ?_ _)); exact BK410.out))⟩; have n5_ : Aside0 (w30.heap[gb414]? = some (.cells #[.int .i64 t411, .int .i64 t412] 23 (0, 0))) := ⟨(by rw [hw]; exact (by (with_reducible repeat (first | refine kN ?_ _ | refine kD ?_ | refine kA ?_ _)); refine kP (cs := #[.int .i64 t411, .int .i64 0]) ?_ 1 _ rfl; (with_reducible repeat (first | refine kN ?_ _ | refine kD ?_ | refine kA ?_ _)); refine kP (cs := #[.int .i64 0, .int .i64 0]) ?_ 0 _ rfl; (with_reducible repeat (first | refine kN ?_ _ | refine kD ?_ | refine kA ?_ _)); exact BK414.out))⟩; have n6_ : Aside0 (Below w.heap.size w w30) := ⟨(by rw [hw]; exact (by repeat (first | (with_reducible first | exact HB.out | apply bA | apply bN | apply bD | refine bX ?_ (by assumption)) | exact HB.out)))⟩; clear hw; clear HO_8; clear HO_21; clear BK403; clear BK404; clear BK410; clear BK414; clear HB; have HO_8 := n0_; have HO_21 := n1_; have BK403 := n2_; have BK404 := n3_; have BK410 := n4_; have BK414 := n5_; have HB := n6_; clear n0_ n1_ n2_ n3_ n4_ n5_ n6_; have zq31 := c2 BK414; obtain ⟨Ao32, co32, eo32⟩ := Kd.R_slice HO_8.out; subst eo32) | ((with_reducible refine gate_callee (f := 31) rfl ?_); refine gL (some 37) Try.func31 #[.slice Ao32 x8_1.length co32, .agg #[.int .i64 t411, .int .i64 t412]] rfl ?_; (with_reducible refine (spec_meSorted.calls k1 (fun k_ => some k_ = (.slice Ao32 x8_1.length co32 : Value).ownBlock) (.slice Ao32 x8_1.length co32) x8_1 t411 t412 t415 w _ ?side1 ?side2 A17.out).mono ?_); (case side1 => repeat (first | (with_reducible first | exact HB.out | apply bA | apply bN | apply bD | refine bX ?_ (by assumption)) | exact HB.out)); (case side2 => exact Kd.R_tight rfl HO_8.out); rintro e w33 ⟨v416, rfl, ho0, hb, hkp⟩; refine ⟨_, rfl, ?_⟩; have n0_ := Am (Kd.R_mono (ok' := fun k_ => k_ ≠ gb410 ∧ k_ ≠ gb414 ∧ some k_ ≠ (v416 : Value).ownBlock) (Kd.R_keptB (HO_21.out) hkp (fun k_ hk_ hs_ => (hk_.1) hs_)) (fun k_ hk_ => ⟨hk_.1.2.1, hk_.1.2.2, fun e_ => Or.elim (ho0.1 k_ e_.symm) (fun hs_ => hk_.2.1 hs_) (fun hn_ => Nat.not_le.2 hk_.2.2 hn_)⟩)); have n1_ := Am (blk_kept (kU BK403) hkp (fun hs_ => (fun e_ => (Kd.R_ne HO_8.out BK403.out (by decide)) e_) hs_)); have n2_ := Am (blk_kept (kU BK404) hkp (fun hs_ => (fun e_ => (Kd.R_ne HO_8.out BK404.out (by decide)) e_) hs_)); have n3_ := Am (blk_kept (kU BK410) hkp (fun hs_ => (fun e_ => (Kd.R_away HO_8.out (fun _ hk => hk.2.1)) e_) hs_)); have n4_ := Am (blk_kept (kU BK414) hkp (fun hs_ => (fun e_ => (Kd.R_away HO_8.out (fun _ hk => hk.2.2)) e_) hs_)); have n5_ := Am (Kd.R_mono (ok' := fun k_ => some k_ ≠ (.slice (some ad409) t405.length co11 : Value).ownBlock ∧ k_ ≠ gb410 ∧ k_ ≠ gb414) ho0 (fun k_ hk_ => ⟨Or.elim hk_ (fun hs_ => fun e_ => (((HO_21.out).1 k_ e_.symm).1) hs_) (fun hn_ => (Kd.fresh' (Kd.R_lt (kW HO_21)) k_ hn_)), Or.elim hk_ (fun hs_ => fun e_ => (Kd.R_away HO_8.out (fun _ hk => hk.2.1)) (by rw [← e_]; exact hs_)) (fun hn_ => (Kd.freshB (g := gb410) (o := .cells #[.int .i64 ((rd_T23 t405 x23_1).f0), .int .i64 ((rd_T23 t405 x23_1).f1)] 23 (0, 0)) (kU BK410) k_ hn_)), Or.elim hk_ (fun hs_ => fun e_ => (Kd.R_away HO_8.out (fun _ hk => hk.2.2)) (by rw [← e_]; exact hs_)) (fun hn_ => (Kd.freshB (g := gb414) (o := .cells #[.int .i64 t411, .int .i64 t412] 23 (0, 0)) (kU BK414) k_ hn_))⟩)); have n6_ := Am (hb); clear HO_21; clear BK403; clear BK404; clear BK410; clear BK414; clear HB; clear HO_8; have HO_21 := n0_; have BK403 := n1_; have BK404 := n2_; have BK410 := n3_; have BK414 := n4_; have HO417 := n5_; have HB := n6_; clear n0_ n1_ n2_ n3_ n4_ n5_ n6_; (try clear hb); (try clear hkp); (try clear ho0)))
         go_roundg k1
         case measure => have := HK1.out; omega
         case rel => exact ⟨(t415), (wrap64 (x23_1 + 1)), (by first | rfl | (simp; done) | (simp [*]; done)), H', ⟨by have := HK1.out; omega⟩, ⟨by (with_reducible repeat (first | apply Kd.R_alloc | apply Kd.R_drewN | apply Kd.R_drew)); exact Kd.R_mono HO417.out (fun _ hk => hk.1)⟩, ⟨by (with_reducible repeat (first | apply Kd.R_alloc | apply Kd.R_drewN | apply Kd.R_drew)); exact Kd.R_mono HO_21.out (fun _ hk => hk.2.2)⟩, kV BK403, kV BK404, ⟨by repeat (first | (with_reducible first | exact HB.out | apply bA | apply bN | apply bD | refine bX ?_ (by assumption)) | exact HB.out)⟩⟩
       replace c16 := Bool.eq_false_iff.mpr c16
       subst c16
       have H1 : (some (([] : List (S23)), false)) = some (r1, r2) := by rw [if_neg (show ¬ (false = true) by decide)] at H; exact H
       clear H
       have H := H1
       clear H1
       focus
        simp only [Option.some.injEq, Prod.mk.injEq] at H
        obtain ⟨rfl, rfl⟩ := H
        have p409 : 0 ≤ (x23_1 : Int) := of_decide_eq_true (by first | (with_reducible assumption) | assumption)
        have q409 : x23_1 < (t405.length : Int) := of_decide_eq_true (by first | (with_reducible assumption) | assumption)
        obtain ⟨ad409, e409, hx409_0, hx409_1⟩ := at_T23 (Kd.R_reads' HO_21.out).2.2 x23_1 p409 q409
        cases e409
        replace p409 := eq_true p409
        replace q409 := eq_true q409
        go_wp2_with (first | ((with_reducible refine gate_dst (N := 10) rfl ?_); refine bE 10 #[.int .i64 0, .int .i64 0] 23 ?_; intro gb410 hg w34 hbox hb; have n0_ := Am (Kd.R_below (Kd.R_elderB (kW HO_8) gb410 (Nat.le_of_eq hg.symm)) hb); have n1_ := Am (Kd.R_below (Kd.R_elderB (kW HO_21) gb410 (Nat.le_of_eq hg.symm)) hb); have hp0 := pA BK403 hb; have hv := vK HB hb; have n4_ := Am (bT hv hb); have n5_ := Am (hbox); have GE410 := kG hg hv; have hp1 := pK BK403 hb; obtain ⟨NB403_410, NB410_403⟩ := kXY hg hp1 BK403; obtain ⟨NB404_410, NB410_404⟩ := kXY hg hp1 BK404; clear HO_8; clear HO_21; clear HB; have HO_8 := n0_; have HO_21 := n1_; replace BK403 := hp0 BK403; replace BK404 := hp0 BK404; have HB := n4_; have BK410 := n5_; clear n0_ n1_ n4_ n5_ hp0 hp1 hv; clear hb hbox hg; have nq35 := kO NB410_403; have nq36 := kO NB410_404; have zq37 := c2 BK410; have nq38 := kO NB403_404; have zq39 := c3 BK403) | ((with_reducible refine gate_callee (f := 30) rfl ?_); refine gL (some 30) Try.func30 #[.agg #[.int .i64 a0_0, .int .i64 a0_1, .int .i64 a0_2], .agg #[.int .i64 ((rd_T23 t405 x23_1).f0), .int .i64 ((rd_T23 t405 x23_1).f1)]] rfl ?_; (with_reducible refine (spec_meAt.calls k1 a0_0 a0_1 a0_2 ((rd_T23 t405 x23_1).f0) ((rd_T23 t405 x23_1).f1) t411 t412 false _ A15.out).mono ?_); rintro e w40 ⟨rfl, hb⟩; refine ⟨_, rfl, ?_⟩; have n0_ := Am (Kd.R_below (by (with_reducible repeat (first | apply Kd.R_alloc | apply Kd.R_drewN | apply Kd.R_drew)); exact (Kd.R_mono (Kd.R_far (p := ⟨gb410, 1, none⟩) (Kd.R_far (p := ⟨gb410, 0, none⟩) (Kd.R_mono HO_8.out (fun k_ hk => (⟨hk, hk.2⟩ : _ ∧ k_ ≠ gb410))) (fun _ hk => hk.2) (.int .i64 ((rd_T23 t405 x23_1).f0))) (fun _ hk => hk.2) (.int .i64 ((rd_T23 t405 x23_1).f1))) (fun _ h_ => h_.1))) hb); have n1_ := Am (Kd.R_below (by (with_reducible repeat (first | apply Kd.R_alloc | apply Kd.R_drewN | apply Kd.R_drew)); exact (Kd.R_mono (Kd.R_far (p := ⟨gb410, 1, none⟩) (Kd.R_far (p := ⟨gb410, 0, none⟩) (Kd.R_mono HO_21.out (fun k_ hk => (⟨hk, hk.2⟩ : _ ∧ k_ ≠ gb410))) (fun _ hk => hk.2) (.int .i64 ((rd_T23 t405 x23_1).f0))) (fun _ hk => hk.2) (.int .i64 ((rd_T23 t405 x23_1).f1))) (fun _ h_ => h_.1))) hb); have hp0 := pB gb410 BK403 hb; have n4_ := Am (kB (g := gb410) (o := .cells #[.int .i64 ((rd_T23 t405 x23_1).f0), .int .i64 ((rd_T23 t405 x23_1).f1)] 23 (0, 0)) (by (with_reducible repeat (first | refine kN ?_ _ | refine kD ?_ | refine kA ?_ _)); refine kP (cs := #[.int .i64 ((rd_T23 t405 x23_1).f0), .int .i64 0]) ?_ 1 _ rfl; (with_reducible repeat (first | refine kN ?_ _ | refine kD ?_ | refine kA ?_ _)); refine kP (cs := #[.int .i64 0, .int .i64 0]) ?_ 0 _ rfl; (with_reducible repeat (first | refine kN ?_ _ | refine kD ?_ | refine kA ?_ _)); exact BK410.out) hb); have hv := vK HB hb; have n5_ := Am (bT hv hb); clear HO_8; clear HO_21; clear BK410; clear HB; have HO_8 := n0_; have HO_21 := n1_; replace BK403 := hp0 NB403_410 BK403; replace BK404 := hp0 NB404_410 BK404; have BK410 := n4_; have HB := n5_; clear n0_ n1_ n4_ n5_ hp0 hv; (try clear hb); (try clear hk)) | ((with_reducible refine gate_dst (N := 11) rfl ?_); refine bE 11 #[.int .i64 0, .int .i64 0] 23 ?_; intro gb414 hg w41 hbox hb; have n0_ := Am (Kd.R_below (Kd.R_elderB (kW HO_8) gb414 (Nat.le_of_eq hg.symm)) hb); have n1_ := Am (Kd.R_below (Kd.R_elderB (kW HO_21) gb414 (Nat.le_of_eq hg.symm)) hb); have hp0 := pA BK403 hb; have hv := vK HB hb; have n5_ := Am (bT hv hb); have n6_ := Am (hbox); have GE414 := kG hg hv; have hp1 := pK BK403 hb; obtain ⟨NB403_414, NB414_403⟩ := kXY hg hp1 BK403; obtain ⟨NB404_414, NB414_404⟩ := kXY hg hp1 BK404; obtain ⟨NB410_414, NB414_410⟩ := kXY hg hp1 BK410; clear HO_8; clear HO_21; clear HB; have HO_8 := n0_; have HO_21 := n1_; replace BK403 := hp0 BK403; replace BK404 := hp0 BK404; replace BK410 := hp0 BK410; have HB := n5_; have BK414 := n6_; clear n0_ n1_ n5_ n6_ hp0 hp1 hv; clear hb hbox hg; have nq42 := kO NB414_403; have nq43 := kO NB414_404; have nq44 := kO NB414_410; have zq45 := c2 BK414))
        go_ret2
        exact ⟨_, by first | rfl | (simp [errW_none, errW_some] <;> rfl) | (simp [*, errW_none, errW_some] <;> rfl), by first | exact Kd.R_nil _ _ _ _ _ | exact Kd.N_nil _ _ _ _ _ | exact Kd.V_nil _ _ _ _ _ | exact Kd.Q_nil _ _ _ _ _ | exact Kd.S_nil _ _ _ _ _, by repeat (first | (with_reducible first | exact HB.out | apply bA | apply bN | apply bD | refine bX ?_ (by assumption)) | exact HB.out)⟩
      rw [if_neg c14] at H
      exact absurd H (by simp)
     rw [if_neg c13] at H
     exact absurd H (by simp)
    rw [if_neg c12] at H
    have c12b0 : decide (x23_1 < (t405.length : Int)) = false := decide_eq_false c12
    clear c12
    focus
     simp only [Option.some.injEq, Prod.mk.injEq] at H
     obtain ⟨rfl, rfl⟩ := H
     go_wp2
     go_ret2
     exact ⟨_, by first | rfl | (simp [errW_none, errW_some] <;> rfl) | (simp [*, errW_none, errW_some] <;> rfl), by (with_reducible repeat (first | apply Kd.R_alloc | apply Kd.R_drewN | apply Kd.R_drew)); exact Kd.R_mono HO_8.out (fun _ hk => trivial), by repeat (first | (with_reducible first | exact HB.out | apply bA | apply bN | apply bD | refine bX ?_ (by assumption)) | exact HB.out)⟩
 replace c4 := Bool.eq_false_iff.mpr c4
 subst c4
 have H1 : (some (([] : List (S23)), false)) = some (r1, r2) := by rw [if_neg (show ¬ (false = true) by decide)] at H; exact H
 clear H
 have H := H1
 clear H1
 focus
  simp only [Option.some.injEq, Prod.mk.injEq] at H
  obtain ⟨rfl, rfl⟩ := H
  go_enter Try.func11, Try.ntmps11
  go_wp2_with (first | ((with_reducible refine gate_dst (N := 2) rfl ?_); refine bE 2 #[.int .i64 a0_0, .int .i64 a0_1, .int .i64 a0_2] 25 ?_; intro gb403 hg w46 hbox hb; have hv := vK HB hb; have n0_ := Am (bT hv hb); have n1_ := Am (hbox); have GE403 := kG hg hv; clear HB; have HB := n0_; have BK403 := n1_; clear n0_ n1_ hv; clear hb hbox hg) | ((with_reducible refine gate_dst (N := 3) rfl ?_); refine bE 3 #[.int .i64 a1_0, .int .i64 a1_1, .int .i64 a1_2] 25 ?_; intro gb404 hg w47 hbox hb; have hp0 := pA BK403 hb; have hv := vK HB hb; have n1_ := Am (bT hv hb); have n2_ := Am (hbox); have GE404 := kG hg hv; have hp1 := pK BK403 hb; obtain ⟨NB403_404, NB404_403⟩ := kXY hg hp1 BK403; clear HB; replace BK403 := hp0 BK403; have HB := n1_; have BK404 := n2_; clear n1_ n2_ hp0 hp1 hv; clear hb hbox hg; have nq48 := kO NB403_404; have zq49 := c3 BK403; have zq50 := c3 BK404) | ((with_reducible refine gate_callee (f := 5) rfl ?_); refine gL (some 16) Try.func5 #[.agg #[.int .i64 a0_0, .int .i64 a0_1, .int .i64 a0_2], .agg #[.int .i64 a1_0, .int .i64 a1_1, .int .i64 a1_2]] rfl ?_; (with_reducible refine (spec_MeetTimes.calls k a0_0 a0_1 a0_2 a1_0 a1_1 a1_2 t405 false _ A3.out).mono ?_); rintro e w51 ⟨v406, rfl, ho0, hb⟩; refine ⟨_, rfl, ?_⟩; have n0_ := Am (Kd.R_lower ho0 (bZ (by repeat (first | (with_reducible first | exact HB.out | apply bA | apply bN | apply bD | refine bX ?_ (by assumption)) | exact HB.out)))); have hp0 := pA BK403 hb; have hv := vK HB hb; have n3_ := Am (bT hv hb); clear HB; have HO407 := n0_; replace BK403 := hp0 BK403; replace BK404 := hp0 BK404; have HB := n3_; clear n0_ n3_ hp0 hv; (try clear hb); (try clear ho0)))
  go_ret2
  exact ⟨_, by first | rfl | (simp [errW_none, errW_some] <;> rfl) | (simp [*, errW_none, errW_some] <;> rfl), by first | exact Kd.R_nil _ _ _ _ _ | exact Kd.N_nil _ _ _ _ _ | exact Kd.V_nil _ _ _ _ _ | exact Kd.Q_nil _ _ _ _ _ | exact Kd.S_nil _ _ _ _ _, by repeat (first | (with_reducible first | exact HB.out | apply bA | apply bN | apply bD | refine bX ?_ (by assumption)) | exact HB.out)⟩
/-! ### laws_kTurns: function 12 -/
def laws_kTurns.l0 : Nat → List (S23) → List (S23) → Int → Int → Option (Bool)
 | 0, _, _, _, _ => none
 | k + 1, x0, x1, x12, x13 => if x13 < x12 then (if 0 ≤ x13 then (if x13 < (x0.length : Int) then (if x13 < (x1.length : Int) then (if (!(((rd_T23 x0 x13).f0) == ((rd_T23 x1 x13).f0)) || (!(((rd_T23 x0 x13).f1) == ((rd_T23 x1 x13).f1)))) = true then (some false) else (laws_kTurns.l0 k x0 x1 x12 (wrap64 (x13 + 1)))) else (none)) else (none)) else (none)) else (some true)
def laws_kTurns.f (k : Nat) (l0 : List (S23)) (l1 : List (S23)) : Option (Bool) := if (l0.length : Int) = (l1.length : Int) then (laws_kTurns.l0 k l0 l1 (l0.length : Int) 0) else (some false)
theorem laws_kTurns.mono_l : ∀ k, (∀ y0 y1 y2 y3, LeO (laws_kTurns.l0 k y0 y1 y2 y3) (laws_kTurns.l0 (k + 1) y0 y1 y2 y3))
 | 0 => fun _ _ _ _ r h => by simp [laws_kTurns.l0] at h
 | k + 1 => by
  have ih0 := laws_kTurns.mono_l k
  ·intro y0 y1 y2 y3
   unfold laws_kTurns.l0
   repeat' first
   | (with_reducible apply ih0)
   | (with_reducible exact LeO.refl _)
   | (with_reducible exact LeO.none _)
   | (with_reducible refine LeO.ite ?_ ?_)
   | (with_reducible refine LeO.bind ?_ (fun _ => ?_))
   | apply ih0
   | exact LeO.none _
   | refine LeO.ite ?_ ?_
   | refine LeO.bind ?_ (fun _ => ?_)
theorem laws_kTurns.mono : ∀ a0 a1 k, LeO (laws_kTurns.f k a0 a1) (laws_kTurns.f (k + 1) a0 a1) := by
 intro a0 a1 k
 have ih0 := laws_kTurns.mono_l k
 unfold laws_kTurns.f
 repeat' first
   | (with_reducible apply ih0)
   | (with_reducible exact LeO.refl _)
   | (with_reducible exact LeO.none _)
   | (with_reducible refine LeO.ite ?_ ?_)
   | (with_reducible refine LeO.bind ?_ (fun _ => ?_))
   | apply ih0
   | exact LeO.none _
   | refine LeO.ite ?_ ?_
   | refine LeO.bind ?_ (fun _ => ?_)
set_option maxHeartbeats 8000000 in
set_option maxRecDepth 100000 in
theorem laws_kTurns.calls (k : Nat) (A0 : Option Addr) (c0 : Nat) (l0 : List (S23)) (A1 : Option Addr) (c1 : Nat) (l1 : List (S23)) (r : Bool) (w : World) (hr0 : Kd.C k23 w A0 l0.length l0) (hc0 : l0.length ≤ c0) (hr1 : Kd.C k23 w A1 l1.length l1) (hc1 : l1.length ≤ c1) (h : laws_kTurns.f k l0 l1 = some r) :
  Calls Try.prog 12 #[.slice A0 l0.length c0, .slice A1 l1.length c1] w fun e w' => e = .returned (.bool r) ∧ Drawn0 w w' := by
 have hu23 := Try.underlying23
 have HR0 := Am hr0
 have HC0 := Am hc0
 clear hr0 hc0
 have HR1 := Am hr1
 have HC1 := Am hc1
 clear hr1 hc1
 have H : (if (l0.length : Int) = (l1.length : Int) then (laws_kTurns.l0 k l0 l1 (l0.length : Int) 0) else (some false)) = some r := h
 clear h
 by_cases c3 : (l0.length : Int) = (l1.length : Int)
 ·rw [if_pos c3] at H
  have c3b0 : ((l0.length : Int) == (l1.length : Int)) = true := beq_iff_eq.mpr c3
  have c3b1 : ((l0.length : Int) != (l1.length : Int)) = false := bne_eq_false_iff_eq.mpr c3
  have c3b2 : (l0.length == l1.length) = true := by first | simpa using c3 | (simp at c3 ⊢; omega)
  clear c3
  have H' := Am H
  clear H
  go_enter Try.func12, Try.ntmps12
  go_wp2
  repeat (go_quiet (fail); try go_wp2)
  go_loopg [13] k (fun kq v13 w' => ∃ (x13_1 : Int), v13 = .int .i64 x13_1 ∧ Aside0 (laws_kTurns.l0 kq l0 l1 (l0.length : Int) x13_1 = some r) ∧ Aside0 (kq ≤ k) ∧ Drawn0 w w')
  case atStart => exact ⟨(0), (by first | rfl | (simp; done) | (simp [*]; done)), H', ⟨Nat.le_refl _⟩, by repeat (first | exact Drawn0.refl _ | apply Drawn0.step)⟩
  case round =>
   clear H'
   (try clear c1); (try clear c3); (try clear c3b0); (try clear c3b1); (try clear c3b2)
   obtain ⟨x13_1, rfl, HA, HK1, ⟨m1, rfl⟩⟩ := hrel
   cases gk with
   | zero => exact absurd HA.out (by simp [laws_kTurns.l0])
   | succ k1 =>
    have H := HA.out
    clear HA
    simp only [laws_kTurns.l0] at H
    by_cases c4 : x13_1 < (l0.length : Int)
    ·rw [if_pos c4] at H
     have c4b0 : decide (x13_1 < (l0.length : Int)) = true := decide_eq_true c4
     clear c4
     by_cases c5 : 0 ≤ x13_1
     ·rw [if_pos c5] at H
      have c5b0 : decide (0 ≤ x13_1) = true := decide_eq_true c5
      clear c5
      by_cases c6 : x13_1 < (l0.length : Int)
      ·rw [if_pos c6] at H
       have c6b0 : decide (x13_1 < (l0.length : Int)) = true := decide_eq_true c6
       clear c6
       by_cases c7 : x13_1 < (l1.length : Int)
       ·rw [if_pos c7] at H
        have c7b0 : decide (x13_1 < (l1.length : Int)) = true := decide_eq_true c7
        clear c7
        by_cases c8 : (!(((rd_T23 l0 x13_1).f0) == ((rd_T23 l1 x13_1).f0)) || (!(((rd_T23 l0 x13_1).f1) == ((rd_T23 l1 x13_1).f1)))) = true
        ·rw [if_pos c8] at H
         have c8b0 : (!(((rd_T23 l0 x13_1).f0) == ((rd_T23 l1 x13_1).f0)) || (!(((rd_T23 l0 x13_1).f1) == ((rd_T23 l1 x13_1).f1)))) = true := c8
         clear c8
         focus
          obtain rfl := Option.some.inj H
          have p418 : 0 ≤ (x13_1 : Int) := of_decide_eq_true (by first | (with_reducible assumption) | assumption)
          have q418 : x13_1 < (l0.length : Int) := of_decide_eq_true (by first | (with_reducible assumption) | assumption)
          obtain ⟨ad418, e418, hx418_0, hx418_1⟩ := at_T23 HR0.out x13_1 p418 q418
          cases e418
          replace p418 := eq_true p418
          replace q418 := eq_true q418
          have p419 : 0 ≤ (x13_1 : Int) := of_decide_eq_true (by first | (with_reducible assumption) | assumption)
          have q419 : x13_1 < (l1.length : Int) := of_decide_eq_true (by first | (with_reducible assumption) | assumption)
          obtain ⟨ad419, e419, hx419_0, hx419_1⟩ := at_T23 HR1.out x13_1 p419 q419
          cases e419
          replace p419 := eq_true p419
          replace q419 := eq_true q419
          go_wp2
          repeat (go_quiet (fail); try go_wp2)
          go_ret
          exact ⟨by first | rfl | (simp; done) | (simp [*]; done), by repeat (first | exact Drawn0.refl _ | apply Drawn0.step)⟩
        rw [if_neg c8] at H
        have c8b0 : (!(((rd_T23 l0 x13_1).f0) == ((rd_T23 l1 x13_1).f0)) || (!(((rd_T23 l0 x13_1).f1) == ((rd_T23 l1 x13_1).f1)))) = false := by simpa using c8
        clear c8
        focus
         have H' := Am H
         clear H
         have p418 : 0 ≤ (x13_1 : Int) := of_decide_eq_true (by first | (with_reducible assumption) | assumption)
         have q418 : x13_1 < (l0.length : Int) := of_decide_eq_true (by first | (with_reducible assumption) | assumption)
         obtain ⟨ad418, e418, hx418_0, hx418_1⟩ := at_T23 HR0.out x13_1 p418 q418
         cases e418
         replace p418 := eq_true p418
         replace q418 := eq_true q418
         have p419 : 0 ≤ (x13_1 : Int) := of_decide_eq_true (by first | (with_reducible assumption) | assumption)
         have q419 : x13_1 < (l1.length : Int) := of_decide_eq_true (by first | (with_reducible assumption) | assumption)
         obtain ⟨ad419, e419, hx419_0, hx419_1⟩ := at_T23 HR1.out x13_1 p419 q419
         cases e419
         replace p419 := eq_true p419
         replace q419 := eq_true q419
         go_wp2
         repeat (go_quiet (fail); try go_wp2)
         go_roundg k1
         case measure => have := HK1.out; omega
         case rel => exact ⟨(wrap64 (x13_1 + 1)), (by first | rfl | (simp; done) | (simp [*]; done)), H', ⟨by have := HK1.out; omega⟩, by repeat (first | exact Drawn0.refl _ | apply Drawn0.step)⟩
       rw [if_neg c7] at H
       exact absurd H (by simp)
      rw [if_neg c6] at H
      exact absurd H (by simp)
     rw [if_neg c5] at H
     exact absurd H (by simp)
    rw [if_neg c4] at H
    have c4b0 : decide (x13_1 < (l0.length : Int)) = false := decide_eq_false c4
    clear c4
    focus
     obtain rfl := Option.some.inj H
     go_wp2
     repeat (go_quiet (fail); try go_wp2)
     go_ret
     exact ⟨by first | rfl | (simp; done) | (simp [*]; done), by repeat (first | exact Drawn0.refl _ | apply Drawn0.step)⟩
 rw [if_neg c3] at H
 have c3b0 : ((l0.length : Int) == (l1.length : Int)) = false := beq_eq_false_iff_ne.mpr c3
 have c3b1 : ((l0.length : Int) != (l1.length : Int)) = true := bne_iff_ne.mpr c3
 have c3b2 : (l0.length == l1.length) = false := by first | simpa using c3 | (simp at c3 ⊢; omega)
 focus
  obtain rfl := Option.some.inj H
  go_enter Try.func12, Try.ntmps12
  go_wp2
  repeat (go_quiet (fail); try go_wp2)
  go_ret
  exact ⟨by first | rfl | (simp; done) | (simp [*]; done), by repeat (first | exact Drawn0.refl _ | apply Drawn0.step)⟩
/-! ### spec_IsHand: function 14 -/
def spec_IsHand.f (k : Nat) (a0_0 : Int) (a0_1 : Int) (a0_2 : Int) : Option (Bool) := (spec_meGood.f k a0_0 a0_1 a0_2).bind fun t421 => (some t421)
theorem spec_IsHand.mono : ∀ a0 a1 a2 k, LeO (spec_IsHand.f k a0 a1 a2) (spec_IsHand.f (k + 1) a0 a1 a2) := by
 intro a0 a1 a2 k
 unfold spec_IsHand.f
 repeat' first
   | (with_reducible exact spec_meGood.mono _ _ _ _)
   | (with_reducible exact LeO.refl _)
   | (with_reducible exact LeO.none _)
   | (with_reducible refine LeO.ite ?_ ?_)
   | (with_reducible refine LeO.bind ?_ (fun _ => ?_))
   | exact spec_meGood.mono _ _ _ _
   | exact LeO.none _
   | refine LeO.ite ?_ ?_
   | refine LeO.bind ?_ (fun _ => ?_)
set_option maxHeartbeats 8000000 in
set_option maxRecDepth 100000 in
theorem spec_IsHand.calls (k : Nat) (a0_0 : Int) (a0_1 : Int) (a0_2 : Int) (r : Bool) (w : World) (h : spec_IsHand.f k a0_0 a0_1 a0_2 = some r) :
  Calls Try.prog 14 #[.agg #[.int .i64 a0_0, .int .i64 a0_1, .int .i64 a0_2]] w fun e w' => e = .returned (.bool r) ∧ Below w.heap.size w w' := by
 have hu25 := Try.underlying25
 have HB := Am (Below.refl w.heap.size w)
 have H : ((spec_meGood.f k a0_0 a0_1 a0_2).bind fun t421 => (some t421)) = some r := h
 clear h
 replace H := Option.bind_eq_some_iff.mp H
 obtain ⟨t421, A20, H⟩ := H
 try dsimp only at H
 have A2 := Am A20
 clear A20
 focus
  obtain rfl := Option.some.inj H
  go_enter Try.func14, Try.ntmps14
  go_wp2_with (first | ((with_reducible refine gate_dst (N := 1) rfl ?_); refine bE 1 #[.int .i64 a0_0, .int .i64 a0_1, .int .i64 a0_2] 25 ?_; intro gb420 hg w3 hbox hb; have hv := vK HB hb; have n0_ := Am (bT hv hb); have n1_ := Am (hbox); have GE420 := kG hg hv; clear HB; have HB := n0_; have BK420 := n1_; clear n0_ n1_ hv; clear hb hbox hg; have zq4 := c3 BK420) | ((with_reducible refine gate_callee (f := 34) rfl ?_); refine gL (some 4) Try.func34 #[.agg #[.int .i64 a0_0, .int .i64 a0_1, .int .i64 a0_2]] rfl ?_; (with_reducible refine (spec_meGood.calls k a0_0 a0_1 a0_2 t421 _ A2.out).mono ?_); rintro e w5 ⟨rfl, hb⟩; refine ⟨_, rfl, ?_⟩; have hp0 := pA BK420 hb; have hv := vK HB hb; have n1_ := Am (bT hv hb); clear HB; replace BK420 := hp0 BK420; have HB := n1_; clear n1_ hp0 hv; (try clear hb)))
  go_ret
  exact ⟨by first | rfl | (simp [errW_none, errW_some] <;> rfl) | (simp [*, errW_none, errW_some] <;> rfl), by repeat (first | (with_reducible first | exact HB.out | apply bA | apply bN | apply bD | refine bX ?_ (by assumption)) | exact HB.out)⟩
/-! ### laws_kAbs: function 15 -/
def laws_kAbs.f (a0 : Int) : Option (Int) := if a0 < 0 then (some (wrap64 (-a0))) else (some a0)
set_option maxHeartbeats 8000000 in
set_option maxRecDepth 100000 in
theorem laws_kAbs.calls (a0 : Int) (r : Int) (w : World) (h : laws_kAbs.f a0 = some r) :
  Calls Try.prog 15 #[.int .i64 a0] w fun e w' => e = .returned (.int .i64 r) ∧ Drawn0 w w' := by
 have H : (if a0 < 0 then (some (wrap64 (-a0))) else (some a0)) = some r := h
 clear h
 by_cases c2 : a0 < 0
 ·rw [if_pos c2] at H
  have c2b0 : decide (a0 < 0) = true := decide_eq_true c2
  clear c2
  focus
   obtain rfl := Option.some.inj H
   go_enter Try.func15, Try.ntmps15
   go_wp2
   go_ret
   exact ⟨by first | rfl | (simp; done) | (simp [*]; done), by repeat (first | exact Drawn0.refl _ | apply Drawn0.step)⟩
 rw [if_neg c2] at H
 have c2b0 : decide (a0 < 0) = false := decide_eq_false c2
 clear c2
 focus
  obtain rfl := Option.some.inj H
  go_enter Try.func15, Try.ntmps15
  go_wp2
  go_ret
  exact ⟨by first | rfl | (simp; done) | (simp [*]; done), by repeat (first | exact Drawn0.refl _ | apply Drawn0.step)⟩
/-! ### laws_kRises: function 16 -/
def laws_kRises.l0 : Nat → List (S23) → Int → Option (Bool)
 | 0, _, _ => none
 | k + 1, x0, x3 => if x3 < (x0.length : Int) then (if 0 ≤ (wrap64 (x3 - 1)) then (if (wrap64 (x3 - 1)) < (x0.length : Int) then (if 0 ≤ x3 then (if (wrap64 (((rd_T23 x0 (wrap64 (x3 - 1))).f0) * ((rd_T23 x0 x3).f1))) ≥ (wrap64 (((rd_T23 x0 x3).f0) * ((rd_T23 x0 (wrap64 (x3 - 1))).f1))) then (some false) else (laws_kRises.l0 k x0 (wrap64 (x3 + 1)))) else (none)) else (none)) else (none)) else (some true)
def laws_kRises.f (k : Nat) (l0 : List (S23)) : Option (Bool) := laws_kRises.l0 k l0 1
theorem laws_kRises.mono_l : ∀ k, (∀ y0 y1, LeO (laws_kRises.l0 k y0 y1) (laws_kRises.l0 (k + 1) y0 y1))
 | 0 => fun _ _ r h => by simp [laws_kRises.l0] at h
 | k + 1 => by
  have ih0 := laws_kRises.mono_l k
  ·intro y0 y1
   unfold laws_kRises.l0
   repeat' first
   | (with_reducible apply ih0)
   | (with_reducible exact LeO.refl _)
   | (with_reducible exact LeO.none _)
   | (with_reducible refine LeO.ite ?_ ?_)
   | (with_reducible refine LeO.bind ?_ (fun _ => ?_))
   | apply ih0
   | exact LeO.none _
   | refine LeO.ite ?_ ?_
   | refine LeO.bind ?_ (fun _ => ?_)
theorem laws_kRises.mono : ∀ a0 k, LeO (laws_kRises.f k a0) (laws_kRises.f (k + 1) a0) := by
 intro a0 k
 have ih0 := laws_kRises.mono_l k
 unfold laws_kRises.f
 repeat' first
   | (with_reducible apply ih0)
   | (with_reducible exact LeO.refl _)
   | (with_reducible exact LeO.none _)
   | (with_reducible refine LeO.ite ?_ ?_)
   | (with_reducible refine LeO.bind ?_ (fun _ => ?_))
   | apply ih0
   | exact LeO.none _
   | refine LeO.ite ?_ ?_
   | refine LeO.bind ?_ (fun _ => ?_)
set_option maxHeartbeats 8000000 in
set_option maxRecDepth 100000 in
theorem laws_kRises.calls (k : Nat) (A0 : Option Addr) (c0 : Nat) (l0 : List (S23)) (r : Bool) (w : World) (hr0 : Kd.C k23 w A0 l0.length l0) (hc0 : l0.length ≤ c0) (h : laws_kRises.f k l0 = some r) :
  Calls Try.prog 16 #[.slice A0 l0.length c0] w fun e w' => e = .returned (.bool r) ∧ Drawn0 w w' := by
 have HR0 := Am hr0
 have HC0 := Am hc0
 clear hr0 hc0
 have H : (laws_kRises.l0 k l0 1) = some r := h
 clear h
 have H' := Am H
 clear H
 go_enter Try.func16, Try.ntmps16
 go_wp2
 repeat (go_quiet (fail); try go_wp2)
 go_loopg [3] k (fun kq v3 w' => ∃ (x3_1 : Int), v3 = .int .i64 x3_1 ∧ Aside0 (laws_kRises.l0 kq l0 x3_1 = some r) ∧ Aside0 (kq ≤ k) ∧ Drawn0 w w')
 case atStart => exact ⟨(1), (by first | rfl | (simp; done) | (simp [*]; done)), H', ⟨Nat.le_refl _⟩, by repeat (first | exact Drawn0.refl _ | apply Drawn0.step)⟩
 case round =>
  clear H'
  obtain ⟨x3_1, rfl, HA, HK1, ⟨m1, rfl⟩⟩ := hrel
  cases gk with
  | zero => exact absurd HA.out (by simp [laws_kRises.l0])
  | succ k1 =>
   have H := HA.out
   clear HA
   simp only [laws_kRises.l0] at H
   by_cases c2 : x3_1 < (l0.length : Int)
   ·rw [if_pos c2] at H
    have c2b0 : decide (x3_1 < (l0.length : Int)) = true := decide_eq_true c2
    clear c2
    obtain ⟨ji3, hji3⟩ : ∃ j_ : Int, (wrap64 (x3_1 - 1)) = j_ := ⟨_, rfl⟩
    replace H : (if 0 ≤ (ji3) then (if (ji3) < (l0.length : Int) then (if 0 ≤ x3_1 then (if (wrap64 (((rd_T23 l0 (ji3)).f0) * ((rd_T23 l0 x3_1).f1))) ≥ (wrap64 (((rd_T23 l0 x3_1).f0) * ((rd_T23 l0 (ji3)).f1))) then (some false) else (laws_kRises.l0 k1 l0 (wrap64 (x3_1 + 1)))) else (none)) else (none)) else (none)) = some r := by first | (rw [hji3] at H; exact H) | (simp only [hji3] at H ⊢; exact H)
    have hji3w : (IntKind.i64.wrap (x3_1 - 1)) = ji3 := (i64_w _).trans hji3
    by_cases c4 : 0 ≤ (ji3)
    ·rw [if_pos c4] at H
     have c4b0 : decide (0 ≤ (ji3)) = true := decide_eq_true c4
     clear c4
     by_cases c5 : (ji3) < (l0.length : Int)
     ·rw [if_pos c5] at H
      have c5b0 : decide ((ji3) < (l0.length : Int)) = true := decide_eq_true c5
      clear c5
      by_cases c6 : 0 ≤ x3_1
      ·rw [if_pos c6] at H
       have c6b0 : decide (0 ≤ x3_1) = true := decide_eq_true c6
       clear c6
       by_cases c7 : (wrap64 (((rd_T23 l0 (ji3)).f0) * ((rd_T23 l0 x3_1).f1))) ≥ (wrap64 (((rd_T23 l0 x3_1).f0) * ((rd_T23 l0 (ji3)).f1)))
       ·rw [if_pos c7] at H
        have c7b0 : decide ((wrap64 (((rd_T23 l0 x3_1).f0) * ((rd_T23 l0 (ji3)).f1))) ≤ (wrap64 (((rd_T23 l0 (ji3)).f0) * ((rd_T23 l0 x3_1).f1)))) = true := decide_eq_true c7
        clear c7
        focus
         obtain rfl := Option.some.inj H
         have p422 : 0 ≤ ((ji3) : Int) := of_decide_eq_true (by first | (with_reducible assumption) | assumption)
         have q422 : (ji3) < (l0.length : Int) := of_decide_eq_true (by first | (with_reducible assumption) | assumption)
         obtain ⟨ad422, e422, hx422_0, hx422_1⟩ := at_T23 HR0.out (ji3) p422 q422
         cases e422
         replace p422 := eq_true p422
         replace q422 := eq_true q422
         have p423 : 0 ≤ (x3_1 : Int) := of_decide_eq_true (by first | (with_reducible assumption) | assumption)
         have q423 : x3_1 < (l0.length : Int) := of_decide_eq_true (by first | (with_reducible assumption) | assumption)
         obtain ⟨ad423, e423, hx423_0, hx423_1⟩ := at_T23 HR0.out x3_1 p423 q423
         obtain rfl : ad422 = ad423 := (by injection e423)
         replace p423 := eq_true p423
         replace q423 := eq_true q423
         have p424 : 0 ≤ (x3_1 : Int) := of_decide_eq_true (by first | (with_reducible assumption) | assumption)
         have q424 : x3_1 < (l0.length : Int) := of_decide_eq_true (by first | (with_reducible assumption) | assumption)
         obtain ⟨ad424, e424, hx424_0, hx424_1⟩ := at_T23 HR0.out x3_1 p424 q424
         obtain rfl : ad422 = ad424 := (by injection e424)
         replace p424 := eq_true p424
         replace q424 := eq_true q424
         have p425 : 0 ≤ ((ji3) : Int) := of_decide_eq_true (by first | (with_reducible assumption) | assumption)
         have q425 : (ji3) < (l0.length : Int) := of_decide_eq_true (by first | (with_reducible assumption) | assumption)
         obtain ⟨ad425, e425, hx425_0, hx425_1⟩ := at_T23 HR0.out (ji3) p425 q425
         obtain rfl : ad422 = ad425 := (by injection e425)
         replace p425 := eq_true p425
         replace q425 := eq_true q425
         go_wp2
         repeat (go_quiet (fail); try go_wp2)
         go_ret
         exact ⟨by first | rfl | (simp; done) | (simp only [← hji3] <;> (first | rfl | simp)) | (simp [*]; done), by repeat (first | exact Drawn0.refl _ | apply Drawn0.step)⟩
       rw [if_neg c7] at H
       have c7b0 : decide ((wrap64 (((rd_T23 l0 x3_1).f0) * ((rd_T23 l0 (ji3)).f1))) ≤ (wrap64 (((rd_T23 l0 (ji3)).f0) * ((rd_T23 l0 x3_1).f1)))) = false := decide_eq_false c7
       clear c7
       focus
        have H' := Am H
        clear H
        have p422 : 0 ≤ ((ji3) : Int) := of_decide_eq_true (by first | (with_reducible assumption) | assumption)
        have q422 : (ji3) < (l0.length : Int) := of_decide_eq_true (by first | (with_reducible assumption) | assumption)
        obtain ⟨ad422, e422, hx422_0, hx422_1⟩ := at_T23 HR0.out (ji3) p422 q422
        cases e422
        replace p422 := eq_true p422
        replace q422 := eq_true q422
        have p423 : 0 ≤ (x3_1 : Int) := of_decide_eq_true (by first | (with_reducible assumption) | assumption)
        have q423 : x3_1 < (l0.length : Int) := of_decide_eq_true (by first | (with_reducible assumption) | assumption)
        obtain ⟨ad423, e423, hx423_0, hx423_1⟩ := at_T23 HR0.out x3_1 p423 q423
        obtain rfl : ad422 = ad423 := (by injection e423)
        replace p423 := eq_true p423
        replace q423 := eq_true q423
        have p424 : 0 ≤ (x3_1 : Int) := of_decide_eq_true (by first | (with_reducible assumption) | assumption)
        have q424 : x3_1 < (l0.length : Int) := of_decide_eq_true (by first | (with_reducible assumption) | assumption)
        obtain ⟨ad424, e424, hx424_0, hx424_1⟩ := at_T23 HR0.out x3_1 p424 q424
        obtain rfl : ad422 = ad424 := (by injection e424)
        replace p424 := eq_true p424
        replace q424 := eq_true q424
        have p425 : 0 ≤ ((ji3) : Int) := of_decide_eq_true (by first | (with_reducible assumption) | assumption)
        have q425 : (ji3) < (l0.length : Int) := of_decide_eq_true (by first | (with_reducible assumption) | assumption)
        obtain ⟨ad425, e425, hx425_0, hx425_1⟩ := at_T23 HR0.out (ji3) p425 q425
        obtain rfl : ad422 = ad425 := (by injection e425)
        replace p425 := eq_true p425
        replace q425 := eq_true q425
        go_wp2
        repeat (go_quiet (fail); try go_wp2)
        go_roundg k1
        case measure => have := HK1.out; omega
        case rel => exact ⟨(wrap64 (x3_1 + 1)), (by first | rfl | (simp; done) | (simp [*]; done)), H', ⟨by have := HK1.out; omega⟩, by repeat (first | exact Drawn0.refl _ | apply Drawn0.step)⟩
      rw [if_neg c6] at H
      exact absurd H (by simp)
     rw [if_neg c5] at H
     exact absurd H (by simp)
    rw [if_neg c4] at H
    exact absurd H (by simp)
   rw [if_neg c2] at H
   have c2b0 : decide (x3_1 < (l0.length : Int)) = false := decide_eq_false c2
   clear c2
   focus
    obtain rfl := Option.some.inj H
    go_wp2
    repeat (go_quiet (fail); try go_wp2)
    go_ret
    exact ⟨by first | rfl | (simp; done) | (simp [*]; done), by repeat (first | exact Drawn0.refl _ | apply Drawn0.step)⟩
/-! ### impl_ifTurn: function 36 -/
def impl_ifTurn.f (k : Nat) (a0_0 : Int) (a0_1 : Int) : Option (Int × Int × Bool) := (impl_IsTurn.f k a0_0 a0_1).bind fun t428 => (if t428 = true then (some (a0_0, a0_1, true)) else (some (0, 0, false)))
theorem impl_ifTurn.mono : ∀ a0 a1 k, LeO (impl_ifTurn.f k a0 a1) (impl_ifTurn.f (k + 1) a0 a1) := by
 intro a0 a1 k
 unfold impl_ifTurn.f
 repeat' first
   | (with_reducible exact impl_IsTurn.mono _ _ _)
   | (with_reducible exact LeO.refl _)
   | (with_reducible exact LeO.none _)
   | (with_reducible refine LeO.ite ?_ ?_)
   | (with_reducible refine LeO.bind ?_ (fun _ => ?_))
   | exact impl_IsTurn.mono _ _ _
   | exact LeO.none _
   | refine LeO.ite ?_ ?_
   | refine LeO.bind ?_ (fun _ => ?_)
set_option maxHeartbeats 8000000 in
set_option maxRecDepth 100000 in
theorem impl_ifTurn.calls (k : Nat) (a0_0 : Int) (a0_1 : Int) (r1 : Int) (r2 : Int) (r3 : Bool) (w : World) (h : impl_ifTurn.f k a0_0 a0_1 = some (r1, r2, r3)) :
  Calls Try.prog 36 #[.agg #[.int .i64 a0_0, .int .i64 a0_1]] w fun e w' => e = .returned (.tuple #[.agg #[.int .i64 r1, .int .i64 r2], .bool r3]) ∧ Below w.heap.size w w' := by
 have hu23 := Try.underlying23
 have HB := Am (Below.refl w.heap.size w)
 have H : ((impl_IsTurn.f k a0_0 a0_1).bind fun t428 => (if t428 = true then (some (a0_0, a0_1, true)) else (some (0, 0, false)))) = some (r1, r2, r3) := h
 clear h
 replace H := Option.bind_eq_some_iff.mp H
 obtain ⟨t428, A20, H⟩ := H
 try dsimp only at H
 have A2 := Am A20
 clear A20
 by_cases c3 : t428 = true
 ·subst c3
  have H1 : (some (a0_0, a0_1, true)) = some (r1, r2, r3) := by rw [if_pos rfl] at H; exact H
  clear H
  have H := H1
  clear H1
  focus
   simp only [Option.some.injEq, Prod.mk.injEq] at H
   obtain ⟨rfl, rfl, rfl⟩ := H
   go_enter Try.func36, Try.ntmps36
   go_wp2_with (first | ((with_reducible refine gate_dst (N := 1) rfl ?_); refine bE 1 #[.int .i64 a0_0, .int .i64 a0_1] 23 ?_; intro gb426 hg w4 hbox hb; have hv := vK HB hb; have n0_ := Am (bT hv hb); have n1_ := Am (hbox); have GE426 := kG hg hv; clear HB; have HB := n0_; have BK426 := n1_; clear n0_ n1_ hv; clear hb hbox hg) | ((with_reducible refine gate_dst (N := 2) rfl ?_); refine bE 2 #[.int .i64 0, .int .i64 0] 23 ?_; intro gb427 hg w5 hbox hb; have hp0 := pA BK426 hb; have hv := vK HB hb; have n1_ := Am (bT hv hb); have n2_ := Am (hbox); have GE427 := kG hg hv; have hp1 := pK BK426 hb; obtain ⟨NB426_427, NB427_426⟩ := kXY hg hp1 BK426; clear HB; replace BK426 := hp0 BK426; have HB := n1_; have BK427 := n2_; clear n1_ n2_ hp0 hp1 hv; clear hb hbox hg; have nq6 := kO NB426_427; have zq7 := c2 BK426) | ((with_reducible refine gate_callee (f := 35) rfl ?_); refine gL (some 5) Try.func35 #[.agg #[.int .i64 a0_0, .int .i64 a0_1]] rfl ?_; (with_reducible refine (impl_IsTurn.calls k a0_0 a0_1 true _ A2.out).mono ?_); rintro e w8 ⟨rfl, hb⟩; refine ⟨_, rfl, ?_⟩; have hp0 := pA BK426 hb; have hv := vK HB hb; have n2_ := Am (bT hv hb); clear HB; replace BK426 := hp0 BK426; replace BK427 := hp0 BK427; have HB := n2_; clear n2_ hp0 hv; (try clear hb); have zq9 := c2 BK426; have zq10 := c2 BK427))
   refine bodyPost_ret (results_ct rfl _ _ gb427 23 #[.int .i64 a0_0, .int .i64 a0_1] (0, 0) _ rfl (by (with_reducible repeat (first | refine kN ?_ _ | refine kD ?_ | refine kA ?_ _)); refine kP (cs := #[.int .i64 a0_0, .int .i64 0]) ?_ 1 _ rfl; (with_reducible repeat (first | refine kN ?_ _ | refine kD ?_ | refine kA ?_ _)); refine kP (cs := #[.int .i64 0, .int .i64 0]) ?_ 0 _ rfl; (with_reducible repeat (first | refine kN ?_ _ | refine kD ?_ | refine kA ?_ _)); exact BK427.out) Try.underlying23 rfl (by kernel_rfl)) rfl ?_
   exact ⟨by first | rfl | (simp [errW_none, errW_some] <;> rfl) | (simp [*, errW_none, errW_some] <;> rfl), by repeat (first | (with_reducible first | exact HB.out | apply bA | apply bN | apply bD | refine bX ?_ (by assumption)) | exact HB.out)⟩
 replace c3 := Bool.eq_false_iff.mpr c3
 subst c3
 have H1 : (some (0, 0, false)) = some (r1, r2, r3) := by rw [if_neg (show ¬ (false = true) by decide)] at H; exact H
 clear H
 have H := H1
 clear H1
 focus
  simp only [Option.some.injEq, Prod.mk.injEq] at H
  obtain ⟨rfl, rfl, rfl⟩ := H
  go_enter Try.func36, Try.ntmps36
  go_wp2_with (first | ((with_reducible refine gate_dst (N := 1) rfl ?_); refine bE 1 #[.int .i64 a0_0, .int .i64 a0_1] 23 ?_; intro gb426 hg w11 hbox hb; have hv := vK HB hb; have n0_ := Am (bT hv hb); have n1_ := Am (hbox); have GE426 := kG hg hv; clear HB; have HB := n0_; have BK426 := n1_; clear n0_ n1_ hv; clear hb hbox hg) | ((with_reducible refine gate_dst (N := 2) rfl ?_); refine bE 2 #[.int .i64 0, .int .i64 0] 23 ?_; intro gb427 hg w12 hbox hb; have hp0 := pA BK426 hb; have hv := vK HB hb; have n1_ := Am (bT hv hb); have n2_ := Am (hbox); have GE427 := kG hg hv; have hp1 := pK BK426 hb; obtain ⟨NB426_427, NB427_426⟩ := kXY hg hp1 BK426; clear HB; replace BK426 := hp0 BK426; have HB := n1_; have BK427 := n2_; clear n1_ n2_ hp0 hp1 hv; clear hb hbox hg; have nq13 := kO NB426_427; have zq14 := c2 BK426) | ((with_reducible refine gate_callee (f := 35) rfl ?_); refine gL (some 5) Try.func35 #[.agg #[.int .i64 a0_0, .int .i64 a0_1]] rfl ?_; (with_reducible refine (impl_IsTurn.calls k a0_0 a0_1 false _ A2.out).mono ?_); rintro e w15 ⟨rfl, hb⟩; refine ⟨_, rfl, ?_⟩; have hp0 := pA BK426 hb; have hv := vK HB hb; have n2_ := Am (bT hv hb); clear HB; replace BK426 := hp0 BK426; replace BK427 := hp0 BK427; have HB := n2_; clear n2_ hp0 hv; (try clear hb); have zq16 := c2 BK427))
  refine bodyPost_ret (results_ct rfl _ _ gb427 23 #[.int .i64 0, .int .i64 0] (0, 0) _ rfl (by (with_reducible repeat (first | refine kN ?_ _ | refine kD ?_ | refine kA ?_ _)); refine kP (cs := #[.int .i64 0, .int .i64 0]) ?_ 1 _ rfl; (with_reducible repeat (first | refine kN ?_ _ | refine kD ?_ | refine kA ?_ _)); refine kP (cs := #[.int .i64 0, .int .i64 0]) ?_ 0 _ rfl; (with_reducible repeat (first | refine kN ?_ _ | refine kD ?_ | refine kA ?_ _)); exact BK427.out) Try.underlying23 rfl (by kernel_rfl)) rfl ?_
  exact ⟨by first | rfl | (simp [errW_none, errW_some] <;> rfl) | (simp [*, errW_none, errW_some] <;> rfl), by repeat (first | (with_reducible first | exact HB.out | apply bA | apply bN | apply bD | refine bX ?_ (by assumption)) | exact HB.out)⟩
/-! ### impl_HandAt: function 17 -/
def impl_HandAt.j0 : Nat → Bool → Int → Int → Int → Int → Int → Option (Int × Int × Bool)
 | 0, _, _, _, _, _, _ => none
 | k + 1, x13, x430000, x430001, x430002, x431000, x431001 => if x13 = true then (some (0, 0, false)) else ((impl_Hand_at.f k x430000 x430001 x430002 x431000 x431001).bind fun bt434 => ((impl_ifTurn.f k bt434.1 bt434.2).bind fun bt436 => (some (bt436.1, bt436.2.1, bt436.2.2))))
def impl_HandAt.f (k : Nat) (a0_0 : Int) (a0_1 : Int) (a0_2 : Int) (a1_0 : Int) (a1_1 : Int) : Option (Int × Int × Bool) := (impl_IsHand.f k a0_0 a0_1 a0_2).bind fun t432 => (if t432 = true then ((impl_IsTurn.f k a1_0 a1_1).bind fun t433 => (impl_HandAt.j0 k (!t433) a0_0 a0_1 a0_2 a1_0 a1_1)) else (impl_HandAt.j0 k true a0_0 a0_1 a0_2 a1_0 a1_1))
theorem impl_HandAt.mono_l : ∀ k, (∀ y0 y1 y2 y3 y4 y5, LeO (impl_HandAt.j0 k y0 y1 y2 y3 y4 y5) (impl_HandAt.j0 (k + 1) y0 y1 y2 y3 y4 y5))
 | 0 => fun _ _ _ _ _ _ r h => by simp [impl_HandAt.j0] at h
 | k + 1 => by
  have ih0 := impl_HandAt.mono_l k
  ·intro y0 y1 y2 y3 y4 y5
   unfold impl_HandAt.j0
   repeat' first
   | (with_reducible apply ih0)
   | (with_reducible exact impl_Hand_at.mono _ _ _ _ _ _)
   | (with_reducible exact impl_IsHand.mono _ _ _ _)
   | (with_reducible exact impl_IsTurn.mono _ _ _)
   | (with_reducible exact impl_ifTurn.mono _ _ _)
   | (with_reducible exact LeO.refl _)
   | (with_reducible exact LeO.none _)
   | (with_reducible refine LeO.ite ?_ ?_)
   | (with_reducible refine LeO.bind ?_ (fun _ => ?_))
   | apply ih0
   | exact impl_Hand_at.mono _ _ _ _ _ _
   | exact impl_IsHand.mono _ _ _ _
   | exact impl_IsTurn.mono _ _ _
   | exact impl_ifTurn.mono _ _ _
   | exact LeO.none _
   | refine LeO.ite ?_ ?_
   | refine LeO.bind ?_ (fun _ => ?_)
theorem impl_HandAt.mono : ∀ a0 a1 a2 a3 a4 k, LeO (impl_HandAt.f k a0 a1 a2 a3 a4) (impl_HandAt.f (k + 1) a0 a1 a2 a3 a4) := by
 intro a0 a1 a2 a3 a4 k
 have ih0 := impl_HandAt.mono_l k
 unfold impl_HandAt.f
 repeat' first
   | (with_reducible apply ih0)
   | (with_reducible exact impl_Hand_at.mono _ _ _ _ _ _)
   | (with_reducible exact impl_IsHand.mono _ _ _ _)
   | (with_reducible exact impl_IsTurn.mono _ _ _)
   | (with_reducible exact impl_ifTurn.mono _ _ _)
   | (with_reducible exact LeO.refl _)
   | (with_reducible exact LeO.none _)
   | (with_reducible refine LeO.ite ?_ ?_)
   | (with_reducible refine LeO.bind ?_ (fun _ => ?_))
   | apply ih0
   | exact impl_Hand_at.mono _ _ _ _ _ _
   | exact impl_IsHand.mono _ _ _ _
   | exact impl_IsTurn.mono _ _ _
   | exact impl_ifTurn.mono _ _ _
   | exact LeO.none _
   | refine LeO.ite ?_ ?_
   | refine LeO.bind ?_ (fun _ => ?_)
set_option maxHeartbeats 8000000 in
set_option maxRecDepth 100000 in
theorem impl_HandAt.calls (k : Nat) (a0_0 : Int) (a0_1 : Int) (a0_2 : Int) (a1_0 : Int) (a1_1 : Int) (r1 : Int) (r2 : Int) (r3 : Bool) (w : World) (h : impl_HandAt.f k a0_0 a0_1 a0_2 a1_0 a1_1 = some (r1, r2, r3)) :
  Calls Try.prog 17 #[.agg #[.int .i64 a0_0, .int .i64 a0_1, .int .i64 a0_2], .agg #[.int .i64 a1_0, .int .i64 a1_1]] w fun e w' => e = .returned (.tuple #[.agg #[.int .i64 r1, .int .i64 r2], .bool r3]) ∧ Below w.heap.size w w' := by
 have hu25 := Try.underlying25; have hu23 := Try.underlying23
 have HB := Am (Below.refl w.heap.size w)
 have H : ((impl_IsHand.f k a0_0 a0_1 a0_2).bind fun t432 => (if t432 = true then ((impl_IsTurn.f k a1_0 a1_1).bind fun t433 => (impl_HandAt.j0 k (!t433) a0_0 a0_1 a0_2 a1_0 a1_1)) else (impl_HandAt.j0 k true a0_0 a0_1 a0_2 a1_0 a1_1))) = some (r1, r2, r3) := h
 clear h
 have HC3 := Am H
 clear H
 go_enter Try.func17, Try.ntmps17
 go_upto_region 1 with (first | ((with_reducible refine gate_dst (N := 2) rfl ?_); refine bE 2 #[.int .i64 a0_0, .int .i64 a0_1, .int .i64 a0_2] 25 ?_; intro gb429 hg w4 hbox hb; have hv := vK HB hb; have n0_ := Am (bT hv hb); have n1_ := Am (hbox); have GE429 := kG hg hv; clear HB; have HB := n0_; have BK429 := n1_; clear n0_ n1_ hv; clear hb hbox hg) | ((with_reducible refine gate_dst (N := 3) rfl ?_); refine bE 3 #[.int .i64 a1_0, .int .i64 a1_1] 23 ?_; intro gb430 hg w5 hbox hb; have hp0 := pA BK429 hb; have hv := vK HB hb; have n1_ := Am (bT hv hb); have n2_ := Am (hbox); have GE430 := kG hg hv; have hp1 := pK BK429 hb; obtain ⟨NB429_430, NB430_429⟩ := kXY hg hp1 BK429; clear HB; replace BK429 := hp0 BK429; have HB := n1_; have BK430 := n2_; clear n1_ n2_ hp0 hp1 hv; clear hb hbox hg) | ((with_reducible refine gate_dst (N := 4) rfl ?_); refine bE 4 #[.int .i64 0, .int .i64 0] 23 ?_; intro gb431 hg w6 hbox hb; have hp0 := pA BK429 hb; have hv := vK HB hb; have n2_ := Am (bT hv hb); have n3_ := Am (hbox); have GE431 := kG hg hv; have hp1 := pK BK429 hb; obtain ⟨NB429_431, NB431_429⟩ := kXY hg hp1 BK429; obtain ⟨NB430_431, NB431_430⟩ := kXY hg hp1 BK430; clear HB; replace BK429 := hp0 BK429; replace BK430 := hp0 BK430; have HB := n2_; have BK431 := n3_; clear n2_ n3_ hp0 hp1 hv; clear hb hbox hg))
 (try simp only [Act.put, List.setIfInBounds_toArray, List.set_cons_zero, List.set_cons_succ])
 go_cut [13] (fun v13 wc => ∃ (kq : Nat) (x13_2 : Bool), v13 = .bool x13_2 ∧ Aside0 (impl_HandAt.j0 kq x13_2 a0_0 a0_1 a0_2 a1_0 a1_1 = some (r1, r2, r3)) ∧ Aside0 (kq ≤ k) ∧ Aside0 (wc.heap[gb429]? = some (.cells #[.int .i64 a0_0, .int .i64 a0_1, .int .i64 a0_2] 25 (0, 0))) ∧ Aside0 (wc.heap[gb430]? = some (.cells #[.int .i64 a1_0, .int .i64 a1_1] 23 (0, 0))) ∧ Aside0 (wc.heap[gb431]? = some (.cells #[.int .i64 0, .int .i64 0] 23 (0, 0))) ∧ Aside0 (Below w.heap.size w wc))
 case first =>
  have H := HC3.out
  clear HC3
  replace H := Option.bind_eq_some_iff.mp H
  obtain ⟨t432, A70, H⟩ := H
  try dsimp only at H
  have A7 := Am A70
  clear A70
  by_cases c8 : t432 = true
  ·subst c8
   have H1 : ((impl_IsTurn.f k a1_0 a1_1).bind fun t433 => (impl_HandAt.j0 k (!t433) a0_0 a0_1 a0_2 a1_0 a1_1)) = some (r1, r2, r3) := by rw [if_pos rfl] at H; exact H
   clear H
   have H := H1
   clear H1
   replace H := Option.bind_eq_some_iff.mp H
   obtain ⟨t433, A90, H⟩ := H
   try dsimp only at H
   have A9 := Am A90
   clear A90
   focus
    have H' := Am H
    clear H
    have nq10 := kO NB429_430; have nq11 := kO NB429_431
    have zq12 := c3 BK429
    go_wp2_with (first | ((with_reducible refine gate_callee (f := 13) rfl ?_); refine gL (some 7) Try.func13 #[.agg #[.int .i64 a0_0, .int .i64 a0_1, .int .i64 a0_2]] rfl ?_; (with_reducible refine (impl_IsHand.calls k a0_0 a0_1 a0_2 true _ A7.out).mono ?_); rintro e w13 ⟨rfl, hb⟩; refine ⟨_, rfl, ?_⟩; have hp0 := pA BK429 hb; have hv := vK HB hb; have n3_ := Am (bT hv hb); clear HB; replace BK429 := hp0 BK429; replace BK430 := hp0 BK430; replace BK431 := hp0 BK431; have HB := n3_; clear n3_ hp0 hv; (try clear hb); have nq14 := kO NB430_431; have zq15 := c2 BK430) | (go_at_call 35; (with_reducible refine (impl_IsTurn.calls k a1_0 a1_1 t433 _ A9.out).mono ?_); rintro e w16 ⟨rfl, hb⟩; have hp0 := pA BK429 hb; have hv := vK HB hb; have n3_ := Am (bT hv hb); clear HB; replace BK429 := hp0 BK429; replace BK430 := hp0 BK430; replace BK431 := hp0 BK431; have HB := n3_; clear n3_ hp0 hv; (try clear hb)))
    go_meet
    case rel =>
     refine ⟨_, (!t433), (by first | rfl | (simp; done) | (simp [*]; done)), H', ⟨by first | omega | exact Nat.le_refl _⟩, ⟨?_⟩, ⟨?_⟩, ⟨?_⟩, ⟨by repeat (first | (with_reducible first | exact HB.out | apply bA | apply bN | apply bD | refine bX ?_ (by assumption)) | exact HB.out)⟩⟩
     all_goals ((with_reducible repeat (first | refine kN ?_ _ | refine kD ?_ | refine kA ?_ _)); exact Aside0.out (by assumption))
  replace c8 := Bool.eq_false_iff.mpr c8
  subst c8
  have H1 : (impl_HandAt.j0 k true a0_0 a0_1 a0_2 a1_0 a1_1) = some (r1, r2, r3) := by rw [if_neg (show ¬ (false = true) by decide)] at H; exact H
  clear H
  have H := H1
  clear H1
  focus
   have H' := Am H
   clear H
   have nq17 := kO NB429_430; have nq18 := kO NB429_431
   have zq19 := c3 BK429
   go_wp2_with (first | ((with_reducible refine gate_callee (f := 13) rfl ?_); refine gL (some 7) Try.func13 #[.agg #[.int .i64 a0_0, .int .i64 a0_1, .int .i64 a0_2]] rfl ?_; (with_reducible refine (impl_IsHand.calls k a0_0 a0_1 a0_2 false _ A7.out).mono ?_); rintro e w20 ⟨rfl, hb⟩; refine ⟨_, rfl, ?_⟩; have hp0 := pA BK429 hb; have hv := vK HB hb; have n3_ := Am (bT hv hb); clear HB; replace BK429 := hp0 BK429; replace BK430 := hp0 BK430; replace BK431 := hp0 BK431; have HB := n3_; clear n3_ hp0 hv; (try clear hb)))
   go_meet
   case rel =>
    refine ⟨_, (true), (by first | rfl | (simp; done) | (simp [*]; done)), H', ⟨by first | omega | exact Nat.le_refl _⟩, ⟨?_⟩, ⟨?_⟩, ⟨?_⟩, ⟨by repeat (first | (with_reducible first | exact HB.out | apply bA | apply bN | apply bD | refine bX ?_ (by assumption)) | exact HB.out)⟩⟩
    all_goals ((with_reducible repeat (first | refine kN ?_ _ | refine kD ?_ | refine kA ?_ _)); exact Aside0.out (by assumption))
 clear HC3
 obtain ⟨kq, x13_2, rfl, HA, HJ2, BK429, BK430, BK431, HB⟩ := hcut
 cases kq with
 | zero => exact absurd HA.out (by simp [impl_HandAt.j0])
 | succ kj2 =>
  have H := HA.out
  clear HA
  simp only [impl_HandAt.j0] at H
  by_cases c21 : x13_2 = true
  ·subst c21
   have H1 : (some (0, 0, false)) = some (r1, r2, r3) := by rw [if_pos rfl] at H; exact H
   clear H
   have H := H1
   clear H1
   focus
    simp only [Option.some.injEq, Prod.mk.injEq] at H
    obtain ⟨rfl, rfl, rfl⟩ := H
    have nq22 := kO NB431_429; have nq23 := kO NB431_430
    have zq24 := c2 BK431
    go_wp2
    refine bodyPost_ret (results_ct rfl _ _ gb431 23 #[.int .i64 0, .int .i64 0] (0, 0) _ rfl (by (with_reducible repeat (first | refine kN ?_ _ | refine kD ?_ | refine kA ?_ _)); refine kP (cs := #[.int .i64 0, .int .i64 0]) ?_ 1 _ rfl; (with_reducible repeat (first | refine kN ?_ _ | refine kD ?_ | refine kA ?_ _)); refine kP (cs := #[.int .i64 0, .int .i64 0]) ?_ 0 _ rfl; (with_reducible repeat (first | refine kN ?_ _ | refine kD ?_ | refine kA ?_ _)); exact BK431.out) Try.underlying23 rfl (by kernel_rfl)) rfl ?_
    exact ⟨by first | rfl | (simp [errW_none, errW_some] <;> rfl) | (simp [*, errW_none, errW_some] <;> rfl), by repeat (first | (with_reducible first | exact HB.out | apply bA | apply bN | apply bD | refine bX ?_ (by assumption)) | exact HB.out)⟩
  replace c21 := Bool.eq_false_iff.mpr c21
  subst c21
  have H1 : ((impl_Hand_at.f kj2 a0_0 a0_1 a0_2 a1_0 a1_1).bind fun bt434 => ((impl_ifTurn.f kj2 bt434.1 bt434.2).bind fun bt436 => (some (bt436.1, bt436.2.1, bt436.2.2)))) = some (r1, r2, r3) := by rw [if_neg (show ¬ (false = true) by decide)] at H; exact H
  clear H
  have H := H1
  clear H1
  replace H := Option.bind_eq_some_iff.mp H
  obtain ⟨⟨t434, t435⟩, A250, H⟩ := H
  try dsimp only at H
  have A25 := Am A250
  clear A250
  replace H := Option.bind_eq_some_iff.mp H
  obtain ⟨⟨t436, t437, t438⟩, A260, H⟩ := H
  try dsimp only at H
  have A26 := Am A260
  clear A260
  focus
   simp only [Option.some.injEq, Prod.mk.injEq] at H
   obtain ⟨rfl, rfl, rfl⟩ := H
   have nq27 := kO NB429_430; have nq28 := kO NB429_431
   have zq29 := c3 BK429
   have nq30 := kO NB430_431
   have zq31 := c2 BK430
   go_wp2_with (first | ((with_reducible refine gate_callee (f := 27) rfl ?_); refine gL (some 17) Try.func27 #[.agg #[.int .i64 a0_0, .int .i64 a0_1, .int .i64 a0_2], .agg #[.int .i64 a1_0, .int .i64 a1_1]] rfl ?_; (with_reducible refine (impl_Hand_at.calls kj2 a0_0 a0_1 a0_2 a1_0 a1_1 t434 t435 _ A25.out).mono ?_); rintro e w32 ⟨rfl, hb⟩; refine ⟨_, rfl, ?_⟩; have hp0 := pA BK429 hb; have hv := vK HB hb; have n3_ := Am (bT hv hb); clear HB; replace BK429 := hp0 BK429; replace BK430 := hp0 BK430; replace BK431 := hp0 BK431; have HB := n3_; clear n3_ hp0 hv; (try clear hb)) | ((with_reducible refine gate_callee (f := 36) rfl ?_); refine gL (some 18) Try.func36 #[.agg #[.int .i64 t434, .int .i64 t435]] rfl ?_; (with_reducible refine (impl_ifTurn.calls kj2 t434 t435 t436 t437 t438 _ A26.out).mono ?_); rintro e w33 ⟨rfl, hb⟩; refine ⟨_, rfl, ?_⟩; have hp0 := pA BK429 hb; have hv := vK HB hb; have n3_ := Am (bT hv hb); clear HB; replace BK429 := hp0 BK429; replace BK430 := hp0 BK430; replace BK431 := hp0 BK431; have HB := n3_; clear n3_ hp0 hv; (try clear hb); have zq34 := c2 BK431))
   refine bodyPost_ret (results_ct rfl _ _ gb431 23 #[.int .i64 t436, .int .i64 t437] (0, 0) _ rfl (by (with_reducible repeat (first | refine kN ?_ _ | refine kD ?_ | refine kA ?_ _)); refine kP (cs := #[.int .i64 t436, .int .i64 0]) ?_ 1 _ rfl; (with_reducible repeat (first | refine kN ?_ _ | refine kD ?_ | refine kA ?_ _)); refine kP (cs := #[.int .i64 0, .int .i64 0]) ?_ 0 _ rfl; (with_reducible repeat (first | refine kN ?_ _ | refine kD ?_ | refine kA ?_ _)); exact BK431.out) Try.underlying23 rfl (by kernel_rfl)) rfl ?_
   exact ⟨by first | rfl | (simp [errW_none, errW_some] <;> rfl) | (simp [*, errW_none, errW_some] <;> rfl), by repeat (first | (with_reducible first | exact HB.out | apply bA | apply bN | apply bD | refine bX ?_ (by assumption)) | exact HB.out)⟩
end Go.Proofs.Ytbgklddlcmgakaa.PFnHandsMeetOfAll
