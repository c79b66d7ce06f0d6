-- WRITTEN BY A PROGRAM OF THIS SESSION (wip/tools): its own text, not the kit's printed one.
import Derived.Test.YtchglfpiicaedaaGreatDoorPFnHandsStandOfAllx0
import Derived.Test.YtchglfpiicaedaaGreatDoorPFnHandsStandOfAllx2
import Derived.Test.YtchglfpiicaedaaGreatDoorPFnHandsStandOfAllx3
namespace Go.Proofs.YtchglfpiicaedaaGreatDoor.PFnHandsStandOfAll
open Go.RowKit Go.Proofs.YtchglfpiicaedaaGreatDoorW.PrintWords Go.Proofs.YtchglfpiicaedaaGreatDoorW.PrintLast Go.Proofs.YtchglfpiicaedaaGreatDoorW.PrintMore
attribute [local go_sem] max2_int min2_int max_two min_two max_three min_three max_four min_four   -- for this text's walks alone
set_option linter.unusedVariables false
set_option linter.unusedSimpArgs false

/-! ### spec_SmallAngle: function 9 -/
def spec_SmallAngle.f (k : Nat) (a0 : Int) (a1_0 : Int) (a1_1 : Int) : Option (Int × Int × Bool) := (spec_diAsked.f k a0 a1_0 a1_1).bind fun t182 => (if t182 = true then ((spec_diTimes.f k a1_0 a1_1 (wrap64 (a0 - 1))).bind fun bt183 => ((spec_diMirror.f k bt183.1 bt183.2).bind fun bt186 => ((spec_diCompare.f bt186.1 bt186.2 bt183.1 bt183.2).bind fun t189 => (if t189 < 0 then (some (bt186.1, bt186.2, true)) else (some (bt183.1, bt183.2, true)))))) else (some (0, 0, false)))
theorem spec_SmallAngle.mono : ∀ a0 a1 a2 k, LeO (spec_SmallAngle.f k a0 a1 a2) (spec_SmallAngle.f (k + 1) a0 a1 a2) := by
 intro a0 a1 a2 k
 unfold spec_SmallAngle.f
 repeat' first
   | (with_reducible exact spec_diAsked.mono _ _ _ _)
   | (with_reducible exact spec_diMirror.mono _ _ _)
   | (with_reducible exact spec_diTimes.mono _ _ _ _)
   | (with_reducible exact LeO.refl _)
   | (with_reducible exact LeO.none _)
   | (with_reducible refine LeO.ite ?_ ?_)
   | (with_reducible refine LeO.bind ?_ (fun _ => ?_))
   | exact spec_diAsked.mono _ _ _ _
   | exact spec_diMirror.mono _ _ _
   | exact spec_diTimes.mono _ _ _ _
   | exact LeO.none _
   | refine LeO.ite ?_ ?_
   | refine LeO.bind ?_ (fun _ => ?_)
set_option maxHeartbeats 8000000 in
set_option maxRecDepth 100000 in
theorem spec_SmallAngle.calls (k : Nat) (a0 : Int) (a1_0 : Int) (a1_1 : Int) (r1 : Int) (r2 : Int) (r3 : Bool) (w : World) (h : spec_SmallAngle.f k a0 a1_0 a1_1 = some (r1, r2, r3)) :
  Calls Tryz.prog 9 #[.int .i64 a0, .agg #[.int .i64 a1_0, .int .i64 a1_1]] w fun e w' => e = .returned (.tuple #[.agg #[.int .i64 r1, .int .i64 r2], .bool r3]) ∧ Below w.heap.size w w' := by
 have hu23 := Tryz.underlying23
 have HB := Am (Below.refl w.heap.size w)
 have H : ((spec_diAsked.f k a0 a1_0 a1_1).bind fun t182 => (if t182 = true then ((spec_diTimes.f k a1_0 a1_1 (wrap64 (a0 - 1))).bind fun bt183 => ((spec_diMirror.f k bt183.1 bt183.2).bind fun bt186 => ((spec_diCompare.f bt186.1 bt186.2 bt183.1 bt183.2).bind fun t189 => (if t189 < 0 then (some (bt186.1, bt186.2, true)) else (some (bt183.1, bt183.2, true)))))) else (some (0, 0, false)))) = some (r1, r2, r3) := h
 clear h
 replace H := Option.bind_eq_some_iff.mp H
 obtain ⟨t182, A30, H⟩ := H
 try dsimp only at H
 have A3 := Am A30
 clear A30
 by_cases c4 : t182 = true
 ·subst c4
  have H1 : ((spec_diTimes.f k a1_0 a1_1 (wrap64 (a0 - 1))).bind fun bt183 => ((spec_diMirror.f k bt183.1 bt183.2).bind fun bt186 => ((spec_diCompare.f bt186.1 bt186.2 bt183.1 bt183.2).bind fun t189 => (if t189 < 0 then (some (bt186.1, bt186.2, true)) else (some (bt183.1, bt183.2, true)))))) = some (r1, r2, r3) := by rw [if_pos rfl] at H; exact H
  clear H
  have H := H1
  clear H1
  replace H := Option.bind_eq_some_iff.mp H
  obtain ⟨⟨t183, t184⟩, A50, H⟩ := H
  try dsimp only at H
  have A5 := Am A50
  clear A50
  replace H := Option.bind_eq_some_iff.mp H
  obtain ⟨⟨t186, t187⟩, A60, H⟩ := H
  try dsimp only at H
  have A6 := Am A60
  clear A60
  replace H := Option.bind_eq_some_iff.mp H
  obtain ⟨t189, A70, H⟩ := H
  try dsimp only at H
  have A7 := Am A70
  clear A70
  by_cases c8 : t189 < 0
  ·rw [if_pos c8] at H
   have c8b0 : decide (t189 < 0) = true := decide_eq_true c8
   clear c8
   focus
    simp only [Option.some.injEq, Prod.mk.injEq] at H
    obtain ⟨rfl, rfl, rfl⟩ := H
    go_enter Tryz.func9, Tryz.ntmps9
    go_wp2_with (first | ((with_reducible refine gate_dst (N := 3) rfl ?_); refine bE 3 #[.int .i64 a1_0, .int .i64 a1_1] 23 ?_; intro gb180 hg w9 hbox hb; have hv := vK HB hb; have n0_ := Am (bT hv hb); have n1_ := Am (hbox); have GE180 := kG hg hv; clear HB; have HB := n0_; have BK180 := n1_; clear n0_ n1_ hv; clear hb hbox hg) | ((with_reducible refine gate_dst (N := 4) rfl ?_); refine bE 4 #[.int .i64 0, .int .i64 0] 23 ?_; intro gb181 hg w10 hbox hb; have hp0 := pA BK180 hb; have hv := vK HB hb; have n1_ := Am (bT hv hb); have n2_ := Am (hbox); have GE181 := kG hg hv; have hp1 := pK BK180 hb; obtain ⟨NB180_181, NB181_180⟩ := kXY hg hp1 BK180; clear HB; replace BK180 := hp0 BK180; have HB := n1_; have BK181 := n2_; clear n1_ n2_ hp0 hp1 hv; clear hb hbox hg; have nq11 := kO NB180_181; have zq12 := zc2 BK180) | ((with_reducible refine gate_callee (f := 29) rfl ?_); refine gL (some 10) Tryz.func29 #[.int .i64 a0, .agg #[.int .i64 a1_0, .int .i64 a1_1]] rfl ?_; (with_reducible refine (spec_diAsked.calls k a0 a1_0 a1_1 true _ A3.out).mono ?_); rintro e w13 ⟨rfl, hb⟩; refine ⟨_, rfl, ?_⟩; have hp0 := pA BK180 hb; have hv := vK HB hb; have n2_ := Am (bT hv hb); clear HB; replace BK180 := hp0 BK180; replace BK181 := hp0 BK181; have HB := n2_; clear n2_ hp0 hv; (try clear hb); have zq14 := zc2 BK180) | ((with_reducible refine gate_callee (f := 30) rfl ?_); refine gL (some 16) Tryz.func30 #[.agg #[.int .i64 a1_0, .int .i64 a1_1], .int .i64 (wrap64 (a0 - 1))] rfl ?_; (with_reducible refine (spec_diTimes.calls k a1_0 a1_1 (wrap64 (a0 - 1)) t183 t184 _ A5.out).mono ?_); rintro e w15 ⟨rfl, hb⟩; refine ⟨_, rfl, ?_⟩; have hp0 := pA BK180 hb; have hv := vK HB hb; have n2_ := Am (bT hv hb); clear HB; replace BK180 := hp0 BK180; replace BK181 := hp0 BK181; have HB := n2_; clear n2_ hp0 hv; (try clear hb)) | ((with_reducible refine gate_dst (N := 6) rfl ?_); refine bE 6 #[.int .i64 0, .int .i64 0] 23 ?_; intro gb185 hg w16 hbox hb; have hp0 := pA BK180 hb; have hv := vK HB hb; have n2_ := Am (bT hv hb); have n3_ := Am (hbox); have GE185 := kG hg hv; have hp1 := pK BK180 hb; obtain ⟨NB180_185, NB185_180⟩ := kXY hg hp1 BK180; obtain ⟨NB181_185, NB185_181⟩ := kXY hg hp1 BK181; clear HB; replace BK180 := hp0 BK180; replace BK181 := hp0 BK181; have HB := n2_; have BK185 := n3_; clear n2_ n3_ hp0 hp1 hv; clear hb hbox hg; have nq17 := kO NB185_180; have nq18 := kO NB185_181; have zq19 := zc2 BK185) | ((with_reducible refine gate_callee (f := 33) rfl ?_); refine gL (some 18) Tryz.func33 #[.agg #[.int .i64 t183, .int .i64 t184]] rfl ?_; (with_reducible refine (spec_diMirror.calls k t183 t184 t186 t187 _ A6.out).mono ?_); rintro e w20 ⟨rfl, hb⟩; refine ⟨_, rfl, ?_⟩; have hp0 := pB gb185 BK180 hb; have n2_ := Am (kB (g := gb185) (o := .cells #[.int .i64 t183, .int .i64 t184] 23 (0, 0)) (by (with_reducible repeat (first | refine kN ?_ _ | refine kD ?_ | refine kA ?_ _)); refine kP (cs := #[.int .i64 t183, .int .i64 0]) ?_ 1 _ rfl; (with_reducible repeat (first | refine kN ?_ _ | refine kD ?_ | refine kA ?_ _)); refine kP (cs := #[.int .i64 0, .int .i64 0]) ?_ 0 _ rfl; (with_reducible repeat (first | refine kN ?_ _ | refine kD ?_ | refine kA ?_ _)); exact BK185.out) hb); have hv := vK HB hb; have n3_ := Am (bT hv hb); clear BK185; clear HB; replace BK180 := hp0 NB180_185 BK180; replace BK181 := hp0 NB181_185 BK181; have BK185 := n2_; have HB := n3_; clear n2_ n3_ hp0 hv; (try clear hb)) | ((with_reducible refine gate_dst (N := 7) rfl ?_); refine bE 7 #[.int .i64 0, .int .i64 0] 23 ?_; intro gb188 hg w21 hbox hb; have hp0 := pA BK180 hb; have hv := vK HB hb; have n3_ := Am (bT hv hb); have n4_ := Am (hbox); have GE188 := kG hg hv; have hp1 := pK BK180 hb; obtain ⟨NB180_188, NB188_180⟩ := kXY hg hp1 BK180; obtain ⟨NB181_188, NB188_181⟩ := kXY hg hp1 BK181; obtain ⟨NB185_188, NB188_185⟩ := kXY hg hp1 BK185; clear HB; replace BK180 := hp0 BK180; replace BK181 := hp0 BK181; replace BK185 := hp0 BK185; have HB := n3_; have BK188 := n4_; clear n3_ n4_ hp0 hp1 hv; clear hb hbox hg; have nq22 := kO NB188_180; have nq23 := kO NB188_181; have nq24 := kO NB188_185; have zq25 := zc2 BK188; have zq26 := zc2 BK185) | ((with_reducible refine gate_callee (f := 34) rfl ?_); refine gL (some 21) Tryz.func34 #[.agg #[.int .i64 t186, .int .i64 t187], .agg #[.int .i64 t183, .int .i64 t184]] rfl ?_; (with_reducible refine (spec_diCompare.calls t186 t187 t183 t184 t189 _ A7.out).mono ?_); rintro e w27 ⟨rfl, hb⟩; refine ⟨_, rfl, ?_⟩; have hp0 := pB gb188 BK180 hb; have n3_ := Am (kB (g := gb188) (o := .cells #[.int .i64 t186, .int .i64 t187] 23 (0, 0)) (by (with_reducible repeat (first | refine kN ?_ _ | refine kD ?_ | refine kA ?_ _)); refine kP (cs := #[.int .i64 t186, .int .i64 0]) ?_ 1 _ rfl; (with_reducible repeat (first | refine kN ?_ _ | refine kD ?_ | refine kA ?_ _)); refine kP (cs := #[.int .i64 0, .int .i64 0]) ?_ 0 _ rfl; (with_reducible repeat (first | refine kN ?_ _ | refine kD ?_ | refine kA ?_ _)); exact BK188.out) hb); have hv := vK HB hb; have n4_ := Am (bT hv hb); clear BK188; clear HB; replace BK180 := hp0 NB180_188 BK180; replace BK181 := hp0 NB181_188 BK181; replace BK185 := hp0 NB185_188 BK185; have BK188 := n3_; have HB := n4_; clear n3_ n4_ hp0 hv; (try clear hb); have zq28 := zc2 BK188; have zq29 := zc2 BK181))
    refine bodyPost_ret (results_ct rfl _ _ gb181 23 #[.int .i64 t186, .int .i64 t187] (0, 0) _ rfl (by (with_reducible repeat (first | refine kN ?_ _ | refine kD ?_ | refine kA ?_ _)); refine kP (cs := #[.int .i64 t186, .int .i64 0]) ?_ 1 _ rfl; (with_reducible repeat (first | refine kN ?_ _ | refine kD ?_ | refine kA ?_ _)); refine kP (cs := #[.int .i64 0, .int .i64 0]) ?_ 0 _ rfl; (with_reducible repeat (first | refine kN ?_ _ | refine kD ?_ | refine kA ?_ _)); exact BK181.out) Tryz.underlying23 rfl (by kernel_rfl)) rfl ?_
    exact ⟨by first | rfl | (simp [errW_none, errW_some] <;> rfl) | (simp [*, errW_none, errW_some] <;> rfl), by repeat (first | (with_reducible first | exact HB.out | apply bA | apply bN | apply bD | refine bX ?_ (by assumption)) | exact HB.out)⟩
  rw [if_neg c8] at H
  have c8b0 : decide (t189 < 0) = false := decide_eq_false c8
  clear c8
  focus
   simp only [Option.some.injEq, Prod.mk.injEq] at H
   obtain ⟨rfl, rfl, rfl⟩ := H
   go_enter Tryz.func9, Tryz.ntmps9
   go_wp2_with (first | ((with_reducible refine gate_dst (N := 3) rfl ?_); refine bE 3 #[.int .i64 a1_0, .int .i64 a1_1] 23 ?_; intro gb180 hg w30 hbox hb; have hv := vK HB hb; have n0_ := Am (bT hv hb); have n1_ := Am (hbox); have GE180 := kG hg hv; clear HB; have HB := n0_; have BK180 := n1_; clear n0_ n1_ hv; clear hb hbox hg) | ((with_reducible refine gate_dst (N := 4) rfl ?_); refine bE 4 #[.int .i64 0, .int .i64 0] 23 ?_; intro gb181 hg w31 hbox hb; have hp0 := pA BK180 hb; have hv := vK HB hb; have n1_ := Am (bT hv hb); have n2_ := Am (hbox); have GE181 := kG hg hv; have hp1 := pK BK180 hb; obtain ⟨NB180_181, NB181_180⟩ := kXY hg hp1 BK180; clear HB; replace BK180 := hp0 BK180; have HB := n1_; have BK181 := n2_; clear n1_ n2_ hp0 hp1 hv; clear hb hbox hg; have nq32 := kO NB180_181; have zq33 := zc2 BK180) | ((with_reducible refine gate_callee (f := 29) rfl ?_); refine gL (some 10) Tryz.func29 #[.int .i64 a0, .agg #[.int .i64 a1_0, .int .i64 a1_1]] rfl ?_; (with_reducible refine (spec_diAsked.calls k a0 a1_0 a1_1 true _ A3.out).mono ?_); rintro e w34 ⟨rfl, hb⟩; refine ⟨_, rfl, ?_⟩; have hp0 := pA BK180 hb; have hv := vK HB hb; have n2_ := Am (bT hv hb); clear HB; replace BK180 := hp0 BK180; replace BK181 := hp0 BK181; have HB := n2_; clear n2_ hp0 hv; (try clear hb); have zq35 := zc2 BK180) | ((with_reducible refine gate_callee (f := 30) rfl ?_); refine gL (some 16) Tryz.func30 #[.agg #[.int .i64 a1_0, .int .i64 a1_1], .int .i64 (wrap64 (a0 - 1))] rfl ?_; (with_reducible refine (spec_diTimes.calls k a1_0 a1_1 (wrap64 (a0 - 1)) t183 t184 _ A5.out).mono ?_); rintro e w36 ⟨rfl, hb⟩; refine ⟨_, rfl, ?_⟩; have hp0 := pA BK180 hb; have hv := vK HB hb; have n2_ := Am (bT hv hb); clear HB; replace BK180 := hp0 BK180; replace BK181 := hp0 BK181; have HB := n2_; clear n2_ hp0 hv; (try clear hb)) | ((with_reducible refine gate_dst (N := 6) rfl ?_); refine bE 6 #[.int .i64 0, .int .i64 0] 23 ?_; intro gb185 hg w37 hbox hb; have hp0 := pA BK180 hb; have hv := vK HB hb; have n2_ := Am (bT hv hb); have n3_ := Am (hbox); have GE185 := kG hg hv; have hp1 := pK BK180 hb; obtain ⟨NB180_185, NB185_180⟩ := kXY hg hp1 BK180; obtain ⟨NB181_185, NB185_181⟩ := kXY hg hp1 BK181; clear HB; replace BK180 := hp0 BK180; replace BK181 := hp0 BK181; have HB := n2_; have BK185 := n3_; clear n2_ n3_ hp0 hp1 hv; clear hb hbox hg; have nq38 := kO NB185_180; have nq39 := kO NB185_181; have zq40 := zc2 BK185) | ((with_reducible refine gate_callee (f := 33) rfl ?_); refine gL (some 18) Tryz.func33 #[.agg #[.int .i64 t183, .int .i64 t184]] rfl ?_; (with_reducible refine (spec_diMirror.calls k t183 t184 t186 t187 _ A6.out).mono ?_); rintro e w41 ⟨rfl, hb⟩; refine ⟨_, rfl, ?_⟩; have hp0 := pB gb185 BK180 hb; have n2_ := Am (kB (g := gb185) (o := .cells #[.int .i64 t183, .int .i64 t184] 23 (0, 0)) (by (with_reducible repeat (first | refine kN ?_ _ | refine kD ?_ | refine kA ?_ _)); refine kP (cs := #[.int .i64 t183, .int .i64 0]) ?_ 1 _ rfl; (with_reducible repeat (first | refine kN ?_ _ | refine kD ?_ | refine kA ?_ _)); refine kP (cs := #[.int .i64 0, .int .i64 0]) ?_ 0 _ rfl; (with_reducible repeat (first | refine kN ?_ _ | refine kD ?_ | refine kA ?_ _)); exact BK185.out) hb); have hv := vK HB hb; have n3_ := Am (bT hv hb); clear BK185; clear HB; replace BK180 := hp0 NB180_185 BK180; replace BK181 := hp0 NB181_185 BK181; have BK185 := n2_; have HB := n3_; clear n2_ n3_ hp0 hv; (try clear hb)) | ((with_reducible refine gate_dst (N := 7) rfl ?_); refine bE 7 #[.int .i64 0, .int .i64 0] 23 ?_; intro gb188 hg w42 hbox hb; have hp0 := pA BK180 hb; have hv := vK HB hb; have n3_ := Am (bT hv hb); have n4_ := Am (hbox); have GE188 := kG hg hv; have hp1 := pK BK180 hb; obtain ⟨NB180_188, NB188_180⟩ := kXY hg hp1 BK180; obtain ⟨NB181_188, NB188_181⟩ := kXY hg hp1 BK181; obtain ⟨NB185_188, NB188_185⟩ := kXY hg hp1 BK185; clear HB; replace BK180 := hp0 BK180; replace BK181 := hp0 BK181; replace BK185 := hp0 BK185; have HB := n3_; have BK188 := n4_; clear n3_ n4_ hp0 hp1 hv; clear hb hbox hg; have nq43 := kO NB188_180; have nq44 := kO NB188_181; have nq45 := kO NB188_185; have zq46 := zc2 BK188; have zq47 := zc2 BK185) | ((with_reducible refine gate_callee (f := 34) rfl ?_); refine gL (some 21) Tryz.func34 #[.agg #[.int .i64 t186, .int .i64 t187], .agg #[.int .i64 t183, .int .i64 t184]] rfl ?_; (with_reducible refine (spec_diCompare.calls t186 t187 t183 t184 t189 _ A7.out).mono ?_); rintro e w48 ⟨rfl, hb⟩; refine ⟨_, rfl, ?_⟩; have hp0 := pB gb188 BK180 hb; have n3_ := Am (kB (g := gb188) (o := .cells #[.int .i64 t186, .int .i64 t187] 23 (0, 0)) (by (with_reducible repeat (first | refine kN ?_ _ | refine kD ?_ | refine kA ?_ _)); refine kP (cs := #[.int .i64 t186, .int .i64 0]) ?_ 1 _ rfl; (with_reducible repeat (first | refine kN ?_ _ | refine kD ?_ | refine kA ?_ _)); refine kP (cs := #[.int .i64 0, .int .i64 0]) ?_ 0 _ rfl; (with_reducible repeat (first | refine kN ?_ _ | refine kD ?_ | refine kA ?_ _)); exact BK188.out) hb); have hv := vK HB hb; have n4_ := Am (bT hv hb); clear BK188; clear HB; replace BK180 := hp0 NB180_188 BK180; replace BK181 := hp0 NB181_188 BK181; replace BK185 := hp0 NB185_188 BK185; have BK188 := n3_; have HB := n4_; clear n3_ n4_ hp0 hv; (try clear hb); have zq49 := zc2 BK185; have zq50 := zc2 BK181))
   refine bodyPost_ret (results_ct rfl _ _ gb181 23 #[.int .i64 t183, .int .i64 t184] (0, 0) _ rfl (by (with_reducible repeat (first | refine kN ?_ _ | refine kD ?_ | refine kA ?_ _)); refine kP (cs := #[.int .i64 t183, .int .i64 0]) ?_ 1 _ rfl; (with_reducible repeat (first | refine kN ?_ _ | refine kD ?_ | refine kA ?_ _)); refine kP (cs := #[.int .i64 0, .int .i64 0]) ?_ 0 _ rfl; (with_reducible repeat (first | refine kN ?_ _ | refine kD ?_ | refine kA ?_ _)); exact BK181.out) Tryz.underlying23 rfl (by kernel_rfl)) rfl ?_
   exact ⟨by first | rfl | (simp [errW_none, errW_some] <;> rfl) | (simp [*, errW_none, errW_some] <;> rfl), by repeat (first | (with_reducible first | exact HB.out | apply bA | apply bN | apply bD | refine bX ?_ (by assumption)) | exact HB.out)⟩
 replace c4 := Bool.eq_false_iff.mpr c4
 subst c4
 have H1 : (some (0, 0, false)) = some (r1, r2, r3) := by rw [if_neg (show ¬ (false = true) by decide)] at H; exact H
 clear H
 have H := H1
 clear H1
 focus
  simp only [Option.some.injEq, Prod.mk.injEq] at H
  obtain ⟨rfl, rfl, rfl⟩ := H
  go_enter Tryz.func9, Tryz.ntmps9
  go_wp2_with (first | ((with_reducible refine gate_dst (N := 3) rfl ?_); refine bE 3 #[.int .i64 a1_0, .int .i64 a1_1] 23 ?_; intro gb180 hg w51 hbox hb; have hv := vK HB hb; have n0_ := Am (bT hv hb); have n1_ := Am (hbox); have GE180 := kG hg hv; clear HB; have HB := n0_; have BK180 := n1_; clear n0_ n1_ hv; clear hb hbox hg) | ((with_reducible refine gate_dst (N := 4) rfl ?_); refine bE 4 #[.int .i64 0, .int .i64 0] 23 ?_; intro gb181 hg w52 hbox hb; have hp0 := pA BK180 hb; have hv := vK HB hb; have n1_ := Am (bT hv hb); have n2_ := Am (hbox); have GE181 := kG hg hv; have hp1 := pK BK180 hb; obtain ⟨NB180_181, NB181_180⟩ := kXY hg hp1 BK180; clear HB; replace BK180 := hp0 BK180; have HB := n1_; have BK181 := n2_; clear n1_ n2_ hp0 hp1 hv; clear hb hbox hg; have nq53 := kO NB180_181; have zq54 := zc2 BK180) | ((with_reducible refine gate_callee (f := 29) rfl ?_); refine gL (some 10) Tryz.func29 #[.int .i64 a0, .agg #[.int .i64 a1_0, .int .i64 a1_1]] rfl ?_; (with_reducible refine (spec_diAsked.calls k a0 a1_0 a1_1 false _ A3.out).mono ?_); rintro e w55 ⟨rfl, hb⟩; refine ⟨_, rfl, ?_⟩; have hp0 := pA BK180 hb; have hv := vK HB hb; have n2_ := Am (bT hv hb); clear HB; replace BK180 := hp0 BK180; replace BK181 := hp0 BK181; have HB := n2_; clear n2_ hp0 hv; (try clear hb); have zq56 := zc2 BK181))
  refine bodyPost_ret (results_ct rfl _ _ gb181 23 #[.int .i64 0, .int .i64 0] (0, 0) _ rfl (by (with_reducible repeat (first | refine kN ?_ _ | refine kD ?_ | refine kA ?_ _)); refine kP (cs := #[.int .i64 0, .int .i64 0]) ?_ 1 _ rfl; (with_reducible repeat (first | refine kN ?_ _ | refine kD ?_ | refine kA ?_ _)); refine kP (cs := #[.int .i64 0, .int .i64 0]) ?_ 0 _ rfl; (with_reducible repeat (first | refine kN ?_ _ | refine kD ?_ | refine kA ?_ _)); exact BK181.out) Tryz.underlying23 rfl (by kernel_rfl)) rfl ?_
  exact ⟨by first | rfl | (simp [errW_none, errW_some] <;> rfl) | (simp [*, errW_none, errW_some] <;> rfl), by repeat (first | (with_reducible first | exact HB.out | apply bA | apply bN | apply bD | refine bX ?_ (by assumption)) | exact HB.out)⟩
/-! ### impl_split: function 35 -/
def impl_split.f (k : Nat) (a0 : Int) (a1_0 : Int) (a1_1 : Int) : Option (Int × Int × Int × Int) := if a1_1 = 0 then (none) else ((impl_part.f k (wrap64 ((wrap64 (a1_0 * a0)) * 60)) a1_1).bind fun bt192 => (some (wrap64 (Int.tdiv (wrap64 (Int.tdiv (wrap64 ((wrap64 (a1_0 * a0)) * 60)) a1_1)) 60), Int.tmod (wrap64 (Int.tdiv (wrap64 ((wrap64 (a1_0 * a0)) * 60)) a1_1)) 60, bt192.1, bt192.2)))
theorem impl_split.mono : ∀ a0 a1 a2 k, LeO (impl_split.f k a0 a1 a2) (impl_split.f (k + 1) a0 a1 a2) := by
 intro a0 a1 a2 k
 unfold impl_split.f
 repeat' first
   | (with_reducible exact impl_part.mono _ _ _)
   | (with_reducible exact LeO.refl _)
   | (with_reducible exact LeO.none _)
   | (with_reducible refine LeO.ite ?_ ?_)
   | (with_reducible refine LeO.bind ?_ (fun _ => ?_))
   | exact impl_part.mono _ _ _
   | exact LeO.none _
   | refine LeO.ite ?_ ?_
   | refine LeO.bind ?_ (fun _ => ?_)
set_option maxHeartbeats 8000000 in
set_option maxRecDepth 100000 in
theorem impl_split.calls (k : Nat) (a0 : Int) (a1_0 : Int) (a1_1 : Int) (r1 : Int) (r2 : Int) (r3 : Int) (r4 : Int) (w : World) (h : impl_split.f k a0 a1_0 a1_1 = some (r1, r2, r3, r4)) :
  Calls Tryz.prog 35 #[.int .i64 a0, .agg #[.int .i64 a1_0, .int .i64 a1_1]] w fun e w' => e = .returned (.tuple #[.int .i64 r1, .int .i64 r2, .agg #[.int .i64 r3, .int .i64 r4]]) ∧ Below w.heap.size w w' := by
 have hu23 := Tryz.underlying23
 have HB := Am (Below.refl w.heap.size w)
 have H : (if a1_1 = 0 then (none) else ((impl_part.f k (wrap64 ((wrap64 (a1_0 * a0)) * 60)) a1_1).bind fun bt192 => (some (wrap64 (Int.tdiv (wrap64 (Int.tdiv (wrap64 ((wrap64 (a1_0 * a0)) * 60)) a1_1)) 60), Int.tmod (wrap64 (Int.tdiv (wrap64 ((wrap64 (a1_0 * a0)) * 60)) a1_1)) 60, bt192.1, bt192.2)))) = some (r1, r2, r3, r4) := h
 clear h
 by_cases c3 : a1_1 = 0
 ·rw [if_pos c3] at H
  exact absurd H (by simp)
 rw [if_neg c3] at H
 have c3b0 : (a1_1 == 0) = false := beq_eq_false_iff_ne.mpr c3
 have c3b1 : (a1_1 != 0) = true := bne_iff_ne.mpr c3
 replace H := Option.bind_eq_some_iff.mp H
 obtain ⟨⟨t192, t193⟩, A40, H⟩ := H
 try dsimp only at H
 have A4 := Am A40
 clear A40
 focus
  simp only [Option.some.injEq, Prod.mk.injEq] at H
  obtain ⟨rfl, rfl, rfl, rfl⟩ := H
  go_enter Tryz.func35, Tryz.ntmps35
  go_wp2_with (first | ((with_reducible refine gate_dst (N := 3) rfl ?_); refine bE 3 #[.int .i64 a1_0, .int .i64 a1_1] 23 ?_; intro gb190 hg w5 hbox hb; have hv := vK HB hb; have n0_ := Am (bT hv hb); have n1_ := Am (hbox); have GE190 := kG hg hv; clear HB; have HB := n0_; have BK190 := n1_; clear n0_ n1_ hv; clear hb hbox hg) | ((with_reducible refine gate_dst (N := 6) rfl ?_); refine bE 6 #[.int .i64 0, .int .i64 0] 23 ?_; intro gb191 hg w6 hbox hb; have hp0 := pA BK190 hb; have hv := vK HB hb; have n1_ := Am (bT hv hb); have n2_ := Am (hbox); have GE191 := kG hg hv; have hp1 := pK BK190 hb; obtain ⟨NB190_191, NB191_190⟩ := kXY hg hp1 BK190; clear HB; replace BK190 := hp0 BK190; have HB := n1_; have BK191 := n2_; clear n1_ n2_ hp0 hp1 hv; clear hb hbox hg; have nq7 := kO NB190_191; have zq8 := zc2 BK190) | ((with_reducible refine gate_callee (f := 40) rfl ?_); refine gL (some 25) Tryz.func40 #[.int .i64 (wrap64 ((wrap64 (a1_0 * a0)) * 60)), .int .i64 a1_1] rfl ?_; (with_reducible refine (impl_part.calls k (wrap64 ((wrap64 (a1_0 * a0)) * 60)) a1_1 t192 t193 _ A4.out).mono ?_); rintro e w9 ⟨rfl, hb⟩; refine ⟨_, rfl, ?_⟩; have hp0 := pA BK190 hb; have hv := vK HB hb; have n2_ := Am (bT hv hb); clear HB; replace BK190 := hp0 BK190; replace BK191 := hp0 BK191; have HB := n2_; clear n2_ hp0 hv; (try clear hb); have zq10 := zc2 BK191))
  refine bodyPost_ret (results_list (rs := [.tmp 4, .tmp 5, .cell 6 23]) rfl (by simp) (.tmp (.tmp (.cell gb191 23 #[.int .i64 t192, .int .i64 t193] (0, 0) _ rfl (by (with_reducible repeat (first | refine kN ?_ _ | refine kD ?_ | refine kA ?_ _)); refine kP (cs := #[.int .i64 t192, .int .i64 0]) ?_ 1 _ rfl; (with_reducible repeat (first | refine kN ?_ _ | refine kD ?_ | refine kA ?_ _)); refine kP (cs := #[.int .i64 0, .int .i64 0]) ?_ 0 _ rfl; (with_reducible repeat (first | refine kN ?_ _ | refine kD ?_ | refine kA ?_ _)); exact BK191.out) Tryz.underlying23 rfl (by kernel_rfl) .nil)))) rfl ?_
  exact ⟨by first | rfl | (simp [errW_none, errW_some] <;> rfl) | (simp [*, errW_none, errW_some] <;> rfl), by repeat (first | (with_reducible first | exact HB.out | apply bA | apply bN | apply bD | refine bX ?_ (by assumption)) | exact HB.out)⟩
/-! ### impl_HourOf: function 10 -/
def impl_HourOf.f (k : Nat) (a0 : Int) (a1_0 : Int) (a1_1 : Int) : Option (Int × Bool) := (impl_isTime.f k a0 a1_0 a1_1).bind fun t195 => (if t195 = true then ((impl_split.f k a0 a1_0 a1_1).bind fun bt196 => (some (bt196.1, true))) else (some (0, false)))
theorem impl_HourOf.mono : ∀ a0 a1 a2 k, LeO (impl_HourOf.f k a0 a1 a2) (impl_HourOf.f (k + 1) a0 a1 a2) := by
 intro a0 a1 a2 k
 unfold impl_HourOf.f
 repeat' first
   | (with_reducible exact impl_isTime.mono _ _ _ _)
   | (with_reducible exact impl_split.mono _ _ _ _)
   | (with_reducible exact LeO.refl _)
   | (with_reducible exact LeO.none _)
   | (with_reducible refine LeO.ite ?_ ?_)
   | (with_reducible refine LeO.bind ?_ (fun _ => ?_))
   | exact impl_isTime.mono _ _ _ _
   | exact impl_split.mono _ _ _ _
   | exact LeO.none _
   | refine LeO.ite ?_ ?_
   | refine LeO.bind ?_ (fun _ => ?_)
set_option maxHeartbeats 8000000 in
set_option maxRecDepth 100000 in
theorem impl_HourOf.calls (k : Nat) (a0 : Int) (a1_0 : Int) (a1_1 : Int) (r1 : Int) (r2 : Bool) (w : World) (h : impl_HourOf.f k a0 a1_0 a1_1 = some (r1, r2)) :
  Calls Tryz.prog 10 #[.int .i64 a0, .agg #[.int .i64 a1_0, .int .i64 a1_1]] w fun e w' => e = .returned (.tuple #[.int .i64 r1, .bool r2]) ∧ Below w.heap.size w w' := by
 have hu23 := Tryz.underlying23
 have HB := Am (Below.refl w.heap.size w)
 have H : ((impl_isTime.f k a0 a1_0 a1_1).bind fun t195 => (if t195 = true then ((impl_split.f k a0 a1_0 a1_1).bind fun bt196 => (some (bt196.1, true))) else (some (0, false)))) = some (r1, r2) := h
 clear h
 replace H := Option.bind_eq_some_iff.mp H
 obtain ⟨t195, A30, H⟩ := H
 try dsimp only at H
 have A3 := Am A30
 clear A30
 by_cases c4 : t195 = true
 ·subst c4
  have H1 : ((impl_split.f k a0 a1_0 a1_1).bind fun bt196 => (some (bt196.1, true))) = some (r1, r2) := by rw [if_pos rfl] at H; exact H
  clear H
  have H := H1
  clear H1
  replace H := Option.bind_eq_some_iff.mp H
  obtain ⟨⟨t196, t197, t198, t199⟩, A50, H⟩ := H
  try dsimp only at H
  have A5 := Am A50
  clear A50
  focus
   simp only [Option.some.injEq, Prod.mk.injEq] at H
   obtain ⟨rfl, rfl⟩ := H
   go_enter Tryz.func10, Tryz.ntmps10
   go_wp2_with (first | ((with_reducible refine gate_dst (N := 3) rfl ?_); refine bE 3 #[.int .i64 a1_0, .int .i64 a1_1] 23 ?_; intro gb194 hg w6 hbox hb; have hv := vK HB hb; have n0_ := Am (bT hv hb); have n1_ := Am (hbox); have GE194 := kG hg hv; clear HB; have HB := n0_; have BK194 := n1_; clear n0_ n1_ hv; clear hb hbox hg; have zq7 := zc2 BK194) | ((with_reducible refine gate_callee (f := 27) rfl ?_); refine gL (some 11) Tryz.func27 #[.int .i64 a0, .agg #[.int .i64 a1_0, .int .i64 a1_1]] rfl ?_; (with_reducible refine (impl_isTime.calls k a0 a1_0 a1_1 true _ A3.out).mono ?_); rintro e w8 ⟨rfl, hb⟩; refine ⟨_, rfl, ?_⟩; have hp0 := pA BK194 hb; have hv := vK HB hb; have n1_ := Am (bT hv hb); clear HB; replace BK194 := hp0 BK194; have HB := n1_; clear n1_ hp0 hv; (try clear hb); have zq9 := zc2 BK194) | ((with_reducible refine gate_callee (f := 35) rfl ?_); refine gL (some 16) Tryz.func35 #[.int .i64 a0, .agg #[.int .i64 a1_0, .int .i64 a1_1]] rfl ?_; (with_reducible refine (impl_split.calls k a0 a1_0 a1_1 t196 t197 t198 t199 _ A5.out).mono ?_); rintro e w10 ⟨rfl, hb⟩; refine ⟨_, rfl, ?_⟩; have hp0 := pA BK194 hb; have hv := vK HB hb; have n1_ := Am (bT hv hb); clear HB; replace BK194 := hp0 BK194; have HB := n1_; clear n1_ hp0 hv; (try clear hb)) | ((with_reducible refine gate_dst (N := 8) rfl ?_); refine bE 8 #[.int .i64 0, .int .i64 0] 23 ?_; intro gb200 hg w11 hbox hb; have hp0 := pA BK194 hb; have hv := vK HB hb; have n1_ := Am (bT hv hb); have n2_ := Am (hbox); have GE200 := kG hg hv; have hp1 := pK BK194 hb; obtain ⟨NB194_200, NB200_194⟩ := kXY hg hp1 BK194; clear HB; replace BK194 := hp0 BK194; have HB := n1_; have BK200 := n2_; clear n1_ n2_ hp0 hp1 hv; clear hb hbox hg; have nq12 := kO NB200_194; have hcz13_0 : w11.cell? ⟨gb200, 0, none⟩ = some (.int .i64 0) := (kC BK200.out 0).trans rfl; have hcz13_1 : w11.cell? ⟨gb200, 1, none⟩ = some (.int .i64 0) := (kC BK200.out 1).trans rfl; have hfz13_0 := kF BK200.out 0; have hfz13_1 := kF BK200.out 1))
   go_ret2
   exact ⟨by first | rfl | (simp [errW_none, errW_some] <;> rfl) | (simp [*, errW_none, errW_some] <;> rfl), by repeat (first | (with_reducible first | exact HB.out | apply bA | apply bN | apply bD | refine bX ?_ (by assumption)) | exact HB.out)⟩
 replace c4 := Bool.eq_false_iff.mpr c4
 subst c4
 have H1 : (some (0, false)) = some (r1, r2) := by rw [if_neg (show ¬ (false = true) by decide)] at H; exact H
 clear H
 have H := H1
 clear H1
 focus
  simp only [Option.some.injEq, Prod.mk.injEq] at H
  obtain ⟨rfl, rfl⟩ := H
  go_enter Tryz.func10, Tryz.ntmps10
  go_wp2_with (first | ((with_reducible refine gate_dst (N := 3) rfl ?_); refine bE 3 #[.int .i64 a1_0, .int .i64 a1_1] 23 ?_; intro gb194 hg w14 hbox hb; have hv := vK HB hb; have n0_ := Am (bT hv hb); have n1_ := Am (hbox); have GE194 := kG hg hv; clear HB; have HB := n0_; have BK194 := n1_; clear n0_ n1_ hv; clear hb hbox hg; have zq15 := zc2 BK194) | ((with_reducible refine gate_callee (f := 27) rfl ?_); refine gL (some 11) Tryz.func27 #[.int .i64 a0, .agg #[.int .i64 a1_0, .int .i64 a1_1]] rfl ?_; (with_reducible refine (impl_isTime.calls k a0 a1_0 a1_1 false _ A3.out).mono ?_); rintro e w16 ⟨rfl, hb⟩; refine ⟨_, rfl, ?_⟩; have hp0 := pA BK194 hb; have hv := vK HB hb; have n1_ := Am (bT hv hb); clear HB; replace BK194 := hp0 BK194; have HB := n1_; clear n1_ hp0 hv; (try clear hb)))
  go_ret2
  exact ⟨by first | rfl | (simp [errW_none, errW_some] <;> rfl) | (simp [*, errW_none, errW_some] <;> rfl), by repeat (first | (with_reducible first | exact HB.out | apply bA | apply bN | apply bD | refine bX ?_ (by assumption)) | exact HB.out)⟩
/-! ### spec_HourOf: function 11 -/
def spec_HourOf.f (k : Nat) (a0 : Int) (a1_0 : Int) (a1_1 : Int) : Option (Int × Bool) := (spec_diAsked.f k a0 a1_0 a1_1).bind fun t202 => (if t202 = true then (if a1_1 = 0 then (none) else (some (wrap64 (Int.tdiv (wrap64 (a1_0 * a0)) a1_1), true))) else (some (0, false)))
theorem spec_HourOf.mono : ∀ a0 a1 a2 k, LeO (spec_HourOf.f k a0 a1 a2) (spec_HourOf.f (k + 1) a0 a1 a2) := by
 intro a0 a1 a2 k
 unfold spec_HourOf.f
 repeat' first
   | (with_reducible exact spec_diAsked.mono _ _ _ _)
   | (with_reducible exact LeO.refl _)
   | (with_reducible exact LeO.none _)
   | (with_reducible refine LeO.ite ?_ ?_)
   | (with_reducible refine LeO.bind ?_ (fun _ => ?_))
   | exact spec_diAsked.mono _ _ _ _
   | exact LeO.none _
   | refine LeO.ite ?_ ?_
   | refine LeO.bind ?_ (fun _ => ?_)
set_option maxHeartbeats 8000000 in
set_option maxRecDepth 100000 in
theorem spec_HourOf.calls (k : Nat) (a0 : Int) (a1_0 : Int) (a1_1 : Int) (r1 : Int) (r2 : Bool) (w : World) (h : spec_HourOf.f k a0 a1_0 a1_1 = some (r1, r2)) :
  Calls Tryz.prog 11 #[.int .i64 a0, .agg #[.int .i64 a1_0, .int .i64 a1_1]] w fun e w' => e = .returned (.tuple #[.int .i64 r1, .bool r2]) ∧ Below w.heap.size w w' := by
 have hu23 := Tryz.underlying23
 have HB := Am (Below.refl w.heap.size w)
 have H : ((spec_diAsked.f k a0 a1_0 a1_1).bind fun t202 => (if t202 = true then (if a1_1 = 0 then (none) else (some (wrap64 (Int.tdiv (wrap64 (a1_0 * a0)) a1_1), true))) else (some (0, false)))) = some (r1, r2) := h
 clear h
 replace H := Option.bind_eq_some_iff.mp H
 obtain ⟨t202, A30, H⟩ := H
 try dsimp only at H
 have A3 := Am A30
 clear A30
 by_cases c4 : t202 = true
 ·subst c4
  have H1 : (if a1_1 = 0 then (none) else (some (wrap64 (Int.tdiv (wrap64 (a1_0 * a0)) a1_1), true))) = some (r1, r2) := by rw [if_pos rfl] at H; exact H
  clear H
  have H := H1
  clear H1
  by_cases c5 : a1_1 = 0
  ·rw [if_pos c5] at H
   exact absurd H (by simp)
  rw [if_neg c5] at H
  have c5b0 : (a1_1 == 0) = false := beq_eq_false_iff_ne.mpr c5
  have c5b1 : (a1_1 != 0) = true := bne_iff_ne.mpr c5
  focus
   simp only [Option.some.injEq, Prod.mk.injEq] at H
   obtain ⟨rfl, rfl⟩ := H
   go_enter Tryz.func11, Tryz.ntmps11
   go_wp2_with (first | ((with_reducible refine gate_dst (N := 3) rfl ?_); refine bE 3 #[.int .i64 a1_0, .int .i64 a1_1] 23 ?_; intro gb201 hg w6 hbox hb; have hv := vK HB hb; have n0_ := Am (bT hv hb); have n1_ := Am (hbox); have GE201 := kG hg hv; clear HB; have HB := n0_; have BK201 := n1_; clear n0_ n1_ hv; clear hb hbox hg; have zq7 := zc2 BK201) | ((with_reducible refine gate_callee (f := 29) rfl ?_); refine gL (some 8) Tryz.func29 #[.int .i64 a0, .agg #[.int .i64 a1_0, .int .i64 a1_1]] rfl ?_; (with_reducible refine (spec_diAsked.calls k a0 a1_0 a1_1 true _ A3.out).mono ?_); rintro e w8 ⟨rfl, hb⟩; refine ⟨_, rfl, ?_⟩; have hp0 := pA BK201 hb; have hv := vK HB hb; have n1_ := Am (bT hv hb); clear HB; replace BK201 := hp0 BK201; have HB := n1_; clear n1_ hp0 hv; (try clear hb); have zq9 := zc2 BK201))
   go_ret2
   exact ⟨by first | rfl | (simp [errW_none, errW_some] <;> rfl) | (simp [*, errW_none, errW_some] <;> rfl), by repeat (first | (with_reducible first | exact HB.out | apply bA | apply bN | apply bD | refine bX ?_ (by assumption)) | exact HB.out)⟩
 replace c4 := Bool.eq_false_iff.mpr c4
 subst c4
 have H1 : (some (0, false)) = some (r1, r2) := by rw [if_neg (show ¬ (false = true) by decide)] at H; exact H
 clear H
 have H := H1
 clear H1
 focus
  simp only [Option.some.injEq, Prod.mk.injEq] at H
  obtain ⟨rfl, rfl⟩ := H
  go_enter Tryz.func11, Tryz.ntmps11
  go_wp2_with (first | ((with_reducible refine gate_dst (N := 3) rfl ?_); refine bE 3 #[.int .i64 a1_0, .int .i64 a1_1] 23 ?_; intro gb201 hg w10 hbox hb; have hv := vK HB hb; have n0_ := Am (bT hv hb); have n1_ := Am (hbox); have GE201 := kG hg hv; clear HB; have HB := n0_; have BK201 := n1_; clear n0_ n1_ hv; clear hb hbox hg; have zq11 := zc2 BK201) | ((with_reducible refine gate_callee (f := 29) rfl ?_); refine gL (some 8) Tryz.func29 #[.int .i64 a0, .agg #[.int .i64 a1_0, .int .i64 a1_1]] rfl ?_; (with_reducible refine (spec_diAsked.calls k a0 a1_0 a1_1 false _ A3.out).mono ?_); rintro e w12 ⟨rfl, hb⟩; refine ⟨_, rfl, ?_⟩; have hp0 := pA BK201 hb; have hv := vK HB hb; have n1_ := Am (bT hv hb); clear HB; replace BK201 := hp0 BK201; have HB := n1_; clear n1_ hp0 hv; (try clear hb)))
  go_ret2
  exact ⟨by first | rfl | (simp [errW_none, errW_some] <;> rfl) | (simp [*, errW_none, errW_some] <;> rfl), by repeat (first | (with_reducible first | exact HB.out | apply bA | apply bN | apply bD | refine bX ?_ (by assumption)) | exact HB.out)⟩
/-! ### impl_MinuteOf: function 12 -/
def impl_MinuteOf.f (k : Nat) (a0 : Int) (a1_0 : Int) (a1_1 : Int) : Option (Int × Bool) := (impl_isTime.f k a0 a1_0 a1_1).bind fun t204 => (if t204 = true then ((impl_split.f k a0 a1_0 a1_1).bind fun bt205 => (some (bt205.2.1, true))) else (some (0, false)))
theorem impl_MinuteOf.mono : ∀ a0 a1 a2 k, LeO (impl_MinuteOf.f k a0 a1 a2) (impl_MinuteOf.f (k + 1) a0 a1 a2) := by
 intro a0 a1 a2 k
 unfold impl_MinuteOf.f
 repeat' first
   | (with_reducible exact impl_isTime.mono _ _ _ _)
   | (with_reducible exact impl_split.mono _ _ _ _)
   | (with_reducible exact LeO.refl _)
   | (with_reducible exact LeO.none _)
   | (with_reducible refine LeO.ite ?_ ?_)
   | (with_reducible refine LeO.bind ?_ (fun _ => ?_))
   | exact impl_isTime.mono _ _ _ _
   | exact impl_split.mono _ _ _ _
   | exact LeO.none _
   | refine LeO.ite ?_ ?_
   | refine LeO.bind ?_ (fun _ => ?_)
set_option maxHeartbeats 8000000 in
set_option maxRecDepth 100000 in
theorem impl_MinuteOf.calls (k : Nat) (a0 : Int) (a1_0 : Int) (a1_1 : Int) (r1 : Int) (r2 : Bool) (w : World) (h : impl_MinuteOf.f k a0 a1_0 a1_1 = some (r1, r2)) :
  Calls Tryz.prog 12 #[.int .i64 a0, .agg #[.int .i64 a1_0, .int .i64 a1_1]] w fun e w' => e = .returned (.tuple #[.int .i64 r1, .bool r2]) ∧ Below w.heap.size w w' := by
 have hu23 := Tryz.underlying23
 have HB := Am (Below.refl w.heap.size w)
 have H : ((impl_isTime.f k a0 a1_0 a1_1).bind fun t204 => (if t204 = true then ((impl_split.f k a0 a1_0 a1_1).bind fun bt205 => (some (bt205.2.1, true))) else (some (0, false)))) = some (r1, r2) := h
 clear h
 replace H := Option.bind_eq_some_iff.mp H
 obtain ⟨t204, A30, H⟩ := H
 try dsimp only at H
 have A3 := Am A30
 clear A30
 by_cases c4 : t204 = true
 ·subst c4
  have H1 : ((impl_split.f k a0 a1_0 a1_1).bind fun bt205 => (some (bt205.2.1, true))) = some (r1, r2) := by rw [if_pos rfl] at H; exact H
  clear H
  have H := H1
  clear H1
  replace H := Option.bind_eq_some_iff.mp H
  obtain ⟨⟨t205, t206, t207, t208⟩, A50, H⟩ := H
  try dsimp only at H
  have A5 := Am A50
  clear A50
  focus
   simp only [Option.some.injEq, Prod.mk.injEq] at H
   obtain ⟨rfl, rfl⟩ := H
   go_enter Tryz.func12, Tryz.ntmps12
   go_wp2_with (first | ((with_reducible refine gate_dst (N := 3) rfl ?_); refine bE 3 #[.int .i64 a1_0, .int .i64 a1_1] 23 ?_; intro gb203 hg w6 hbox hb; have hv := vK HB hb; have n0_ := Am (bT hv hb); have n1_ := Am (hbox); have GE203 := kG hg hv; clear HB; have HB := n0_; have BK203 := n1_; clear n0_ n1_ hv; clear hb hbox hg; have zq7 := zc2 BK203) | ((with_reducible refine gate_callee (f := 27) rfl ?_); refine gL (some 11) Tryz.func27 #[.int .i64 a0, .agg #[.int .i64 a1_0, .int .i64 a1_1]] rfl ?_; (with_reducible refine (impl_isTime.calls k a0 a1_0 a1_1 true _ A3.out).mono ?_); rintro e w8 ⟨rfl, hb⟩; refine ⟨_, rfl, ?_⟩; have hp0 := pA BK203 hb; have hv := vK HB hb; have n1_ := Am (bT hv hb); clear HB; replace BK203 := hp0 BK203; have HB := n1_; clear n1_ hp0 hv; (try clear hb); have zq9 := zc2 BK203) | ((with_reducible refine gate_callee (f := 35) rfl ?_); refine gL (some 16) Tryz.func35 #[.int .i64 a0, .agg #[.int .i64 a1_0, .int .i64 a1_1]] rfl ?_; (with_reducible refine (impl_split.calls k a0 a1_0 a1_1 t205 t206 t207 t208 _ A5.out).mono ?_); rintro e w10 ⟨rfl, hb⟩; refine ⟨_, rfl, ?_⟩; have hp0 := pA BK203 hb; have hv := vK HB hb; have n1_ := Am (bT hv hb); clear HB; replace BK203 := hp0 BK203; have HB := n1_; clear n1_ hp0 hv; (try clear hb)) | ((with_reducible refine gate_dst (N := 8) rfl ?_); refine bE 8 #[.int .i64 0, .int .i64 0] 23 ?_; intro gb209 hg w11 hbox hb; have hp0 := pA BK203 hb; have hv := vK HB hb; have n1_ := Am (bT hv hb); have n2_ := Am (hbox); have GE209 := kG hg hv; have hp1 := pK BK203 hb; obtain ⟨NB203_209, NB209_203⟩ := kXY hg hp1 BK203; clear HB; replace BK203 := hp0 BK203; have HB := n1_; have BK209 := n2_; clear n1_ n2_ hp0 hp1 hv; clear hb hbox hg; have nq12 := kO NB209_203; have hcz13_0 : w11.cell? ⟨gb209, 0, none⟩ = some (.int .i64 0) := (kC BK209.out 0).trans rfl; have hcz13_1 : w11.cell? ⟨gb209, 1, none⟩ = some (.int .i64 0) := (kC BK209.out 1).trans rfl; have hfz13_0 := kF BK209.out 0; have hfz13_1 := kF BK209.out 1))
   go_ret2
   exact ⟨by first | rfl | (simp [errW_none, errW_some] <;> rfl) | (simp [*, errW_none, errW_some] <;> rfl), by repeat (first | (with_reducible first | exact HB.out | apply bA | apply bN | apply bD | refine bX ?_ (by assumption)) | exact HB.out)⟩
 replace c4 := Bool.eq_false_iff.mpr c4
 subst c4
 have H1 : (some (0, false)) = some (r1, r2) := by rw [if_neg (show ¬ (false = true) by decide)] at H; exact H
 clear H
 have H := H1
 clear H1
 focus
  simp only [Option.some.injEq, Prod.mk.injEq] at H
  obtain ⟨rfl, rfl⟩ := H
  go_enter Tryz.func12, Tryz.ntmps12
  go_wp2_with (first | ((with_reducible refine gate_dst (N := 3) rfl ?_); refine bE 3 #[.int .i64 a1_0, .int .i64 a1_1] 23 ?_; intro gb203 hg w14 hbox hb; have hv := vK HB hb; have n0_ := Am (bT hv hb); have n1_ := Am (hbox); have GE203 := kG hg hv; clear HB; have HB := n0_; have BK203 := n1_; clear n0_ n1_ hv; clear hb hbox hg; have zq15 := zc2 BK203) | ((with_reducible refine gate_callee (f := 27) rfl ?_); refine gL (some 11) Tryz.func27 #[.int .i64 a0, .agg #[.int .i64 a1_0, .int .i64 a1_1]] rfl ?_; (with_reducible refine (impl_isTime.calls k a0 a1_0 a1_1 false _ A3.out).mono ?_); rintro e w16 ⟨rfl, hb⟩; refine ⟨_, rfl, ?_⟩; have hp0 := pA BK203 hb; have hv := vK HB hb; have n1_ := Am (bT hv hb); clear HB; replace BK203 := hp0 BK203; have HB := n1_; clear n1_ hp0 hv; (try clear hb)))
  go_ret2
  exact ⟨by first | rfl | (simp [errW_none, errW_some] <;> rfl) | (simp [*, errW_none, errW_some] <;> rfl), by repeat (first | (with_reducible first | exact HB.out | apply bA | apply bN | apply bD | refine bX ?_ (by assumption)) | exact HB.out)⟩
/-! ### spec_MinuteOf: function 13 -/
def spec_MinuteOf.f (k : Nat) (a0 : Int) (a1_0 : Int) (a1_1 : Int) : Option (Int × Bool) := (spec_diAsked.f k a0 a1_0 a1_1).bind fun t211 => (if t211 = true then (if a1_1 = 0 then (none) else (some (Int.tmod (wrap64 (Int.tdiv (wrap64 ((wrap64 (a1_0 * a0)) * 60)) a1_1)) 60, true))) else (some (0, false)))
theorem spec_MinuteOf.mono : ∀ a0 a1 a2 k, LeO (spec_MinuteOf.f k a0 a1 a2) (spec_MinuteOf.f (k + 1) a0 a1 a2) := by
 intro a0 a1 a2 k
 unfold spec_MinuteOf.f
 repeat' first
   | (with_reducible exact spec_diAsked.mono _ _ _ _)
   | (with_reducible exact LeO.refl _)
   | (with_reducible exact LeO.none _)
   | (with_reducible refine LeO.ite ?_ ?_)
   | (with_reducible refine LeO.bind ?_ (fun _ => ?_))
   | exact spec_diAsked.mono _ _ _ _
   | exact LeO.none _
   | refine LeO.ite ?_ ?_
   | refine LeO.bind ?_ (fun _ => ?_)
set_option maxHeartbeats 8000000 in
set_option maxRecDepth 100000 in
theorem spec_MinuteOf.calls (k : Nat) (a0 : Int) (a1_0 : Int) (a1_1 : Int) (r1 : Int) (r2 : Bool) (w : World) (h : spec_MinuteOf.f k a0 a1_0 a1_1 = some (r1, r2)) :
  Calls Tryz.prog 13 #[.int .i64 a0, .agg #[.int .i64 a1_0, .int .i64 a1_1]] w fun e w' => e = .returned (.tuple #[.int .i64 r1, .bool r2]) ∧ Below w.heap.size w w' := by
 have hu23 := Tryz.underlying23
 have HB := Am (Below.refl w.heap.size w)
 have H : ((spec_diAsked.f k a0 a1_0 a1_1).bind fun t211 => (if t211 = true then (if a1_1 = 0 then (none) else (some (Int.tmod (wrap64 (Int.tdiv (wrap64 ((wrap64 (a1_0 * a0)) * 60)) a1_1)) 60, true))) else (some (0, false)))) = some (r1, r2) := h
 clear h
 replace H := Option.bind_eq_some_iff.mp H
 obtain ⟨t211, A30, H⟩ := H
 try dsimp only at H
 have A3 := Am A30
 clear A30
 by_cases c4 : t211 = true
 ·subst c4
  have H1 : (if a1_1 = 0 then (none) else (some (Int.tmod (wrap64 (Int.tdiv (wrap64 ((wrap64 (a1_0 * a0)) * 60)) a1_1)) 60, true))) = some (r1, r2) := by rw [if_pos rfl] at H; exact H
  clear H
  have H := H1
  clear H1
  by_cases c5 : a1_1 = 0
  ·rw [if_pos c5] at H
   exact absurd H (by simp)
  rw [if_neg c5] at H
  have c5b0 : (a1_1 == 0) = false := beq_eq_false_iff_ne.mpr c5
  have c5b1 : (a1_1 != 0) = true := bne_iff_ne.mpr c5
  focus
   simp only [Option.some.injEq, Prod.mk.injEq] at H
   obtain ⟨rfl, rfl⟩ := H
   go_enter Tryz.func13, Tryz.ntmps13
   go_wp2_with (first | ((with_reducible refine gate_dst (N := 3) rfl ?_); refine bE 3 #[.int .i64 a1_0, .int .i64 a1_1] 23 ?_; intro gb210 hg w6 hbox hb; have hv := vK HB hb; have n0_ := Am (bT hv hb); have n1_ := Am (hbox); have GE210 := kG hg hv; clear HB; have HB := n0_; have BK210 := n1_; clear n0_ n1_ hv; clear hb hbox hg; have zq7 := zc2 BK210) | ((with_reducible refine gate_callee (f := 29) rfl ?_); refine gL (some 8) Tryz.func29 #[.int .i64 a0, .agg #[.int .i64 a1_0, .int .i64 a1_1]] rfl ?_; (with_reducible refine (spec_diAsked.calls k a0 a1_0 a1_1 true _ A3.out).mono ?_); rintro e w8 ⟨rfl, hb⟩; refine ⟨_, rfl, ?_⟩; have hp0 := pA BK210 hb; have hv := vK HB hb; have n1_ := Am (bT hv hb); clear HB; replace BK210 := hp0 BK210; have HB := n1_; clear n1_ hp0 hv; (try clear hb); have zq9 := zc2 BK210))
   go_ret2
   exact ⟨by first | rfl | (simp [errW_none, errW_some] <;> rfl) | (simp [*, errW_none, errW_some] <;> rfl), by repeat (first | (with_reducible first | exact HB.out | apply bA | apply bN | apply bD | refine bX ?_ (by assumption)) | exact HB.out)⟩
 replace c4 := Bool.eq_false_iff.mpr c4
 subst c4
 have H1 : (some (0, false)) = some (r1, r2) := by rw [if_neg (show ¬ (false = true) by decide)] at H; exact H
 clear H
 have H := H1
 clear H1
 focus
  simp only [Option.some.injEq, Prod.mk.injEq] at H
  obtain ⟨rfl, rfl⟩ := H
  go_enter Tryz.func13, Tryz.ntmps13
  go_wp2_with (first | ((with_reducible refine gate_dst (N := 3) rfl ?_); refine bE 3 #[.int .i64 a1_0, .int .i64 a1_1] 23 ?_; intro gb210 hg w10 hbox hb; have hv := vK HB hb; have n0_ := Am (bT hv hb); have n1_ := Am (hbox); have GE210 := kG hg hv; clear HB; have HB := n0_; have BK210 := n1_; clear n0_ n1_ hv; clear hb hbox hg; have zq11 := zc2 BK210) | ((with_reducible refine gate_callee (f := 29) rfl ?_); refine gL (some 8) Tryz.func29 #[.int .i64 a0, .agg #[.int .i64 a1_0, .int .i64 a1_1]] rfl ?_; (with_reducible refine (spec_diAsked.calls k a0 a1_0 a1_1 false _ A3.out).mono ?_); rintro e w12 ⟨rfl, hb⟩; refine ⟨_, rfl, ?_⟩; have hp0 := pA BK210 hb; have hv := vK HB hb; have n1_ := Am (bT hv hb); clear HB; replace BK210 := hp0 BK210; have HB := n1_; clear n1_ hp0 hv; (try clear hb)))
  go_ret2
  exact ⟨by first | rfl | (simp [errW_none, errW_some] <;> rfl) | (simp [*, errW_none, errW_some] <;> rfl), by repeat (first | (with_reducible first | exact HB.out | apply bA | apply bN | apply bD | refine bX ?_ (by assumption)) | exact HB.out)⟩
/-! ### impl_SecondOf: function 14 -/
def impl_SecondOf.f (k : Nat) (a0 : Int) (a1_0 : Int) (a1_1 : Int) : Option (Int × Int × Bool) := (impl_isTime.f k a0 a1_0 a1_1).bind fun t214 => (if t214 = true then ((impl_split.f k a0 a1_0 a1_1).bind fun bt215 => (some (bt215.2.2.1, bt215.2.2.2, true))) else (some (0, 0, false)))
theorem impl_SecondOf.mono : ∀ a0 a1 a2 k, LeO (impl_SecondOf.f k a0 a1 a2) (impl_SecondOf.f (k + 1) a0 a1 a2) := by
 intro a0 a1 a2 k
 unfold impl_SecondOf.f
 repeat' first
   | (with_reducible exact impl_isTime.mono _ _ _ _)
   | (with_reducible exact impl_split.mono _ _ _ _)
   | (with_reducible exact LeO.refl _)
   | (with_reducible exact LeO.none _)
   | (with_reducible refine LeO.ite ?_ ?_)
   | (with_reducible refine LeO.bind ?_ (fun _ => ?_))
   | exact impl_isTime.mono _ _ _ _
   | exact impl_split.mono _ _ _ _
   | exact LeO.none _
   | refine LeO.ite ?_ ?_
   | refine LeO.bind ?_ (fun _ => ?_)
set_option maxHeartbeats 8000000 in
set_option maxRecDepth 100000 in
theorem impl_SecondOf.calls (k : Nat) (a0 : Int) (a1_0 : Int) (a1_1 : Int) (r1 : Int) (r2 : Int) (r3 : Bool) (w : World) (h : impl_SecondOf.f k a0 a1_0 a1_1 = some (r1, r2, r3)) :
  Calls Tryz.prog 14 #[.int .i64 a0, .agg #[.int .i64 a1_0, .int .i64 a1_1]] w fun e w' => e = .returned (.tuple #[.agg #[.int .i64 r1, .int .i64 r2], .bool r3]) ∧ Below w.heap.size w w' := by
 have hu23 := Tryz.underlying23
 have HB := Am (Below.refl w.heap.size w)
 have H : ((impl_isTime.f k a0 a1_0 a1_1).bind fun t214 => (if t214 = true then ((impl_split.f k a0 a1_0 a1_1).bind fun bt215 => (some (bt215.2.2.1, bt215.2.2.2, true))) else (some (0, 0, false)))) = some (r1, r2, r3) := h
 clear h
 replace H := Option.bind_eq_some_iff.mp H
 obtain ⟨t214, A30, H⟩ := H
 try dsimp only at H
 have A3 := Am A30
 clear A30
 by_cases c4 : t214 = true
 ·subst c4
  have H1 : ((impl_split.f k a0 a1_0 a1_1).bind fun bt215 => (some (bt215.2.2.1, bt215.2.2.2, true))) = some (r1, r2, r3) := by rw [if_pos rfl] at H; exact H
  clear H
  have H := H1
  clear H1
  replace H := Option.bind_eq_some_iff.mp H
  obtain ⟨⟨t215, t216, t217, t218⟩, A50, H⟩ := H
  try dsimp only at H
  have A5 := Am A50
  clear A50
  focus
   simp only [Option.some.injEq, Prod.mk.injEq] at H
   obtain ⟨rfl, rfl, rfl⟩ := H
   go_enter Tryz.func14, Tryz.ntmps14
   go_wp2_with (first | ((with_reducible refine gate_dst (N := 3) rfl ?_); refine bE 3 #[.int .i64 a1_0, .int .i64 a1_1] 23 ?_; intro gb212 hg w6 hbox hb; have hv := vK HB hb; have n0_ := Am (bT hv hb); have n1_ := Am (hbox); have GE212 := kG hg hv; clear HB; have HB := n0_; have BK212 := n1_; clear n0_ n1_ hv; clear hb hbox hg) | ((with_reducible refine gate_dst (N := 4) rfl ?_); refine bE 4 #[.int .i64 0, .int .i64 0] 23 ?_; intro gb213 hg w7 hbox hb; have hp0 := pA BK212 hb; have hv := vK HB hb; have n1_ := Am (bT hv hb); have n2_ := Am (hbox); have GE213 := kG hg hv; have hp1 := pK BK212 hb; obtain ⟨NB212_213, NB213_212⟩ := kXY hg hp1 BK212; clear HB; replace BK212 := hp0 BK212; have HB := n1_; have BK213 := n2_; clear n1_ n2_ hp0 hp1 hv; clear hb hbox hg; have nq8 := kO NB212_213; have zq9 := zc2 BK212) | ((with_reducible refine gate_callee (f := 27) rfl ?_); refine gL (some 11) Tryz.func27 #[.int .i64 a0, .agg #[.int .i64 a1_0, .int .i64 a1_1]] rfl ?_; (with_reducible refine (impl_isTime.calls k a0 a1_0 a1_1 true _ A3.out).mono ?_); rintro e w10 ⟨rfl, hb⟩; refine ⟨_, rfl, ?_⟩; have hp0 := pA BK212 hb; have hv := vK HB hb; have n2_ := Am (bT hv hb); clear HB; replace BK212 := hp0 BK212; replace BK213 := hp0 BK213; have HB := n2_; clear n2_ hp0 hv; (try clear hb); have zq11 := zc2 BK212) | ((with_reducible refine gate_callee (f := 35) rfl ?_); refine gL (some 17) Tryz.func35 #[.int .i64 a0, .agg #[.int .i64 a1_0, .int .i64 a1_1]] rfl ?_; (with_reducible refine (impl_split.calls k a0 a1_0 a1_1 t215 t216 t217 t218 _ A5.out).mono ?_); rintro e w12 ⟨rfl, hb⟩; refine ⟨_, rfl, ?_⟩; have hp0 := pA BK212 hb; have hv := vK HB hb; have n2_ := Am (bT hv hb); clear HB; replace BK212 := hp0 BK212; replace BK213 := hp0 BK213; have HB := n2_; clear n2_ hp0 hv; (try clear hb)) | ((with_reducible refine gate_dst (N := 8) rfl ?_); refine bE 8 #[.int .i64 0, .int .i64 0] 23 ?_; intro gb219 hg w13 hbox hb; have hp0 := pA BK212 hb; have hv := vK HB hb; have n2_ := Am (bT hv hb); have n3_ := Am (hbox); have GE219 := kG hg hv; have hp1 := pK BK212 hb; obtain ⟨NB212_219, NB219_212⟩ := kXY hg hp1 BK212; obtain ⟨NB213_219, NB219_213⟩ := kXY hg hp1 BK213; clear HB; replace BK212 := hp0 BK212; replace BK213 := hp0 BK213; have HB := n2_; have BK219 := n3_; clear n2_ n3_ hp0 hp1 hv; clear hb hbox hg; have nq14 := kO NB219_212; have nq15 := kO NB219_213; have hcz16_0 : w13.cell? ⟨gb219, 0, none⟩ = some (.int .i64 0) := (kC BK219.out 0).trans rfl; have hcz16_1 : w13.cell? ⟨gb219, 1, none⟩ = some (.int .i64 0) := (kC BK219.out 1).trans rfl; have hfz16_0 := kF BK219.out 0; have hfz16_1 := kF BK219.out 1; have zq17 := zc2 BK213))
   refine bodyPost_ret (results_ct rfl _ _ gb213 23 #[.int .i64 t217, .int .i64 t218] (0, 0) _ rfl (by (with_reducible repeat (first | refine kN ?_ _ | refine kD ?_ | refine kA ?_ _)); refine kP (cs := #[.int .i64 t217, .int .i64 0]) ?_ 1 _ rfl; (with_reducible repeat (first | refine kN ?_ _ | refine kD ?_ | refine kA ?_ _)); refine kP (cs := #[.int .i64 0, .int .i64 0]) ?_ 0 _ rfl; (with_reducible repeat (first | refine kN ?_ _ | refine kD ?_ | refine kA ?_ _)); refine kR ?_ NB213_219.out _; (with_reducible repeat (first | refine kN ?_ _ | refine kD ?_ | refine kA ?_ _)); refine kR ?_ NB213_219.out _; (with_reducible repeat (first | refine kN ?_ _ | refine kD ?_ | refine kA ?_ _)); exact BK213.out) Tryz.underlying23 rfl (by kernel_rfl)) rfl ?_
   exact ⟨by first | rfl | (simp [errW_none, errW_some] <;> rfl) | (simp [*, errW_none, errW_some] <;> rfl), by repeat (first | (with_reducible first | exact HB.out | apply bA | apply bN | apply bD | refine bX ?_ (by assumption)) | exact HB.out)⟩
 replace c4 := Bool.eq_false_iff.mpr c4
 subst c4
 have H1 : (some (0, 0, false)) = some (r1, r2, r3) := by rw [if_neg (show ¬ (false = true) by decide)] at H; exact H
 clear H
 have H := H1
 clear H1
 focus
  simp only [Option.some.injEq, Prod.mk.injEq] at H
  obtain ⟨rfl, rfl, rfl⟩ := H
  go_enter Tryz.func14, Tryz.ntmps14
  go_wp2_with (first | ((with_reducible refine gate_dst (N := 3) rfl ?_); refine bE 3 #[.int .i64 a1_0, .int .i64 a1_1] 23 ?_; intro gb212 hg w18 hbox hb; have hv := vK HB hb; have n0_ := Am (bT hv hb); have n1_ := Am (hbox); have GE212 := kG hg hv; clear HB; have HB := n0_; have BK212 := n1_; clear n0_ n1_ hv; clear hb hbox hg) | ((with_reducible refine gate_dst (N := 4) rfl ?_); refine bE 4 #[.int .i64 0, .int .i64 0] 23 ?_; intro gb213 hg w19 hbox hb; have hp0 := pA BK212 hb; have hv := vK HB hb; have n1_ := Am (bT hv hb); have n2_ := Am (hbox); have GE213 := kG hg hv; have hp1 := pK BK212 hb; obtain ⟨NB212_213, NB213_212⟩ := kXY hg hp1 BK212; clear HB; replace BK212 := hp0 BK212; have HB := n1_; have BK213 := n2_; clear n1_ n2_ hp0 hp1 hv; clear hb hbox hg; have nq20 := kO NB212_213; have zq21 := zc2 BK212) | ((with_reducible refine gate_callee (f := 27) rfl ?_); refine gL (some 11) Tryz.func27 #[.int .i64 a0, .agg #[.int .i64 a1_0, .int .i64 a1_1]] rfl ?_; (with_reducible refine (impl_isTime.calls k a0 a1_0 a1_1 false _ A3.out).mono ?_); rintro e w22 ⟨rfl, hb⟩; refine ⟨_, rfl, ?_⟩; have hp0 := pA BK212 hb; have hv := vK HB hb; have n2_ := Am (bT hv hb); clear HB; replace BK212 := hp0 BK212; replace BK213 := hp0 BK213; have HB := n2_; clear n2_ hp0 hv; (try clear hb); have zq23 := zc2 BK213))
  refine bodyPost_ret (results_ct rfl _ _ gb213 23 #[.int .i64 0, .int .i64 0] (0, 0) _ rfl (by (with_reducible repeat (first | refine kN ?_ _ | refine kD ?_ | refine kA ?_ _)); refine kP (cs := #[.int .i64 0, .int .i64 0]) ?_ 1 _ rfl; (with_reducible repeat (first | refine kN ?_ _ | refine kD ?_ | refine kA ?_ _)); refine kP (cs := #[.int .i64 0, .int .i64 0]) ?_ 0 _ rfl; (with_reducible repeat (first | refine kN ?_ _ | refine kD ?_ | refine kA ?_ _)); exact BK213.out) Tryz.underlying23 rfl (by kernel_rfl)) rfl ?_
  exact ⟨by first | rfl | (simp [errW_none, errW_some] <;> rfl) | (simp [*, errW_none, errW_some] <;> rfl), by repeat (first | (with_reducible first | exact HB.out | apply bA | apply bN | apply bD | refine bX ?_ (by assumption)) | exact HB.out)⟩
/-! ### spec_SecondOf: function 15 -/
def spec_SecondOf.f (k : Nat) (a0 : Int) (a1_0 : Int) (a1_1 : Int) : Option (Int × Int × Bool) := (spec_diAsked.f k a0 a1_0 a1_1).bind fun t222 => (if t222 = true then ((spec_diTimes.f k a1_0 a1_1 (wrap64 (60 * a0))).bind fun bt223 => (some (bt223.1, bt223.2, true))) else (some (0, 0, false)))
theorem spec_SecondOf.mono : ∀ a0 a1 a2 k, LeO (spec_SecondOf.f k a0 a1 a2) (spec_SecondOf.f (k + 1) a0 a1 a2) := by
 intro a0 a1 a2 k
 unfold spec_SecondOf.f
 repeat' first
   | (with_reducible exact spec_diAsked.mono _ _ _ _)
   | (with_reducible exact spec_diTimes.mono _ _ _ _)
   | (with_reducible exact LeO.refl _)
   | (with_reducible exact LeO.none _)
   | (with_reducible refine LeO.ite ?_ ?_)
   | (with_reducible refine LeO.bind ?_ (fun _ => ?_))
   | exact spec_diAsked.mono _ _ _ _
   | exact spec_diTimes.mono _ _ _ _
   | exact LeO.none _
   | refine LeO.ite ?_ ?_
   | refine LeO.bind ?_ (fun _ => ?_)
set_option maxHeartbeats 8000000 in
set_option maxRecDepth 100000 in
theorem spec_SecondOf.calls (k : Nat) (a0 : Int) (a1_0 : Int) (a1_1 : Int) (r1 : Int) (r2 : Int) (r3 : Bool) (w : World) (h : spec_SecondOf.f k a0 a1_0 a1_1 = some (r1, r2, r3)) :
  Calls Tryz.prog 15 #[.int .i64 a0, .agg #[.int .i64 a1_0, .int .i64 a1_1]] w fun e w' => e = .returned (.tuple #[.agg #[.int .i64 r1, .int .i64 r2], .bool r3]) ∧ Below w.heap.size w w' := by
 have hu23 := Tryz.underlying23
 have HB := Am (Below.refl w.heap.size w)
 have H : ((spec_diAsked.f k a0 a1_0 a1_1).bind fun t222 => (if t222 = true then ((spec_diTimes.f k a1_0 a1_1 (wrap64 (60 * a0))).bind fun bt223 => (some (bt223.1, bt223.2, true))) else (some (0, 0, false)))) = some (r1, r2, r3) := h
 clear h
 replace H := Option.bind_eq_some_iff.mp H
 obtain ⟨t222, A30, H⟩ := H
 try dsimp only at H
 have A3 := Am A30
 clear A30
 by_cases c4 : t222 = true
 ·subst c4
  have H1 : ((spec_diTimes.f k a1_0 a1_1 (wrap64 (60 * a0))).bind fun bt223 => (some (bt223.1, bt223.2, true))) = some (r1, r2, r3) := by rw [if_pos rfl] at H; exact H
  clear H
  have H := H1
  clear H1
  replace H := Option.bind_eq_some_iff.mp H
  obtain ⟨⟨t223, t224⟩, A50, H⟩ := H
  try dsimp only at H
  have A5 := Am A50
  clear A50
  focus
   simp only [Option.some.injEq, Prod.mk.injEq] at H
   obtain ⟨rfl, rfl, rfl⟩ := H
   go_enter Tryz.func15, Tryz.ntmps15
   go_wp2_with (first | ((with_reducible refine gate_dst (N := 3) rfl ?_); refine bE 3 #[.int .i64 a1_0, .int .i64 a1_1] 23 ?_; intro gb220 hg w6 hbox hb; have hv := vK HB hb; have n0_ := Am (bT hv hb); have n1_ := Am (hbox); have GE220 := kG hg hv; clear HB; have HB := n0_; have BK220 := n1_; clear n0_ n1_ hv; clear hb hbox hg) | ((with_reducible refine gate_dst (N := 4) rfl ?_); refine bE 4 #[.int .i64 0, .int .i64 0] 23 ?_; intro gb221 hg w7 hbox hb; have hp0 := pA BK220 hb; have hv := vK HB hb; have n1_ := Am (bT hv hb); have n2_ := Am (hbox); have GE221 := kG hg hv; have hp1 := pK BK220 hb; obtain ⟨NB220_221, NB221_220⟩ := kXY hg hp1 BK220; clear HB; replace BK220 := hp0 BK220; have HB := n1_; have BK221 := n2_; clear n1_ n2_ hp0 hp1 hv; clear hb hbox hg; have nq8 := kO NB220_221; have zq9 := zc2 BK220) | ((with_reducible refine gate_callee (f := 29) rfl ?_); refine gL (some 8) Tryz.func29 #[.int .i64 a0, .agg #[.int .i64 a1_0, .int .i64 a1_1]] rfl ?_; (with_reducible refine (spec_diAsked.calls k a0 a1_0 a1_1 true _ A3.out).mono ?_); rintro e w10 ⟨rfl, hb⟩; refine ⟨_, rfl, ?_⟩; have hp0 := pA BK220 hb; have hv := vK HB hb; have n2_ := Am (bT hv hb); clear HB; replace BK220 := hp0 BK220; replace BK221 := hp0 BK221; have HB := n2_; clear n2_ hp0 hv; (try clear hb); have zq11 := zc2 BK220) | ((with_reducible refine gate_callee (f := 30) rfl ?_); refine gL (some 14) Tryz.func30 #[.agg #[.int .i64 a1_0, .int .i64 a1_1], .int .i64 (wrap64 (60 * a0))] rfl ?_; (with_reducible refine (spec_diTimes.calls k a1_0 a1_1 (wrap64 (60 * a0)) t223 t224 _ A5.out).mono ?_); rintro e w12 ⟨rfl, hb⟩; refine ⟨_, rfl, ?_⟩; have hp0 := pA BK220 hb; have hv := vK HB hb; have n2_ := Am (bT hv hb); clear HB; replace BK220 := hp0 BK220; replace BK221 := hp0 BK221; have HB := n2_; clear n2_ hp0 hv; (try clear hb); have zq13 := zc2 BK221))
   refine bodyPost_ret (results_ct rfl _ _ gb221 23 #[.int .i64 t223, .int .i64 t224] (0, 0) _ rfl (by (with_reducible repeat (first | refine kN ?_ _ | refine kD ?_ | refine kA ?_ _)); refine kP (cs := #[.int .i64 t223, .int .i64 0]) ?_ 1 _ rfl; (with_reducible repeat (first | refine kN ?_ _ | refine kD ?_ | refine kA ?_ _)); refine kP (cs := #[.int .i64 0, .int .i64 0]) ?_ 0 _ rfl; (with_reducible repeat (first | refine kN ?_ _ | refine kD ?_ | refine kA ?_ _)); exact BK221.out) Tryz.underlying23 rfl (by kernel_rfl)) rfl ?_
   exact ⟨by first | rfl | (simp [errW_none, errW_some] <;> rfl) | (simp [*, errW_none, errW_some] <;> rfl), by repeat (first | (with_reducible first | exact HB.out | apply bA | apply bN | apply bD | refine bX ?_ (by assumption)) | exact HB.out)⟩
 replace c4 := Bool.eq_false_iff.mpr c4
 subst c4
 have H1 : (some (0, 0, false)) = some (r1, r2, r3) := by rw [if_neg (show ¬ (false = true) by decide)] at H; exact H
 clear H
 have H := H1
 clear H1
 focus
  simp only [Option.some.injEq, Prod.mk.injEq] at H
  obtain ⟨rfl, rfl, rfl⟩ := H
  go_enter Tryz.func15, Tryz.ntmps15
  go_wp2_with (first | ((with_reducible refine gate_dst (N := 3) rfl ?_); refine bE 3 #[.int .i64 a1_0, .int .i64 a1_1] 23 ?_; intro gb220 hg w14 hbox hb; have hv := vK HB hb; have n0_ := Am (bT hv hb); have n1_ := Am (hbox); have GE220 := kG hg hv; clear HB; have HB := n0_; have BK220 := n1_; clear n0_ n1_ hv; clear hb hbox hg) | ((with_reducible refine gate_dst (N := 4) rfl ?_); refine bE 4 #[.int .i64 0, .int .i64 0] 23 ?_; intro gb221 hg w15 hbox hb; have hp0 := pA BK220 hb; have hv := vK HB hb; have n1_ := Am (bT hv hb); have n2_ := Am (hbox); have GE221 := kG hg hv; have hp1 := pK BK220 hb; obtain ⟨NB220_221, NB221_220⟩ := kXY hg hp1 BK220; clear HB; replace BK220 := hp0 BK220; have HB := n1_; have BK221 := n2_; clear n1_ n2_ hp0 hp1 hv; clear hb hbox hg; have nq16 := kO NB220_221; have zq17 := zc2 BK220) | ((with_reducible refine gate_callee (f := 29) rfl ?_); refine gL (some 8) Tryz.func29 #[.int .i64 a0, .agg #[.int .i64 a1_0, .int .i64 a1_1]] rfl ?_; (with_reducible refine (spec_diAsked.calls k a0 a1_0 a1_1 false _ A3.out).mono ?_); rintro e w18 ⟨rfl, hb⟩; refine ⟨_, rfl, ?_⟩; have hp0 := pA BK220 hb; have hv := vK HB hb; have n2_ := Am (bT hv hb); clear HB; replace BK220 := hp0 BK220; replace BK221 := hp0 BK221; have HB := n2_; clear n2_ hp0 hv; (try clear hb); have zq19 := zc2 BK221))
  refine bodyPost_ret (results_ct rfl _ _ gb221 23 #[.int .i64 0, .int .i64 0] (0, 0) _ rfl (by (with_reducible repeat (first | refine kN ?_ _ | refine kD ?_ | refine kA ?_ _)); refine kP (cs := #[.int .i64 0, .int .i64 0]) ?_ 1 _ rfl; (with_reducible repeat (first | refine kN ?_ _ | refine kD ?_ | refine kA ?_ _)); refine kP (cs := #[.int .i64 0, .int .i64 0]) ?_ 0 _ rfl; (with_reducible repeat (first | refine kN ?_ _ | refine kD ?_ | refine kA ?_ _)); exact BK221.out) Tryz.underlying23 rfl (by kernel_rfl)) rfl ?_
  exact ⟨by first | rfl | (simp [errW_none, errW_some] <;> rfl) | (simp [*, errW_none, errW_some] <;> rfl), by repeat (first | (with_reducible first | exact HB.out | apply bA | apply bN | apply bD | refine bX ?_ (by assumption)) | exact HB.out)⟩
/-! ### impl_areTurns_1: function 66 -/
def impl_areTurns_1.f (k : Nat) (a0_0 : Int) (a0_1 : Int) : Option (Bool) := (impl_IsTurn.f k a0_0 a0_1).bind fun t226 => (some (!t226))
theorem impl_areTurns_1.mono : ∀ a0 a1 k, LeO (impl_areTurns_1.f k a0 a1) (impl_areTurns_1.f (k + 1) a0 a1) := by
 intro a0 a1 k
 unfold impl_areTurns_1.f
 repeat' first
   | (with_reducible exact impl_IsTurn.mono _ _ _)
   | (with_reducible exact LeO.refl _)
   | (with_reducible exact LeO.none _)
   | (with_reducible refine LeO.ite ?_ ?_)
   | (with_reducible refine LeO.bind ?_ (fun _ => ?_))
   | exact impl_IsTurn.mono _ _ _
   | exact LeO.none _
   | refine LeO.ite ?_ ?_
   | refine LeO.bind ?_ (fun _ => ?_)
set_option maxHeartbeats 8000000 in
set_option maxRecDepth 100000 in
theorem impl_areTurns_1.calls (k : Nat) (a0_0 : Int) (a0_1 : Int) (r : Bool) (w : World) (h : impl_areTurns_1.f k a0_0 a0_1 = some r) :
  Calls Tryz.prog 66 #[.agg #[.int .i64 a0_0, .int .i64 a0_1]] w fun e w' => e = .returned (.bool r) ∧ Below w.heap.size w w' := by
 have hu23 := Tryz.underlying23
 have HB := Am (Below.refl w.heap.size w)
 have H : ((impl_IsTurn.f k a0_0 a0_1).bind fun t226 => (some (!t226))) = some r := h
 clear h
 replace H := Option.bind_eq_some_iff.mp H
 obtain ⟨t226, A20, H⟩ := H
 try dsimp only at H
 have A2 := Am A20
 clear A20
 focus
  obtain rfl := Option.some.inj H
  go_enter Tryz.func66, Tryz.ntmps66
  go_wp2_with (first | ((with_reducible refine gate_dst (N := 1) rfl ?_); refine bE 1 #[.int .i64 a0_0, .int .i64 a0_1] 23 ?_; intro gb225 hg w3 hbox hb; have hv := vK HB hb; have n0_ := Am (bT hv hb); have n1_ := Am (hbox); have GE225 := kG hg hv; clear HB; have HB := n0_; have BK225 := n1_; clear n0_ n1_ hv; clear hb hbox hg; have zq4 := zc2 BK225) | ((with_reducible refine gate_callee (f := 55) rfl ?_); refine gL (some 4) Tryz.func55 #[.agg #[.int .i64 a0_0, .int .i64 a0_1]] rfl ?_; (with_reducible refine (impl_IsTurn.calls k a0_0 a0_1 t226 _ A2.out).mono ?_); rintro e w5 ⟨rfl, hb⟩; refine ⟨_, rfl, ?_⟩; have hp0 := pA BK225 hb; have hv := vK HB hb; have n1_ := Am (bT hv hb); clear HB; replace BK225 := hp0 BK225; have HB := n1_; clear n1_ hp0 hv; (try clear hb)))
  go_ret
  exact ⟨by first | rfl | (simp [errW_none, errW_some] <;> rfl) | (simp [*, errW_none, errW_some] <;> rfl), by repeat (first | (with_reducible first | exact HB.out | apply bA | apply bN | apply bD | refine bX ?_ (by assumption)) | exact HB.out)⟩
/-! ### impl_areTurns: function 43 -/
def impl_areTurns.g (k : Nat) : List (S23) → Option (Bool)
 | [] => some true
 | x :: xs => (impl_areTurns_1.f k x.f0 x.f1).bind fun b => if b = true then some false else impl_areTurns.g k xs
def impl_areTurns.f (k : Nat) (l0 : List (S23)) : Option (Bool) := if l0.length < 4611686018427387904 then impl_areTurns.g k l0 else none
theorem impl_areTurns.mono_g : ∀ a0 k, LeO (impl_areTurns.g k a0) (impl_areTurns.g (k + 1) a0)
 | [], k => LeO.refl _
 | x :: xs, k => by
  unfold impl_areTurns.g
  exact LeO.bind (impl_areTurns_1.mono _ _ _) (fun _ => LeO.ite (LeO.refl _) (impl_areTurns.mono_g xs k))
theorem impl_areTurns.mono : ∀ a0 k, LeO (impl_areTurns.f k a0) (impl_areTurns.f (k + 1) a0) := fun a0 k => by
 unfold impl_areTurns.f
 exact LeO.ite (impl_areTurns.mono_g a0 k) (LeO.refl _)
theorem impl_areTurns.at (k : Nat) (l0 : List (S23)) (x8 : Int) (r : Bool) (h0 : 0 ≤ x8) (h1 : x8 < (l0.length : Int)) (h : impl_areTurns.g k (l0.drop x8.toNat) = some r) :
  ∃ b, impl_areTurns_1.f k (rd_T23 l0 x8).f0 (rd_T23 l0 x8).f1 = some b ∧ (b = true → r = false) ∧ (b = false → impl_areTurns.g k (l0.drop (x8 + 1).toNat) = some r) := by
 have hl : x8.toNat < l0.length := by omega
 rw [List.drop_eq_getElem_cons hl] at h
 simp only [impl_areTurns.g] at h
 obtain ⟨b, hb, hr⟩ := Option.bind_eq_some_iff.mp h
 have e1 : rd_T23 l0 x8 = l0[x8.toNat] := by unfold rd_T23; rw [List.getD_eq_getElem?_getD, List.getElem?_eq_getElem hl]; rfl
 refine ⟨b, by rw [e1]; exact hb, fun e => ?_, fun e => ?_⟩
 ·rw [e, if_pos rfl] at hr; exact (Option.some.inj hr).symm
 ·rw [e, if_neg (by decide)] at hr
  rw [show (x8 + 1).toNat = x8.toNat + 1 by omega]; exact hr
set_option maxHeartbeats 8000000 in
set_option maxRecDepth 100000 in
theorem impl_areTurns.idx (k : Nat) (A0 : Option Addr) (c0 : Nat) (l0 : List (S23)) (r : Bool) (w : World) (hr0 : Kd.C k23 w A0 l0.length l0) (hlen : l0.length < 4611686018427387904) (h : impl_areTurns.g k l0 = some r) :
  Calls Tryz.prog 74 #[.slice A0 l0.length c0, .func (.func 66) #[] #[]] w fun e w' => ∃ v : Int, e = .returned (.int .i64 v) ∧ decide (0 ≤ v) = !r ∧ Below w.heap.size w w' := by
 have HR0 := Am hr0
 clear hr0
 have H' : Aside0 (impl_areTurns.g k (l0.drop (0 : Int).toNat) = some r) := ⟨h⟩
 clear h
 have hu23 := Tryz.underlying23
 go_enter Tryz.func74, Tryz.ntmps74
 go_wp2
 go_loopg [5, 8] l0.length (fun gg v5 v8 w' => ∃ x8 : Int, 0 ≤ x8 ∧ x8 ≤ (l0.length : Int) ∧ (l0.length : Int) - x8 ≤ gg ∧ v8 = .int .i64 x8 ∧ Aside0 (impl_areTurns.g k (l0.drop x8.toNat) = some r) ∧ Aside0 (Below w.heap.size w w'))
 case atStart => exact ⟨0, by omega, by omega, by omega, rfl, H', ⟨Below.refl _ w⟩⟩
 case round =>
  clear H'
  obtain ⟨x8, hx0, hx1, hg, rfl, HA, HB⟩ := hrel
  have hbd : x8 < 4611686018427387904 := by omega
  by_cases hlt : x8 < (l0.length : Int)
  ·have hltb : decide (x8 < (l0.length : Int)) = true := decide_eq_true hlt
   have hx0b : decide (0 ≤ x8) = true := decide_eq_true hx0
   obtain ⟨b, hb, hbt, hbf⟩ := impl_areTurns.at k l0 x8 r hx0 hlt HA.out
   clear HA
   obtain ⟨ad, ea, hc0, hc1⟩ := at_T23 HR0.out x8 hx0 hlt
   cases ea
   replace hc0 := (HB.out.cell (World.block_lt_of_cell? w _ hc0)).trans hc0
   replace hc1 := (HB.out.cell (World.block_lt_of_cell? w _ hc1)).trans hc1
   cases b with
   | true =>
    have HB1 := Am hb
    have HT := Am (hbt rfl)
    clear hb hbt hbf
    go_wp2_with (go_at_call 66; refine (impl_areTurns_1.calls k _ _ true _ HB1.out).mono ?_; rintro e w2 ⟨rfl, hb'⟩)
    go_ret
    exact ⟨x8, rfl, by rw [HT.out]; simpa using hx0, bT HB.out hb'⟩
   | false =>
    have HB1 := Am hb
    have HF := Am (hbf rfl)
    clear hb hbt hbf
    go_wp2_with (go_at_call 66; refine (impl_areTurns_1.calls k _ _ false _ HB1.out).mono ?_; rintro e w2 ⟨rfl, hb'⟩)
    go_roundg (l0.length - (x8 + 1).toNat)
    case measure => omega
    case rel => exact ⟨x8 + 1, by omega, by omega, by omega, by go_num, ⟨HF.out⟩, ⟨bT HB.out hb'⟩⟩
  have hltb : decide (x8 < (l0.length : Int)) = false := decide_eq_false hlt
  have e8 : r = true := by
   have := HA.out
   rw [List.drop_of_length_le (by omega)] at this
   exact (Option.some.inj this).symm
  clear HA
  have E8 := Am e8
  clear e8
  go_wp2
  go_ret
  exact ⟨-1, rfl, by rw [E8.out]; rfl, HB.out⟩
set_option maxHeartbeats 8000000 in
set_option maxRecDepth 100000 in
theorem impl_areTurns.con (k : Nat) (A0 : Option Addr) (c0 : Nat) (l0 : List (S23)) (r : Bool) (w : World) (hr0 : Kd.C k23 w A0 l0.length l0) (hlen : l0.length < 4611686018427387904) (h : impl_areTurns.g k l0 = some r) :
  Calls Tryz.prog 65 #[.slice A0 l0.length c0, .func (.func 66) #[] #[]] w fun e w' => e = .returned (.bool (!r)) ∧ Below w.heap.size w w' := by
 have HR0 := Am hr0
 have H' := Am h
 clear hr0 h
 go_enter Tryz.func65, Tryz.ntmps65
 go_wp2_with (go_at_call 74; refine (impl_areTurns.idx k A0 c0 l0 r _ HR0.out hlen H'.out).mono ?_; rintro e w2 ⟨v, rfl, hv0, hb'⟩; have HV := Am hv0; clear hv0)
 go_ret
 exact ⟨congrArg (fun b => Ending.returned (.bool b)) HV.out, hb'⟩
set_option maxHeartbeats 8000000 in
set_option maxRecDepth 100000 in
theorem impl_areTurns.calls (k : Nat) (A0 : Option Addr) (c0 : Nat) (l0 : List (S23)) (r : Bool) (w : World) (hr0 : Kd.C k23 w A0 l0.length l0) (hc0 : l0.length ≤ c0) (h : impl_areTurns.f k l0 = some r) :
  Calls Tryz.prog 43 #[.slice A0 l0.length c0] w fun e w' => e = .returned (.bool r) ∧ Below w.heap.size w w' := by
 have HR0 := Am hr0
 have hlen : l0.length < 4611686018427387904 := by
  unfold impl_areTurns.f at h
  by_cases hl : l0.length < 4611686018427387904
  ·exact hl
  rw [if_neg hl] at h; cases h
 have H' : Aside0 (impl_areTurns.g k l0 = some r) := by
  unfold impl_areTurns.f at h
  rw [if_pos hlen] at h
  exact ⟨h⟩
 clear hr0 h
 go_enter Tryz.func43, Tryz.ntmps43
 go_wp2_with (go_at_call 65; refine (impl_areTurns.con k A0 c0 l0 r _ HR0.out hlen H'.out).mono ?_; rintro e w2 ⟨rfl, hb'⟩)
 go_ret
 exact ⟨by simp, hb'⟩
/-! ### impl_ifTurns: function 36 -/
def impl_ifTurns.f (k : Nat) (l0 : List (S23)) (a1 : Bool) : Option ((List (S23)) × Bool) := if a1 = true then ((impl_areTurns.f k l0).bind fun t227 => (if t227 = true then (some (l0, true)) else (some (([] : List (S23)), false)))) else (some (([] : List (S23)), false))
theorem impl_ifTurns.mono : ∀ a0 a1 k, LeO (impl_ifTurns.f k a0 a1) (impl_ifTurns.f (k + 1) a0 a1) := by
 intro a0 a1 k
 unfold impl_ifTurns.f
 repeat' first
   | (with_reducible exact impl_areTurns.mono _ _)
   | (with_reducible exact LeO.refl _)
   | (with_reducible exact LeO.none _)
   | (with_reducible refine LeO.ite ?_ ?_)
   | (with_reducible refine LeO.bind ?_ (fun _ => ?_))
   | exact impl_areTurns.mono _ _
   | exact LeO.none _
   | refine LeO.ite ?_ ?_
   | refine LeO.bind ?_ (fun _ => ?_)
set_option maxHeartbeats 8000000 in
set_option maxRecDepth 100000 in
theorem impl_ifTurns.calls (k : Nat) (P0_ : Nat → Prop) (u9000_ : Value) (l0 : List (S23)) (a1 : Bool) (r1 : List (S23)) (r2 : Bool) (w0 w : World) (hB : Below w0.heap.size w0 w) (ho0 : Kd.R k23 23 w w0.heap.size P0_ u9000_ l0) (h : impl_ifTurns.f k l0 a1 = some (r1, r2)) :
  Calls Tryz.prog 36 #[u9000_, .bool a1] w fun e w' => ∃ v0_ : Value, e = .returned (.tuple #[v0_, .bool r2]) ∧ Kd.R k23 23 w' w0.heap.size (fun k_ => (P0_ k_ ∨ w.heap.size ≤ k_)) v0_ r1 ∧ Below w0.heap.size w0 w' ∧ Kept w w' (fun k_ => P0_ k_) := by
 have HO0 := Am (show Kd.R k23 23 w w0.heap.size (fun k_ => (P0_ k_ ∨ w.heap.size ≤ k_)) u9000_ l0 from Kd.R_mono ho0 (fun k_ hk => (.inl hk)))
 have HK := Am (Kept.refl w (fun k_ => P0_ k_))
 have HW0 := Am hB.size
 have HB := Am hB
 clear hB
 have H : (if a1 = true then ((impl_areTurns.f k l0).bind fun t227 => (if t227 = true then (some (l0, true)) else (some (([] : List (S23)), false)))) else (some (([] : List (S23)), false))) = some (r1, r2) := h
 clear h
 by_cases c3 : a1 = true
 ·subst c3
  have H1 : ((impl_areTurns.f k l0).bind fun t227 => (if t227 = true then (some (l0, true)) else (some (([] : List (S23)), false)))) = some (r1, r2) := by rw [if_pos rfl] at H; exact H
  clear H
  have H := H1
  clear H1
  replace H := Option.bind_eq_some_iff.mp H
  obtain ⟨t227, A40, H⟩ := H
  try dsimp only at H
  have A4 := Am A40
  clear A40
  by_cases c5 : t227 = true
  ·subst c5
   have H1 : (some (l0, true)) = some (r1, r2) := by rw [if_pos rfl] at H; exact H
   clear H
   have H := H1
   clear H1
   focus
    simp only [Option.some.injEq, Prod.mk.injEq] at H
    obtain ⟨rfl, rfl⟩ := H
    obtain ⟨Ao6, co6, eo6⟩ := Kd.R_slice HO0.out
    subst eo6
    go_enter Tryz.func36, Tryz.ntmps36
    go_wp2_with (first | (go_at_call 43; (with_reducible refine (impl_areTurns.calls k _ _ l0 true _ ?side1 ?side2 A4.out).mono ?_); (case side1 => repeat (first | exact (Kd.R_reads' HO0.out).2.2 | (with_reducible refine Kd.C_alloc ?_ _) | (with_reducible refine Kd.C_drewN ?_ _) | (with_reducible refine Kd.C_drew ?_))); (case side2 => exact (Kd.R_reads' HO0.out).2.1); rintro e w7 ⟨rfl, hb⟩; have n0_ := Am (Kd.R_below (kW HO0) hb); have n1_ := Am (Kept.below (S := (fun k_ => P0_ k_)) (by repeat (first | (with_reducible first | exact HK.out | apply Kept.alloc | apply Kept.drewN | apply Kept.drew) | exact HK.out)) hb); have hv := vK HB hb; have n2_ := Am (bT hv hb); clear HO0; clear HK; clear HB; have HO0 := n0_; have HK := n1_; have HB := n2_; clear n0_ n1_ n2_ hv; (try clear hb)))
    go_ret2
    exact ⟨_, by first | rfl | (simp [errW_none, errW_some] <;> rfl) | (simp [*, errW_none, errW_some] <;> rfl), by (with_reducible repeat (first | apply Kd.R_alloc | apply Kd.R_drewN | apply Kd.R_drew)); exact HO0.out, by repeat (first | (with_reducible first | exact HB.out | apply bA | apply bN | apply bD) | exact HB.out), by repeat (first | (with_reducible first | exact HK.out | apply Kept.alloc | apply Kept.drewN | apply Kept.drew) | exact HK.out)⟩
  replace c5 := Bool.eq_false_iff.mpr c5
  subst c5
  have H1 : (some (([] : List (S23)), false)) = some (r1, r2) := by rw [if_neg (show ¬ (false = true) by decide)] at H; exact H
  clear H
  have H := H1
  clear H1
  focus
   simp only [Option.some.injEq, Prod.mk.injEq] at H
   obtain ⟨rfl, rfl⟩ := H
   obtain ⟨Ao8, co8, eo8⟩ := Kd.R_slice HO0.out
   subst eo8
   go_enter Tryz.func36, Tryz.ntmps36
   go_wp2_with (first | (go_at_call 43; (with_reducible refine (impl_areTurns.calls k _ _ l0 false _ ?side1 ?side2 A4.out).mono ?_); (case side1 => repeat (first | exact (Kd.R_reads' HO0.out).2.2 | (with_reducible refine Kd.C_alloc ?_ _) | (with_reducible refine Kd.C_drewN ?_ _) | (with_reducible refine Kd.C_drew ?_))); (case side2 => exact (Kd.R_reads' HO0.out).2.1); rintro e w9 ⟨rfl, hb⟩; have n0_ := Am (Kd.R_below (kW HO0) hb); have n1_ := Am (Kept.below (S := (fun k_ => P0_ k_)) (by repeat (first | (with_reducible first | exact HK.out | apply Kept.alloc | apply Kept.drewN | apply Kept.drew) | exact HK.out)) hb); have hv := vK HB hb; have n2_ := Am (bT hv hb); clear HO0; clear HK; clear HB; have HO0 := n0_; have HK := n1_; have HB := n2_; clear n0_ n1_ n2_ hv; (try clear hb)))
   go_ret2
   exact ⟨_, by first | rfl | (simp [errW_none, errW_some] <;> rfl) | (simp [*, errW_none, errW_some] <;> rfl), by first | exact Kd.R_nil _ _ _ _ _ | exact Kd.N_nil _ _ _ _ _ | exact Kd.V_nil _ _ _ _ _ | exact Kd.Q_nil _ _ _ _ _ | exact Kd.S_nil _ _ _ _ _, by repeat (first | (with_reducible first | exact HB.out | apply bA | apply bN | apply bD) | exact HB.out), by repeat (first | (with_reducible first | exact HK.out | apply Kept.alloc | apply Kept.drewN | apply Kept.drew) | exact HK.out)⟩
 replace c3 := Bool.eq_false_iff.mpr c3
 subst c3
 have H1 : (some (([] : List (S23)), false)) = some (r1, r2) := by rw [if_neg (show ¬ (false = true) by decide)] at H; exact H
 clear H
 have H := H1
 clear H1
 focus
  simp only [Option.some.injEq, Prod.mk.injEq] at H
  obtain ⟨rfl, rfl⟩ := H
  go_enter Tryz.func36, Tryz.ntmps36
  go_wp2
  go_ret2
  exact ⟨_, by first | rfl | (simp [errW_none, errW_some] <;> rfl) | (simp [*, errW_none, errW_some] <;> rfl), by first | exact Kd.R_nil _ _ _ _ _ | exact Kd.N_nil _ _ _ _ _ | exact Kd.V_nil _ _ _ _ _ | exact Kd.Q_nil _ _ _ _ _ | exact Kd.S_nil _ _ _ _ _, by repeat (first | (with_reducible first | exact HB.out | apply bA | apply bN | apply bD) | exact HB.out), by repeat (first | (with_reducible first | exact HK.out | apply Kept.alloc | apply Kept.drewN | apply Kept.drew) | exact HK.out)⟩
/-! ### impl_roots: function 37 -/
def impl_roots.l0 : Nat → Int → List (S23) → Int → Int → Int → Int → Option ((List (S23)) × Bool)
 | 0, _, _, _, _, _, _ => none
 | k + 1, x1, x6, x9, x10, x229000, x229001 => if x10 < x9 then ((impl_part.f k (wrap64 (x229000 + (wrap64 (x10 * x229001)))) (wrap64 (x229001 * x1))).bind fun bt232 => (if x6.length < 8796093022208 then (impl_roots.l0 k x1 (x6 ++ [(⟨bt232.1, bt232.2⟩ : S23)]) x9 (wrap64 (x10 + 1)) x229000 x229001) else (none))) else ((impl_areTurns.f k x6).bind fun t237 => (some (x6, t237)))
def impl_roots.f (k : Nat) (a0_0 : Int) (a0_1 : Int) (a1 : Int) : Option ((List (S23)) × Bool) := impl_roots.l0 k a1 (([] : List (S23))) a1 0 a0_0 a0_1
theorem impl_roots.mono_l : ∀ k, (∀ y0 y1 y2 y3 y4 y5, LeO (impl_roots.l0 k y0 y1 y2 y3 y4 y5) (impl_roots.l0 (k + 1) y0 y1 y2 y3 y4 y5))
 | 0 => fun _ _ _ _ _ _ r h => by simp [impl_roots.l0] at h
 | k + 1 => by
  have ih0 := impl_roots.mono_l k
  ·intro y0 y1 y2 y3 y4 y5
   unfold impl_roots.l0
   repeat' first
   | (with_reducible apply ih0)
   | (with_reducible exact impl_areTurns.mono _ _)
   | (with_reducible exact impl_part.mono _ _ _)
   | (with_reducible exact LeO.refl _)
   | (with_reducible exact LeO.none _)
   | (with_reducible refine LeO.ite ?_ ?_)
   | (with_reducible refine LeO.bind ?_ (fun _ => ?_))
   | apply ih0
   | exact impl_areTurns.mono _ _
   | exact impl_part.mono _ _ _
   | exact LeO.none _
   | refine LeO.ite ?_ ?_
   | refine LeO.bind ?_ (fun _ => ?_)
theorem impl_roots.mono : ∀ a0 a1 a2 k, LeO (impl_roots.f k a0 a1 a2) (impl_roots.f (k + 1) a0 a1 a2) := by
 intro a0 a1 a2 k
 have ih0 := impl_roots.mono_l k
 unfold impl_roots.f
 repeat' first
   | (with_reducible apply ih0)
   | (with_reducible exact impl_areTurns.mono _ _)
   | (with_reducible exact impl_part.mono _ _ _)
   | (with_reducible exact LeO.refl _)
   | (with_reducible exact LeO.none _)
   | (with_reducible refine LeO.ite ?_ ?_)
   | (with_reducible refine LeO.bind ?_ (fun _ => ?_))
   | apply ih0
   | exact impl_areTurns.mono _ _
   | exact impl_part.mono _ _ _
   | exact LeO.none _
   | refine LeO.ite ?_ ?_
   | refine LeO.bind ?_ (fun _ => ?_)
set_option maxHeartbeats 8000000 in
set_option maxRecDepth 100000 in
theorem impl_roots.calls (k : Nat) (a0_0 : Int) (a0_1 : Int) (a1 : Int) (r1 : List (S23)) (r2 : Bool) (w : World) (h : impl_roots.f k a0_0 a0_1 a1 = some (r1, r2)) :
  Calls Tryz.prog 37 #[.agg #[.int .i64 a0_0, .int .i64 a0_1], .int .i64 a1] w fun e w' => ∃ v0_ : Value, e = .returned (.tuple #[v0_, .bool r2]) ∧ Kd.R k23 23 w' w.heap.size (fun _ => True) v0_ r1 ∧ Below w.heap.size w w' := by
 have hu23 := Tryz.underlying23
 have HB := Am (Below.refl w.heap.size w)
 have H : (impl_roots.l0 k a1 (([] : List (S23))) a1 0 a0_0 a0_1) = some (r1, r2) := h
 clear h
 obtain ⟨y229, hy229⟩ : ∃ y_ : List (S23), y_ = (([] : List (S23))) := ⟨_, rfl⟩
 replace H : (impl_roots.l0 k a1 y229 a1 0 a0_0 a0_1) = some (r1, r2) := by first | (rw [hy229]; with_reducible exact H) | (have H2_ := (Option.bind_some _ _).symm.trans H; rw [hy229]; with_reducible exact H2_) | (have H2_ := (Option.bind_some _ _).symm.trans H; with_reducible exact H2_) | with_reducible exact H | (rw [hy229]; exact H) | exact H
 have Ny229 := Am hy229
 clear hy229
 have H' := Am H
 clear H
 go_enter Tryz.func37, Tryz.ntmps37
 go_wp2_with (first | ((with_reducible refine gate_dst (N := 2) rfl ?_); refine bE 2 #[.int .i64 a0_0, .int .i64 a0_1] 23 ?_; intro gb228 hg w3 hbox hb; have hv := vK HB hb; have n0_ := Am (bT hv hb); have n1_ := Am (hbox); have GE228 := kG hg hv; clear HB; have HB := n0_; have BK228 := n1_; clear n0_ n1_ hv; clear hb hbox hg) | ((with_reducible refine gate_dst (N := 8) rfl ?_); refine Kd.R_lit k23 _ 23 ?hg (N := 8) ?hd (xs := ([] : List (S23))) (inner := []) (ok := fun _ => True) (okp := fun _ => True) ?hr ?hp (fun _ hk => hk) trivial (Below.refl _ _) (Nat.le_refl _) (by simp) ?_; (case hd => rfl); (case hg => rfl); (case hr => first | (go_simp; done) | (go_simp; rfl)); (case hp => exact (Reps.none _ _)); intro v230 w4 ho5 hb hg_ hnew_; clear hg_ hnew_; (first | rw [← Ny229.out] at ho5 | (simp only [Int.reduceToNat] at ho5; rw [← Ny229.out] at ho5)); have n0_ := Am (Kd.R_lower (Kd.R_newB ho5 (g := gb228) (o := .cells #[.int .i64 a0_0, .int .i64 a0_1] 23 (0, 0)) (kU BK228)) (bZ (by repeat (first | (with_reducible first | exact HB.out | apply bA | apply bN | apply bD | refine bX ?_ (by assumption)) | exact HB.out)))); have hp0 := pA BK228 hb; have hv := vK HB hb; have n2_ := Am (bT hv hb); clear HB; have HO231 := n0_; replace BK228 := hp0 BK228; have HB := n2_; clear n0_ n2_ hp0 hv; clear hb ho5))
 go_loopg [6, 10] k (fun kq v6 v10 w' => ∃ (x6_1 : List (S23)) (x10_1 : Int), v10 = .int .i64 x10_1 ∧ Aside0 (impl_roots.l0 kq a1 x6_1 a1 x10_1 a0_0 a0_1 = some (r1, r2)) ∧ Aside0 (kq ≤ k) ∧ Aside0 (Kd.R k23 23 w' w.heap.size (fun k_ => k_ ≠ gb228) v6 x6_1) ∧ Aside0 (w'.heap[gb228]? = some (.cells #[.int .i64 a0_0, .int .i64 a0_1] 23 (0, 0))) ∧ Aside0 (Below w.heap.size w w'))
 case atStart => exact ⟨(y229), (0), (by first | rfl | (simp; done) | (simp [*]; done)), H', ⟨Nat.le_refl _⟩, ⟨by (with_reducible repeat (first | apply Kd.R_alloc | apply Kd.R_drewN | apply Kd.R_drew)); exact Kd.R_mono HO231.out (fun _ hk => hk.2)⟩, kV BK228, ⟨by repeat (first | (with_reducible first | exact HB.out | apply bA | apply bN | apply bD | refine bX ?_ (by assumption)) | exact HB.out)⟩⟩
 case round =>
  clear H'
  obtain ⟨x6_1, x10_1, rfl, HA, HK1, HO_6, BK228, HB⟩ := hrel
  cases gk with
  | zero => exact absurd HA.out (by simp [impl_roots.l0])
  | succ k1 =>
   have H := HA.out
   clear HA
   simp only [impl_roots.l0] at H
   by_cases c6 : x10_1 < a1
   ·rw [if_pos c6] at H
    have c6b0 : decide (x10_1 < a1) = true := decide_eq_true c6
    clear c6
    replace H := Option.bind_eq_some_iff.mp H
    obtain ⟨⟨t232, t233⟩, A70, H⟩ := H
    try dsimp only at H
    have A7 := Am A70
    clear A70
    by_cases c8 : x6_1.length < 8796093022208
    ·rw [if_pos c8] at H
     have LMc8 := Am c8
     clear c8
     obtain ⟨y234, hy234⟩ : ∃ y_ : List (S23), y_ = (x6_1 ++ [(⟨t232, t233⟩ : S23)]) := ⟨_, rfl⟩
     replace H : (impl_roots.l0 k1 a1 y234 a1 (wrap64 (x10_1 + 1)) a0_0 a0_1) = some (r1, r2) := by first | (rw [hy234]; with_reducible exact H) | (have H2_ := (Option.bind_some _ _).symm.trans H; rw [hy234]; with_reducible exact H2_) | (have H2_ := (Option.bind_some _ _).symm.trans H; with_reducible exact H2_) | with_reducible exact H | (rw [hy234]; exact H) | exact H
     have Ny234 := Am hy234
     clear hy234
     focus
      have H' := Am H
      clear H
      have zq9 := zc2 BK228
      go_wp2_with (first | ((with_reducible refine gate_callee (f := 40) rfl ?_); refine gL (some 25) Tryz.func40 #[.int .i64 (wrap64 (a0_0 + (wrap64 (x10_1 * a0_1)))), .int .i64 (wrap64 (a0_1 * a1))] rfl ?_; (with_reducible refine (impl_part.calls k1 (wrap64 (a0_0 + (wrap64 (x10_1 * a0_1)))) (wrap64 (a0_1 * a1)) t232 t233 _ A7.out).mono ?_); rintro e w10 ⟨rfl, hb⟩; refine ⟨_, rfl, ?_⟩; have n0_ := Am (Kd.R_below (kW HO_6) hb); have hp0 := pA BK228 hb; have hv := vK HB hb; have n2_ := Am (bT hv hb); clear HO_6; clear HB; have HO_6 := n0_; replace BK228 := hp0 BK228; have HB := n2_; clear n0_ n2_ hp0 hv; (try clear hb)) | ((with_reducible refine gate_builtin (b := .append) (xs := #[.tmp 13, .tmp 26]) rfl ?_); at_builtin; refine Kd.R_append k23 (w0 := w) w.heap.size rfl (.tmp 13) (.tmp 26) 28 23 (.agg #[(.int .i64 0), (.int .i64 0)]) 16 rfl Tryz.underlying28 info23 rfl (by decide) (by omega) u6 x6_1 (⟨t232, t233⟩ : S23) [.int .i64 t232, .int .i64 t233] (fun k_ => k_ ≠ gb228) (fun _ => False) rfl rfl ?aP (fun _ hk => hk.elim) ?aF ?aO ?aB ?aS ?aL ?_; (case aP => exact k23_mkM _ _ _ (⟨t232, t233⟩ : S23)); (case aB => exact (by repeat (first | (with_reducible first | exact HB.out | apply bA | apply bN | apply bD | refine bX ?_ (by assumption)) | exact HB.out))); (case aF => exact (fun k_ hk => Kd.freshB (g := gb228) (o := .cells #[.int .i64 a0_0, .int .i64 a0_1] 23 (0, 0)) (kU BK228) k_ hk)); (case aO => exact (kW HO_6)); (case aS => exact (bZ (by repeat (first | (with_reducible first | exact HB.out | apply bA | apply bN | apply bD | refine bX ?_ (by assumption)) | exact HB.out)))); (case aL => have := LMc8.out; omega); intro v235 w11 ho hb hg hat; rw [← Ny234.out] at ho; have n0_ := Am (blk_grown (g := gb228) (o := .cells #[.int .i64 a0_0, .int .i64 a0_1] 23 (0, 0)) (kU BK228) hg (Kd.R_away HO_6.out (fun _ hk => hk))); have n1_ := Am (hb); have n2_ := Am (ho); clear BK228; clear HB; clear HO_6; have BK228 := n0_; have HB := n1_; have HO236 := n2_; clear n0_ n1_ n2_; clear ho hb hg hat))
      go_roundg k1
      case measure => have := HK1.out; omega
      case rel => exact ⟨(y234), (wrap64 (x10_1 + 1)), (by first | rfl | (simp; done) | (simp [*]; done)), H', ⟨by have := HK1.out; omega⟩, ⟨kW HO236⟩, kV BK228, ⟨by repeat (first | (with_reducible first | exact HB.out | apply bA | apply bN | apply bD | refine bX ?_ (by assumption)) | exact HB.out)⟩⟩
    rw [if_neg c8] at H
    exact absurd H (by simp)
   rw [if_neg c6] at H
   have c6b0 : decide (x10_1 < a1) = false := decide_eq_false c6
   clear c6
   replace H := Option.bind_eq_some_iff.mp H
   obtain ⟨t237, A120, H⟩ := H
   try dsimp only at H
   have A12 := Am A120
   clear A120
   focus
    simp only [Option.some.injEq, Prod.mk.injEq] at H
    obtain ⟨rfl, rfl⟩ := H
    obtain ⟨Ao13, co13, eo13⟩ := Kd.R_slice HO_6.out
    subst eo13
    go_wp2_with (first | ((with_reducible refine gate_callee (f := 43) rfl ?_); refine gL (some 31) Tryz.func43 #[.slice Ao13 x6_1.length co13] rfl ?_; (with_reducible refine (impl_areTurns.calls k1 _ _ x6_1 t237 _ ?side1 ?side2 A12.out).mono ?_); (case side1 => repeat (first | exact (Kd.R_reads' HO_6.out).2.2 | (with_reducible refine Kd.C_alloc ?_ _) | (with_reducible refine Kd.C_drewN ?_ _) | (with_reducible refine Kd.C_drew ?_))); (case side2 => exact (Kd.R_reads' HO_6.out).2.1); rintro e w14 ⟨rfl, hb⟩; refine ⟨_, rfl, ?_⟩; have n0_ := Am (Kd.R_below (kW HO_6) hb); have hp0 := pA BK228 hb; have hv := vK HB hb; have n2_ := Am (bT hv hb); clear HO_6; clear HB; have HO_6 := n0_; replace BK228 := hp0 BK228; have HB := n2_; clear n0_ n2_ hp0 hv; (try clear hb)))
    go_ret2
    exact ⟨_, by first | rfl | (simp [errW_none, errW_some] <;> rfl) | (simp [*, errW_none, errW_some] <;> rfl), by (with_reducible repeat (first | apply Kd.R_alloc | apply Kd.R_drewN | apply Kd.R_drew)); exact Kd.R_mono HO_6.out (fun _ hk => trivial), by repeat (first | (with_reducible first | exact HB.out | apply bA | apply bN | apply bD | refine bX ?_ (by assumption)) | exact HB.out)⟩
end Go.Proofs.YtchglfpiicaedaaGreatDoor.PFnHandsStandOfAll
