-- WRITTEN BY A PROGRAM OF THIS SESSION (wip/tools): its own text, not the kit's printed one.
import Derived.Test.YtchglfpiicaedaaGreatDoorItoa
import Derived.Shelf.Strconv.Itoa3
import Derived.Lib.SmallJoins
import Derived.Lib.LaidTab
import Derived.Shelf.Strconv.ErrVarAll
import Derived.Shelf.Strings.Search3
import Derived.Lib.IndexLaws
import Derived.Lib.AtoiErrMem
import Derived.Test.YtchglfpiicaedaaGreatDoorPFnHandsStandOfAllx0
import Derived.Test.YtchglfpiicaedaaGreatDoorPFnHandsStandOfAllx1
import Derived.Test.YtchglfpiicaedaaGreatDoorPFnHandsStandOfAllx2
import Derived.Test.YtchglfpiicaedaaGreatDoorPFnHandsStandOfAllx3
import Derived.Test.YtchglfpiicaedaaGreatDoorPFnHandsStandOfAllx4
import Derived.Test.YtchglfpiicaedaaGreatDoorPFnHandsStandOfAllx5
import Derived.Test.YtchglfpiicaedaaGreatDoorPFnHandsStandOfAllx6
import Derived.Test.YtchglfpiicaedaaGreatDoorPFnHandsStandOfAllx7
import Derived.Test.YtchglfpiicaedaaGreatDoorPFnHandsStandOfAllx8
import Derived.Test.YtchglfpiicaedaaGreatDoorPFnHandsStandOfAllx9
import Derived.Test.YtchglfpiicaedaaGreatDoorPFnHandsStandOfAllx10
import Derived.Test.YtchglfpiicaedaaGreatDoorPFnHandsStandOfAllx12
import Derived.Test.YtchglfpiicaedaaGreatDoorPFnHandsStandOfAllx13c
import Derived.Deep.CutRange
namespace Go.Proofs.YtchglfpiicaedaaGreatDoor.PFnHandsStandOfAll
open Go.RowKit Go.Proofs.YtchglfpiicaedaaGreatDoorW.PrintWords Go.Proofs.YtchglfpiicaedaaGreatDoorW.PrintLast Go.Proofs.YtchglfpiicaedaaGreatDoorW.PrintMore
attribute [local go_sem] max2_int min2_int max_two min_two max_three min_three max_four min_four   -- for this text's walks alone
set_option linter.unusedVariables false
set_option linter.unusedSimpArgs false

attribute [local go_sem high] eqA23
theorem w64w (x : Int) : wrap64 (wrap64 x) = wrap64 x := by unfold wrap64; omega
set_option maxHeartbeats 8000000 in
set_option maxRecDepth 100000 in
theorem laws_FnHandsStandOfAll.calls (k : Nat) (a0 : Int) (a1_0 : Int) (a1_1 : Int) (a2 : Int) (a3 : Int) (a4 : Int) (a5 : Int) (a6 : Int) (a7 : ByteArray) (r : Bool) (w : World) (hlaw : Aside0 (r = true)) (htab_ : TabsAll w) (h : laws_FnHandsStandOfAll.f k a0 a1_0 a1_1 a2 a3 a4 a5 a6 a7 = some r) :
  Calls Tryz.prog 3 #[.int .i64 a0, .agg #[.int .i64 a1_0, .int .i64 a1_1], .int .i64 a2, .int .i64 a3, .int .i64 a4, .int .i64 a5, .int .i64 a6, .string a7] w fun e w' => e = .returned (.bool r) ∧ Below w.heap.size w w' := by
 have TABH_ := Am htab_
 clear htab_
 have hu23 := Tryz.underlying23
 have HB := Am (Below.refl w.heap.size w)
 have H : (if (a7.size : Int) > 1048576 then (some true) else ((impl_LongHand.f k a0 a1_0 a1_1).bind fun bt422 => ((spec_LongHand.f k a0 a1_0 a1_1).bind fun bt426 => ((impl_AngleOf.f k a0 a1_0 a1_1).bind fun bt430 => ((spec_AngleOf.f k a0 a1_0 a1_1).bind fun bt434 => ((impl_SmallAngle.f k a0 a1_0 a1_1).bind fun bt438 => ((spec_SmallAngle.f k a0 a1_0 a1_1).bind fun bt442 => ((impl_HourOf.f k a0 a1_0 a1_1).bind fun bt446 => ((spec_HourOf.f k a0 a1_0 a1_1).bind fun bt448 => ((impl_MinuteOf.f k a0 a1_0 a1_1).bind fun bt450 => ((spec_MinuteOf.f k a0 a1_0 a1_1).bind fun bt452 => ((impl_SecondOf.f k a0 a1_0 a1_1).bind fun bt454 => ((spec_SecondOf.f k a0 a1_0 a1_1).bind fun bt458 => ((impl_TimesWithLong.f k a0 a1_0 a1_1).bind fun bt462 => ((spec_TimesWithLong.f k a0 a1_0 a1_1).bind fun bt466 => ((impl_TimeText.f k a0 a1_0 a1_1).bind fun bt470 => ((spec_TimeText.f k a0 a1_0 a1_1).bind fun bt472 => (if (bt422.2.2 != bt426.2.2) = true then (laws_FnHandsStandOfAll.j0 k a0 a2 a3 a4 a5 a6 a7 bt422.2.2 bt446.1 bt450.1 bt462.1 bt462.2 bt470.1 true a1_0 a1_1 bt422.1 bt422.2.1 bt430.1 bt430.2.1 bt438.1 bt438.2.1 bt454.1 bt454.2.1) else (if (!(bt422.1 == bt426.1) || (!(bt422.2.1 == bt426.2.1))) = true then (laws_FnHandsStandOfAll.j0 k a0 a2 a3 a4 a5 a6 a7 bt422.2.2 bt446.1 bt450.1 bt462.1 bt462.2 bt470.1 true a1_0 a1_1 bt422.1 bt422.2.1 bt430.1 bt430.2.1 bt438.1 bt438.2.1 bt454.1 bt454.2.1) else (if (bt430.2.2 != bt434.2.2) = true then (laws_FnHandsStandOfAll.j0 k a0 a2 a3 a4 a5 a6 a7 bt422.2.2 bt446.1 bt450.1 bt462.1 bt462.2 bt470.1 true a1_0 a1_1 bt422.1 bt422.2.1 bt430.1 bt430.2.1 bt438.1 bt438.2.1 bt454.1 bt454.2.1) else (if (!(bt430.1 == bt434.1) || (!(bt430.2.1 == bt434.2.1))) = true then (laws_FnHandsStandOfAll.j0 k a0 a2 a3 a4 a5 a6 a7 bt422.2.2 bt446.1 bt450.1 bt462.1 bt462.2 bt470.1 true a1_0 a1_1 bt422.1 bt422.2.1 bt430.1 bt430.2.1 bt438.1 bt438.2.1 bt454.1 bt454.2.1) else (if (bt438.2.2 != bt442.2.2) = true then (laws_FnHandsStandOfAll.j0 k a0 a2 a3 a4 a5 a6 a7 bt422.2.2 bt446.1 bt450.1 bt462.1 bt462.2 bt470.1 true a1_0 a1_1 bt422.1 bt422.2.1 bt430.1 bt430.2.1 bt438.1 bt438.2.1 bt454.1 bt454.2.1) else (if (!(bt438.1 == bt442.1) || (!(bt438.2.1 == bt442.2.1))) = true then (laws_FnHandsStandOfAll.j0 k a0 a2 a3 a4 a5 a6 a7 bt422.2.2 bt446.1 bt450.1 bt462.1 bt462.2 bt470.1 true a1_0 a1_1 bt422.1 bt422.2.1 bt430.1 bt430.2.1 bt438.1 bt438.2.1 bt454.1 bt454.2.1) else (if (bt446.2 != bt448.2) = true then (laws_FnHandsStandOfAll.j0 k a0 a2 a3 a4 a5 a6 a7 bt422.2.2 bt446.1 bt450.1 bt462.1 bt462.2 bt470.1 true a1_0 a1_1 bt422.1 bt422.2.1 bt430.1 bt430.2.1 bt438.1 bt438.2.1 bt454.1 bt454.2.1) else (if bt446.1 = bt448.1 then (if (bt450.2 != bt452.2) = true then (laws_FnHandsStandOfAll.j0 k a0 a2 a3 a4 a5 a6 a7 bt422.2.2 bt446.1 bt450.1 bt462.1 bt462.2 bt470.1 true a1_0 a1_1 bt422.1 bt422.2.1 bt430.1 bt430.2.1 bt438.1 bt438.2.1 bt454.1 bt454.2.1) else (if bt450.1 = bt452.1 then (if (bt454.2.2 != bt458.2.2) = true then (laws_FnHandsStandOfAll.j0 k a0 a2 a3 a4 a5 a6 a7 bt422.2.2 bt446.1 bt450.1 bt462.1 bt462.2 bt470.1 true a1_0 a1_1 bt422.1 bt422.2.1 bt430.1 bt430.2.1 bt438.1 bt438.2.1 bt454.1 bt454.2.1) else (if (!(bt454.1 == bt458.1) || (!(bt454.2.1 == bt458.2.1))) = true then (laws_FnHandsStandOfAll.j0 k a0 a2 a3 a4 a5 a6 a7 bt422.2.2 bt446.1 bt450.1 bt462.1 bt462.2 bt470.1 true a1_0 a1_1 bt422.1 bt422.2.1 bt430.1 bt430.2.1 bt438.1 bt438.2.1 bt454.1 bt454.2.1) else (if (bt462.2 != bt466.2) = true then (laws_FnHandsStandOfAll.j0 k a0 a2 a3 a4 a5 a6 a7 bt422.2.2 bt446.1 bt450.1 bt462.1 bt462.2 bt470.1 true a1_0 a1_1 bt422.1 bt422.2.1 bt430.1 bt430.2.1 bt438.1 bt438.2.1 bt454.1 bt454.2.1) else ((laws_wTurns.f k bt462.1 bt466.1).bind fun t474 => (if t474 = true then (if (bt470.2 != bt472.2) = true then (laws_FnHandsStandOfAll.j0 k a0 a2 a3 a4 a5 a6 a7 bt422.2.2 bt446.1 bt450.1 bt462.1 bt462.2 bt470.1 true a1_0 a1_1 bt422.1 bt422.2.1 bt430.1 bt430.2.1 bt438.1 bt438.2.1 bt454.1 bt454.2.1) else (if bt470.1.toList = bt472.1.toList then (if (bt430.2.2 != bt422.2.2) = true then (laws_FnHandsStandOfAll.j0 k a0 a2 a3 a4 a5 a6 a7 bt422.2.2 bt446.1 bt450.1 bt462.1 bt462.2 bt470.1 true a1_0 a1_1 bt422.1 bt422.2.1 bt430.1 bt430.2.1 bt438.1 bt438.2.1 bt454.1 bt454.2.1) else (if (bt438.2.2 != bt422.2.2) = true then (laws_FnHandsStandOfAll.j0 k a0 a2 a3 a4 a5 a6 a7 bt422.2.2 bt446.1 bt450.1 bt462.1 bt462.2 bt470.1 true a1_0 a1_1 bt422.1 bt422.2.1 bt430.1 bt430.2.1 bt438.1 bt438.2.1 bt454.1 bt454.2.1) else (if (bt446.2 != bt422.2.2) = true then (laws_FnHandsStandOfAll.j0 k a0 a2 a3 a4 a5 a6 a7 bt422.2.2 bt446.1 bt450.1 bt462.1 bt462.2 bt470.1 true a1_0 a1_1 bt422.1 bt422.2.1 bt430.1 bt430.2.1 bt438.1 bt438.2.1 bt454.1 bt454.2.1) else (if (bt450.2 != bt422.2.2) = true then (laws_FnHandsStandOfAll.j0 k a0 a2 a3 a4 a5 a6 a7 bt422.2.2 bt446.1 bt450.1 bt462.1 bt462.2 bt470.1 true a1_0 a1_1 bt422.1 bt422.2.1 bt430.1 bt430.2.1 bt438.1 bt438.2.1 bt454.1 bt454.2.1) else (if (bt454.2.2 != bt422.2.2) = true then (laws_FnHandsStandOfAll.j0 k a0 a2 a3 a4 a5 a6 a7 bt422.2.2 bt446.1 bt450.1 bt462.1 bt462.2 bt470.1 true a1_0 a1_1 bt422.1 bt422.2.1 bt430.1 bt430.2.1 bt438.1 bt438.2.1 bt454.1 bt454.2.1) else (if (bt470.2 != bt422.2.2) = true then (laws_FnHandsStandOfAll.j0 k a0 a2 a3 a4 a5 a6 a7 bt422.2.2 bt446.1 bt450.1 bt462.1 bt462.2 bt470.1 true a1_0 a1_1 bt422.1 bt422.2.1 bt430.1 bt430.2.1 bt438.1 bt438.2.1 bt454.1 bt454.2.1) else (if bt462.2 = true then (laws_FnHandsStandOfAll.j0 k a0 a2 a3 a4 a5 a6 a7 bt422.2.2 bt446.1 bt450.1 bt462.1 bt462.2 bt470.1 (!bt422.2.2) a1_0 a1_1 bt422.1 bt422.2.1 bt430.1 bt430.2.1 bt438.1 bt438.2.1 bt454.1 bt454.2.1) else (laws_FnHandsStandOfAll.j0 k a0 a2 a3 a4 a5 a6 a7 bt422.2.2 bt446.1 bt450.1 bt462.1 bt462.2 bt470.1 false a1_0 a1_1 bt422.1 bt422.2.1 bt430.1 bt430.2.1 bt438.1 bt438.2.1 bt454.1 bt454.2.1)))))))) else (laws_FnHandsStandOfAll.j0 k a0 a2 a3 a4 a5 a6 a7 bt422.2.2 bt446.1 bt450.1 bt462.1 bt462.2 bt470.1 true a1_0 a1_1 bt422.1 bt422.2.1 bt430.1 bt430.2.1 bt438.1 bt438.2.1 bt454.1 bt454.2.1))) else (laws_FnHandsStandOfAll.j0 k a0 a2 a3 a4 a5 a6 a7 bt422.2.2 bt446.1 bt450.1 bt462.1 bt462.2 bt470.1 true a1_0 a1_1 bt422.1 bt422.2.1 bt430.1 bt430.2.1 bt438.1 bt438.2.1 bt454.1 bt454.2.1)))))) else (laws_FnHandsStandOfAll.j0 k a0 a2 a3 a4 a5 a6 a7 bt422.2.2 bt446.1 bt450.1 bt462.1 bt462.2 bt470.1 true a1_0 a1_1 bt422.1 bt422.2.1 bt430.1 bt430.2.1 bt438.1 bt438.2.1 bt454.1 bt454.2.1))) else (laws_FnHandsStandOfAll.j0 k a0 a2 a3 a4 a5 a6 a7 bt422.2.2 bt446.1 bt450.1 bt462.1 bt462.2 bt470.1 true a1_0 a1_1 bt422.1 bt422.2.1 bt430.1 bt430.2.1 bt438.1 bt438.2.1 bt454.1 bt454.2.1)))))))))))))))))))))))))) = some r := h
 clear h
 by_cases c9 : (a7.size : Int) > 1048576
 ·rw [if_pos c9] at H
  have c9b0 : decide (1048576 < (a7.size : Int)) = true := decide_eq_true c9
  have c9b1 : decide (1048576 < a7.size) = true := decide_eq_true (by omega)
  clear c9
  as_aux_lemma =>
   obtain rfl := Option.some.inj H
   go_enter Tryz.func3, Tryz.ntmps3
   go_wp2_with (first | ((with_reducible refine gate_dst (N := 9) rfl ?_); refine bE 9 #[.int .i64 a1_0, .int .i64 a1_1] 23 ?_; intro gb421 hg w10 hbox hb; have hv := vK HB hb; have n0_ := Am (bT hv hb); have n1_ := Am (hbox); have GE421 := kG hg hv; clear HB; have HB := n0_; have BK421 := n1_; clear n0_ n1_ hv; clear hb hbox hg))
   go_ret
   exact ⟨by first | rfl | (simp [errW_none, errW_some] <;> rfl) | (simp [*, errW_none, errW_some] <;> rfl), by repeat (first | (with_reducible first | exact HB.out | apply bA | apply bN | apply bD | refine bX ?_ (by assumption)) | exact HB.out)⟩
 rw [if_neg c9] at H
 have c9b0 : decide (1048576 < (a7.size : Int)) = false := decide_eq_false c9
 have c9b1 : decide (1048576 < a7.size) = false := decide_eq_false (by omega)
 clear c9
 replace H := Option.bind_eq_some_iff.mp H
 obtain ⟨⟨t422, t423, t424⟩, A110, H⟩ := H
 try dsimp only at H
 have A11 := Am A110
 clear A110
 replace H := Option.bind_eq_some_iff.mp H
 obtain ⟨⟨t426, t427, t428⟩, A120, H⟩ := H
 try dsimp only at H
 have A12 := Am A120
 clear A120
 replace H := Option.bind_eq_some_iff.mp H
 obtain ⟨⟨t430, t431, t432⟩, A130, H⟩ := H
 try dsimp only at H
 have A13 := Am A130
 clear A130
 replace H := Option.bind_eq_some_iff.mp H
 obtain ⟨⟨t434, t435, t436⟩, A140, H⟩ := H
 try dsimp only at H
 have A14 := Am A140
 clear A140
 replace H := Option.bind_eq_some_iff.mp H
 obtain ⟨⟨t438, t439, t440⟩, A150, H⟩ := H
 try dsimp only at H
 have A15 := Am A150
 clear A150
 replace H := Option.bind_eq_some_iff.mp H
 obtain ⟨⟨t442, t443, t444⟩, A160, H⟩ := H
 try dsimp only at H
 have A16 := Am A160
 clear A160
 replace H := Option.bind_eq_some_iff.mp H
 obtain ⟨⟨t446, t447⟩, A170, H⟩ := H
 try dsimp only at H
 have A17 := Am A170
 clear A170
 replace H := Option.bind_eq_some_iff.mp H
 obtain ⟨⟨t448, t449⟩, A180, H⟩ := H
 try dsimp only at H
 have A18 := Am A180
 clear A180
 replace H := Option.bind_eq_some_iff.mp H
 obtain ⟨⟨t450, t451⟩, A190, H⟩ := H
 try dsimp only at H
 have A19 := Am A190
 clear A190
 replace H := Option.bind_eq_some_iff.mp H
 obtain ⟨⟨t452, t453⟩, A200, H⟩ := H
 try dsimp only at H
 have A20 := Am A200
 clear A200
 replace H := Option.bind_eq_some_iff.mp H
 obtain ⟨⟨t454, t455, t456⟩, A210, H⟩ := H
 try dsimp only at H
 have A21 := Am A210
 clear A210
 replace H := Option.bind_eq_some_iff.mp H
 obtain ⟨⟨t458, t459, t460⟩, A220, H⟩ := H
 try dsimp only at H
 have A22 := Am A220
 clear A220
 replace H := Option.bind_eq_some_iff.mp H
 obtain ⟨⟨t462, t465⟩, A230, H⟩ := H
 try dsimp only at H
 have A23 := Am A230
 clear A230
 replace H := Option.bind_eq_some_iff.mp H
 obtain ⟨⟨t466, t469⟩, A240, H⟩ := H
 try dsimp only at H
 have A24 := Am A240
 clear A240
 replace H := Option.bind_eq_some_iff.mp H
 obtain ⟨⟨t470, t471⟩, A250, H⟩ := H
 try dsimp only at H
 have A25 := Am A250
 clear A250
 replace H := Option.bind_eq_some_iff.mp H
 obtain ⟨⟨t472, t473⟩, A260, H⟩ := H
 try dsimp only at H
 have A26 := Am A260
 clear A260
 have HC27 := Am H
 clear H
 go_enter Tryz.func3, Tryz.ntmps3
 go_upto_region 19 with (first | ((with_reducible refine gate_dst (N := 9) rfl ?_); refine bE 9 #[.int .i64 a1_0, .int .i64 a1_1] 23 ?_; intro gb421 hg w28 hbox hb; have hv := vK HB hb; have n0_ := Am (bT hv hb); have n1_ := Am (hbox); have GE421 := kG hg hv; clear HB; have HB := n0_; have BK421 := n1_; clear n0_ n1_ hv; clear hb hbox hg; have zq29 := zc2 BK421) | ((with_reducible refine gate_callee (f := 4) rfl ?_); refine gL (some 80) Tryz.func4 #[.int .i64 a0, .agg #[.int .i64 a1_0, .int .i64 a1_1]] rfl ?_; (with_reducible refine (impl_LongHand.calls k a0 a1_0 a1_1 t422 t423 t424 _ A11.out).mono ?_); rintro e w30 ⟨rfl, hb⟩; refine ⟨_, rfl, ?_⟩; have hp0 := pA BK421 hb; have hv := vK HB hb; have n1_ := Am (bT hv hb); clear HB; replace BK421 := hp0 BK421; have HB := n1_; clear n1_ hp0 hv; (try clear hb)) | ((with_reducible refine gate_dst (N := 17) rfl ?_); refine bE 17 #[.int .i64 0, .int .i64 0] 23 ?_; intro gb425 hg w31 hbox hb; have hp0 := pA BK421 hb; have hv := vK HB hb; have n1_ := Am (bT hv hb); have n2_ := Am (hbox); have GE425 := kG hg hv; have hp1 := pK BK421 hb; obtain ⟨NB421_425, NB425_421⟩ := kXY hg hp1 BK421; clear HB; replace BK421 := hp0 BK421; have HB := n1_; have BK425 := n2_; clear n1_ n2_ hp0 hp1 hv; clear hb hbox hg; have nq32 := kO NB425_421; have zq33 := zc2 BK425; have zq34 := zc2 BK421) | ((with_reducible refine gate_callee (f := 5) rfl ?_); refine gL (some 86) Tryz.func5 #[.int .i64 a0, .agg #[.int .i64 a1_0, .int .i64 a1_1]] rfl ?_; (with_reducible refine (spec_LongHand.calls k a0 a1_0 a1_1 t426 t427 t428 _ A12.out).mono ?_); rintro e w35 ⟨rfl, hb⟩; refine ⟨_, rfl, ?_⟩; have hp0 := pB gb425 BK421 hb; have n1_ := Am (kB (g := gb425) (o := .cells #[.int .i64 t422, .int .i64 t423] 23 (0, 0)) (by (with_reducible repeat (first | refine kN ?_ _ | refine kD ?_ | refine kA ?_ _)); refine kP (cs := #[.int .i64 t422, .int .i64 0]) ?_ 1 _ rfl; (with_reducible repeat (first | refine kN ?_ _ | refine kD ?_ | refine kA ?_ _)); refine kP (cs := #[.int .i64 0, .int .i64 0]) ?_ 0 _ rfl; (with_reducible repeat (first | refine kN ?_ _ | refine kD ?_ | refine kA ?_ _)); exact BK425.out) hb); have hv := vK HB hb; have n2_ := Am (bT hv hb); clear BK425; clear HB; replace BK421 := hp0 NB421_425 BK421; have BK425 := n1_; have HB := n2_; clear n1_ n2_ hp0 hv; (try clear hb)) | ((with_reducible refine gate_dst (N := 19) rfl ?_); refine bE 19 #[.int .i64 0, .int .i64 0] 23 ?_; intro gb429 hg w36 hbox hb; have hp0 := pA BK421 hb; have hv := vK HB hb; have n2_ := Am (bT hv hb); have n3_ := Am (hbox); have GE429 := kG hg hv; have hp1 := pK BK421 hb; obtain ⟨NB421_429, NB429_421⟩ := kXY hg hp1 BK421; obtain ⟨NB425_429, NB429_425⟩ := kXY hg hp1 BK425; clear HB; replace BK421 := hp0 BK421; replace BK425 := hp0 BK425; have HB := n2_; have BK429 := n3_; clear n2_ n3_ hp0 hp1 hv; clear hb hbox hg; have nq37 := kO NB429_421; have nq38 := kO NB429_425; have zq39 := zc2 BK429; have zq40 := zc2 BK421) | ((with_reducible refine gate_callee (f := 6) rfl ?_); refine gL (some 92) Tryz.func6 #[.int .i64 a0, .agg #[.int .i64 a1_0, .int .i64 a1_1]] rfl ?_; (with_reducible refine (impl_AngleOf.calls k a0 a1_0 a1_1 t430 t431 t432 _ A13.out).mono ?_); rintro e w41 ⟨rfl, hb⟩; refine ⟨_, rfl, ?_⟩; have hp0 := pB gb429 BK421 hb; have n2_ := Am (kB (g := gb429) (o := .cells #[.int .i64 t426, .int .i64 t427] 23 (0, 0)) (by (with_reducible repeat (first | refine kN ?_ _ | refine kD ?_ | refine kA ?_ _)); refine kP (cs := #[.int .i64 t426, .int .i64 0]) ?_ 1 _ rfl; (with_reducible repeat (first | refine kN ?_ _ | refine kD ?_ | refine kA ?_ _)); refine kP (cs := #[.int .i64 0, .int .i64 0]) ?_ 0 _ rfl; (with_reducible repeat (first | refine kN ?_ _ | refine kD ?_ | refine kA ?_ _)); exact BK429.out) hb); have hv := vK HB hb; have n3_ := Am (bT hv hb); clear BK429; clear HB; replace BK421 := hp0 NB421_429 BK421; replace BK425 := hp0 NB425_429 BK425; have BK429 := n2_; have HB := n3_; clear n2_ n3_ hp0 hv; (try clear hb)) | ((with_reducible refine gate_dst (N := 21) rfl ?_); refine bE 21 #[.int .i64 0, .int .i64 0] 23 ?_; intro gb433 hg w42 hbox hb; have hp0 := pA BK421 hb; have hv := vK HB hb; have n3_ := Am (bT hv hb); have n4_ := Am (hbox); have GE433 := kG hg hv; have hp1 := pK BK421 hb; obtain ⟨NB421_433, NB433_421⟩ := kXY hg hp1 BK421; obtain ⟨NB425_433, NB433_425⟩ := kXY hg hp1 BK425; obtain ⟨NB429_433, NB433_429⟩ := kXY hg hp1 BK429; clear HB; replace BK421 := hp0 BK421; replace BK425 := hp0 BK425; replace BK429 := hp0 BK429; have HB := n3_; have BK433 := n4_; clear n3_ n4_ hp0 hp1 hv; clear hb hbox hg; have nq43 := kO NB433_421; have nq44 := kO NB433_425; have nq45 := kO NB433_429; have zq46 := zc2 BK433; have zq47 := zc2 BK421) | ((with_reducible refine gate_callee (f := 7) rfl ?_); refine gL (some 98) Tryz.func7 #[.int .i64 a0, .agg #[.int .i64 a1_0, .int .i64 a1_1]] rfl ?_; (with_reducible refine (spec_AngleOf.calls k a0 a1_0 a1_1 t434 t435 t436 _ A14.out).mono ?_); rintro e w48 ⟨rfl, hb⟩; refine ⟨_, rfl, ?_⟩; have hp0 := pB gb433 BK421 hb; have n3_ := Am (kB (g := gb433) (o := .cells #[.int .i64 t430, .int .i64 t431] 23 (0, 0)) (by (with_reducible repeat (first | refine kN ?_ _ | refine kD ?_ | refine kA ?_ _)); refine kP (cs := #[.int .i64 t430, .int .i64 0]) ?_ 1 _ rfl; (with_reducible repeat (first | refine kN ?_ _ | refine kD ?_ | refine kA ?_ _)); refine kP (cs := #[.int .i64 0, .int .i64 0]) ?_ 0 _ rfl; (with_reducible repeat (first | refine kN ?_ _ | refine kD ?_ | refine kA ?_ _)); exact BK433.out) hb); have hv := vK HB hb; have n4_ := Am (bT hv hb); clear BK433; clear HB; replace BK421 := hp0 NB421_433 BK421; replace BK425 := hp0 NB425_433 BK425; replace BK429 := hp0 NB429_433 BK429; have BK433 := n3_; have HB := n4_; clear n3_ n4_ hp0 hv; (try clear hb)) | ((with_reducible refine gate_dst (N := 23) rfl ?_); refine bE 23 #[.int .i64 0, .int .i64 0] 23 ?_; intro gb437 hg w49 hbox hb; have hp0 := pA BK421 hb; have hv := vK HB hb; have n4_ := Am (bT hv hb); have n5_ := Am (hbox); have GE437 := kG hg hv; have hp1 := pK BK421 hb; obtain ⟨NB421_437, NB437_421⟩ := kXY hg hp1 BK421; obtain ⟨NB425_437, NB437_425⟩ := kXY hg hp1 BK425; obtain ⟨NB429_437, NB437_429⟩ := kXY hg hp1 BK429; obtain ⟨NB433_437, NB437_433⟩ := kXY hg hp1 BK433; clear HB; replace BK421 := hp0 BK421; replace BK425 := hp0 BK425; replace BK429 := hp0 BK429; replace BK433 := hp0 BK433; have HB := n4_; have BK437 := n5_; clear n4_ n5_ hp0 hp1 hv; clear hb hbox hg; have nq50 := kO NB437_421; have nq51 := kO NB437_425; have nq52 := kO NB437_429; have nq53 := kO NB437_433; have zq54 := zc2 BK437; have zq55 := zc2 BK421) | ((with_reducible refine gate_callee (f := 8) rfl ?_); refine gL (some 104) Tryz.func8 #[.int .i64 a0, .agg #[.int .i64 a1_0, .int .i64 a1_1]] rfl ?_; (with_reducible refine (impl_SmallAngle.calls k a0 a1_0 a1_1 t438 t439 t440 _ A15.out).mono ?_); rintro e w56 ⟨rfl, hb⟩; refine ⟨_, rfl, ?_⟩; have hp0 := pB gb437 BK421 hb; have n4_ := Am (kB (g := gb437) (o := .cells #[.int .i64 t434, .int .i64 t435] 23 (0, 0)) (by (with_reducible repeat (first | refine kN ?_ _ | refine kD ?_ | refine kA ?_ _)); refine kP (cs := #[.int .i64 t434, .int .i64 0]) ?_ 1 _ rfl; (with_reducible repeat (first | refine kN ?_ _ | refine kD ?_ | refine kA ?_ _)); refine kP (cs := #[.int .i64 0, .int .i64 0]) ?_ 0 _ rfl; (with_reducible repeat (first | refine kN ?_ _ | refine kD ?_ | refine kA ?_ _)); exact BK437.out) hb); have hv := vK HB hb; have n5_ := Am (bT hv hb); clear BK437; clear HB; replace BK421 := hp0 NB421_437 BK421; replace BK425 := hp0 NB425_437 BK425; replace BK429 := hp0 NB429_437 BK429; replace BK433 := hp0 NB433_437 BK433; have BK437 := n4_; have HB := n5_; clear n4_ n5_ hp0 hv; (try clear hb)) | ((with_reducible refine gate_dst (N := 25) rfl ?_); refine bE 25 #[.int .i64 0, .int .i64 0] 23 ?_; intro gb441 hg w57 hbox hb; have hp0 := pA BK421 hb; have hv := vK HB hb; have n5_ := Am (bT hv hb); have n6_ := Am (hbox); have GE441 := kG hg hv; have hp1 := pK BK421 hb; obtain ⟨NB421_441, NB441_421⟩ := kXY hg hp1 BK421; obtain ⟨NB425_441, NB441_425⟩ := kXY hg hp1 BK425; obtain ⟨NB429_441, NB441_429⟩ := kXY hg hp1 BK429; obtain ⟨NB433_441, NB441_433⟩ := kXY hg hp1 BK433; obtain ⟨NB437_441, NB441_437⟩ := kXY hg hp1 BK437; clear HB; replace BK421 := hp0 BK421; replace BK425 := hp0 BK425; replace BK429 := hp0 BK429; replace BK433 := hp0 BK433; replace BK437 := hp0 BK437; have HB := n5_; have BK441 := n6_; clear n5_ n6_ hp0 hp1 hv; clear hb hbox hg; have nq58 := kO NB441_421; have nq59 := kO NB441_425; have nq60 := kO NB441_429; have nq61 := kO NB441_433; have nq62 := kO NB441_437; have zq63 := zc2 BK441; have zq64 := zc2 BK421) | ((with_reducible refine gate_callee (f := 9) rfl ?_); refine gL (some 110) Tryz.func9 #[.int .i64 a0, .agg #[.int .i64 a1_0, .int .i64 a1_1]] rfl ?_; (with_reducible refine (spec_SmallAngle.calls k a0 a1_0 a1_1 t442 t443 t444 _ A16.out).mono ?_); rintro e w65 ⟨rfl, hb⟩; refine ⟨_, rfl, ?_⟩; have hp0 := pB gb441 BK421 hb; have n5_ := Am (kB (g := gb441) (o := .cells #[.int .i64 t438, .int .i64 t439] 23 (0, 0)) (by (with_reducible repeat (first | refine kN ?_ _ | refine kD ?_ | refine kA ?_ _)); refine kP (cs := #[.int .i64 t438, .int .i64 0]) ?_ 1 _ rfl; (with_reducible repeat (first | refine kN ?_ _ | refine kD ?_ | refine kA ?_ _)); refine kP (cs := #[.int .i64 0, .int .i64 0]) ?_ 0 _ rfl; (with_reducible repeat (first | refine kN ?_ _ | refine kD ?_ | refine kA ?_ _)); exact BK441.out) hb); have hv := vK HB hb; have n6_ := Am (bT hv hb); clear BK441; clear HB; replace BK421 := hp0 NB421_441 BK421; replace BK425 := hp0 NB425_441 BK425; replace BK429 := hp0 NB429_441 BK429; replace BK433 := hp0 NB433_441 BK433; replace BK437 := hp0 NB437_441 BK437; have BK441 := n5_; have HB := n6_; clear n5_ n6_ hp0 hv; (try clear hb)) | ((with_reducible refine gate_dst (N := 27) rfl ?_); refine bE 27 #[.int .i64 0, .int .i64 0] 23 ?_; intro gb445 hg w66 hbox hb; have hp0 := pA BK421 hb; have hv := vK HB hb; have n6_ := Am (bT hv hb); have n7_ := Am (hbox); have GE445 := kG hg hv; have hp1 := pK BK421 hb; obtain ⟨NB421_445, NB445_421⟩ := kXY hg hp1 BK421; obtain ⟨NB425_445, NB445_425⟩ := kXY hg hp1 BK425; obtain ⟨NB429_445, NB445_429⟩ := kXY hg hp1 BK429; obtain ⟨NB433_445, NB445_433⟩ := kXY hg hp1 BK433; obtain ⟨NB437_445, NB445_437⟩ := kXY hg hp1 BK437; obtain ⟨NB441_445, NB445_441⟩ := kXY hg hp1 BK441; clear HB; replace BK421 := hp0 BK421; replace BK425 := hp0 BK425; replace BK429 := hp0 BK429; replace BK433 := hp0 BK433; replace BK437 := hp0 BK437; replace BK441 := hp0 BK441; have HB := n6_; have BK445 := n7_; clear n6_ n7_ hp0 hp1 hv; clear hb hbox hg; have nq67 := kO NB445_421; have nq68 := kO NB445_425; have nq69 := kO NB445_429; have nq70 := kO NB445_433; have nq71 := kO NB445_437; have nq72 := kO NB445_441; have zq73 := zc2 BK445; have zq74 := zc2 BK421) | ((with_reducible refine gate_callee (f := 10) rfl ?_); refine gL (some 116) Tryz.func10 #[.int .i64 a0, .agg #[.int .i64 a1_0, .int .i64 a1_1]] rfl ?_; (with_reducible refine (impl_HourOf.calls k a0 a1_0 a1_1 t446 t447 _ A17.out).mono ?_); rintro e w75 ⟨rfl, hb⟩; refine ⟨_, rfl, ?_⟩; have hp0 := pB gb445 BK421 hb; have n6_ := Am (kB (g := gb445) (o := .cells #[.int .i64 t442, .int .i64 t443] 23 (0, 0)) (by (with_reducible repeat (first | refine kN ?_ _ | refine kD ?_ | refine kA ?_ _)); refine kP (cs := #[.int .i64 t442, .int .i64 0]) ?_ 1 _ rfl; (with_reducible repeat (first | refine kN ?_ _ | refine kD ?_ | refine kA ?_ _)); refine kP (cs := #[.int .i64 0, .int .i64 0]) ?_ 0 _ rfl; (with_reducible repeat (first | refine kN ?_ _ | refine kD ?_ | refine kA ?_ _)); exact BK445.out) hb); have hv := vK HB hb; have n7_ := Am (bT hv hb); clear BK445; clear HB; replace BK421 := hp0 NB421_445 BK421; replace BK425 := hp0 NB425_445 BK425; replace BK429 := hp0 NB429_445 BK429; replace BK433 := hp0 NB433_445 BK433; replace BK437 := hp0 NB437_445 BK437; replace BK441 := hp0 NB441_445 BK441; have BK445 := n6_; have HB := n7_; clear n6_ n7_ hp0 hv; (try clear hb); have zq76 := zc2 BK421) | ((with_reducible refine gate_callee (f := 11) rfl ?_); refine gL (some 122) Tryz.func11 #[.int .i64 a0, .agg #[.int .i64 a1_0, .int .i64 a1_1]] rfl ?_; (with_reducible refine (spec_HourOf.calls k a0 a1_0 a1_1 t448 t449 _ A18.out).mono ?_); rintro e w77 ⟨rfl, hb⟩; refine ⟨_, rfl, ?_⟩; have hp0 := pA BK421 hb; have hv := vK HB hb; have n7_ := Am (bT hv hb); clear HB; replace BK421 := hp0 BK421; replace BK425 := hp0 BK425; replace BK429 := hp0 BK429; replace BK433 := hp0 BK433; replace BK437 := hp0 BK437; replace BK441 := hp0 BK441; replace BK445 := hp0 BK445; have HB := n7_; clear n7_ hp0 hv; (try clear hb); have zq78 := zc2 BK421) | ((with_reducible refine gate_callee (f := 12) rfl ?_); refine gL (some 128) Tryz.func12 #[.int .i64 a0, .agg #[.int .i64 a1_0, .int .i64 a1_1]] rfl ?_; (with_reducible refine (impl_MinuteOf.calls k a0 a1_0 a1_1 t450 t451 _ A19.out).mono ?_); rintro e w79 ⟨rfl, hb⟩; refine ⟨_, rfl, ?_⟩; have hp0 := pA BK421 hb; have hv := vK HB hb; have n7_ := Am (bT hv hb); clear HB; replace BK421 := hp0 BK421; replace BK425 := hp0 BK425; replace BK429 := hp0 BK429; replace BK433 := hp0 BK433; replace BK437 := hp0 BK437; replace BK441 := hp0 BK441; replace BK445 := hp0 BK445; have HB := n7_; clear n7_ hp0 hv; (try clear hb); have zq80 := zc2 BK421) | ((with_reducible refine gate_callee (f := 13) rfl ?_); refine gL (some 134) Tryz.func13 #[.int .i64 a0, .agg #[.int .i64 a1_0, .int .i64 a1_1]] rfl ?_; (with_reducible refine (spec_MinuteOf.calls k a0 a1_0 a1_1 t452 t453 _ A20.out).mono ?_); rintro e w81 ⟨rfl, hb⟩; refine ⟨_, rfl, ?_⟩; have hp0 := pA BK421 hb; have hv := vK HB hb; have n7_ := Am (bT hv hb); clear HB; replace BK421 := hp0 BK421; replace BK425 := hp0 BK425; replace BK429 := hp0 BK429; replace BK433 := hp0 BK433; replace BK437 := hp0 BK437; replace BK441 := hp0 BK441; replace BK445 := hp0 BK445; have HB := n7_; clear n7_ hp0 hv; (try clear hb); have zq82 := zc2 BK421) | ((with_reducible refine gate_callee (f := 14) rfl ?_); refine gL (some 140) Tryz.func14 #[.int .i64 a0, .agg #[.int .i64 a1_0, .int .i64 a1_1]] rfl ?_; (with_reducible refine (impl_SecondOf.calls k a0 a1_0 a1_1 t454 t455 t456 _ A21.out).mono ?_); rintro e w83 ⟨rfl, hb⟩; refine ⟨_, rfl, ?_⟩; have hp0 := pA BK421 hb; have hv := vK HB hb; have n7_ := Am (bT hv hb); clear HB; replace BK421 := hp0 BK421; replace BK425 := hp0 BK425; replace BK429 := hp0 BK429; replace BK433 := hp0 BK433; replace BK437 := hp0 BK437; replace BK441 := hp0 BK441; replace BK445 := hp0 BK445; have HB := n7_; clear n7_ hp0 hv; (try clear hb)) | ((with_reducible refine gate_dst (N := 37) rfl ?_); refine bE 37 #[.int .i64 0, .int .i64 0] 23 ?_; intro gb457 hg w84 hbox hb; have hp0 := pA BK421 hb; have hv := vK HB hb; have n7_ := Am (bT hv hb); have n8_ := Am (hbox); have GE457 := kG hg hv; have hp1 := pK BK421 hb; obtain ⟨NB421_457, NB457_421⟩ := kXY hg hp1 BK421; obtain ⟨NB425_457, NB457_425⟩ := kXY hg hp1 BK425; obtain ⟨NB429_457, NB457_429⟩ := kXY hg hp1 BK429; obtain ⟨NB433_457, NB457_433⟩ := kXY hg hp1 BK433; obtain ⟨NB437_457, NB457_437⟩ := kXY hg hp1 BK437; obtain ⟨NB441_457, NB457_441⟩ := kXY hg hp1 BK441; obtain ⟨NB445_457, NB457_445⟩ := kXY hg hp1 BK445; clear HB; replace BK421 := hp0 BK421; replace BK425 := hp0 BK425; replace BK429 := hp0 BK429; replace BK433 := hp0 BK433; replace BK437 := hp0 BK437; replace BK441 := hp0 BK441; replace BK445 := hp0 BK445; have HB := n7_; have BK457 := n8_; clear n7_ n8_ hp0 hp1 hv; clear hb hbox hg; have nq85 := kO NB457_421; have nq86 := kO NB457_425; have nq87 := kO NB457_429; have nq88 := kO NB457_433; have nq89 := kO NB457_437; have nq90 := kO NB457_441; have nq91 := kO NB457_445; have zq92 := zc2 BK457; have zq93 := zc2 BK421) | ((with_reducible refine gate_callee (f := 15) rfl ?_); refine gL (some 146) Tryz.func15 #[.int .i64 a0, .agg #[.int .i64 a1_0, .int .i64 a1_1]] rfl ?_; (with_reducible refine (spec_SecondOf.calls k a0 a1_0 a1_1 t458 t459 t460 _ A22.out).mono ?_); rintro e w94 ⟨rfl, hb⟩; refine ⟨_, rfl, ?_⟩; have hp0 := pB gb457 BK421 hb; have n7_ := Am (kB (g := gb457) (o := .cells #[.int .i64 t454, .int .i64 t455] 23 (0, 0)) (by (with_reducible repeat (first | refine kN ?_ _ | refine kD ?_ | refine kA ?_ _)); refine kP (cs := #[.int .i64 t454, .int .i64 0]) ?_ 1 _ rfl; (with_reducible repeat (first | refine kN ?_ _ | refine kD ?_ | refine kA ?_ _)); refine kP (cs := #[.int .i64 0, .int .i64 0]) ?_ 0 _ rfl; (with_reducible repeat (first | refine kN ?_ _ | refine kD ?_ | refine kA ?_ _)); exact BK457.out) hb); have hv := vK HB hb; have n8_ := Am (bT hv hb); clear BK457; clear HB; replace BK421 := hp0 NB421_457 BK421; replace BK425 := hp0 NB425_457 BK425; replace BK429 := hp0 NB429_457 BK429; replace BK433 := hp0 NB433_457 BK433; replace BK437 := hp0 NB437_457 BK437; replace BK441 := hp0 NB441_457 BK441; replace BK445 := hp0 NB445_457 BK445; have BK457 := n7_; have HB := n8_; clear n7_ n8_ hp0 hv; (try clear hb)) | ((with_reducible refine gate_dst (N := 39) rfl ?_); refine bE 39 #[.int .i64 0, .int .i64 0] 23 ?_; intro gb461 hg w95 hbox hb; have hp0 := pA BK421 hb; have hv := vK HB hb; have n8_ := Am (bT hv hb); have n9_ := Am (hbox); have GE461 := kG hg hv; have hp1 := pK BK421 hb; obtain ⟨NB421_461, NB461_421⟩ := kXY hg hp1 BK421; obtain ⟨NB425_461, NB461_425⟩ := kXY hg hp1 BK425; obtain ⟨NB429_461, NB461_429⟩ := kXY hg hp1 BK429; obtain ⟨NB433_461, NB461_433⟩ := kXY hg hp1 BK433; obtain ⟨NB437_461, NB461_437⟩ := kXY hg hp1 BK437; obtain ⟨NB441_461, NB461_441⟩ := kXY hg hp1 BK441; obtain ⟨NB445_461, NB461_445⟩ := kXY hg hp1 BK445; obtain ⟨NB457_461, NB461_457⟩ := kXY hg hp1 BK457; clear HB; replace BK421 := hp0 BK421; replace BK425 := hp0 BK425; replace BK429 := hp0 BK429; replace BK433 := hp0 BK433; replace BK437 := hp0 BK437; replace BK441 := hp0 BK441; replace BK445 := hp0 BK445; replace BK457 := hp0 BK457; have HB := n8_; have BK461 := n9_; clear n8_ n9_ hp0 hp1 hv; clear hb hbox hg; have nq96 := kO NB461_421; have nq97 := kO NB461_425; have nq98 := kO NB461_429; have nq99 := kO NB461_433; have nq100 := kO NB461_437; have nq101 := kO NB461_441; have nq102 := kO NB461_445; have nq103 := kO NB461_457; have zq104 := zc2 BK461; have zq105 := zc2 BK421) | ((with_reducible refine gate_callee (f := 16) rfl ?_); refine gL (some 152) Tryz.func16 #[.int .i64 a0, .agg #[.int .i64 a1_0, .int .i64 a1_1]] rfl ?_; (with_reducible refine (impl_TimesWithLong.calls k a0 a1_0 a1_1 t462 t465 _ A23.out).mono ?_); rintro e w106 ⟨v463, rfl, ho0, hb⟩; refine ⟨_, rfl, ?_⟩; have n0_ := Am (Kd.R_lower (Kd.R_newB (Kd.R_newB (Kd.R_newB (Kd.R_newB (Kd.R_newB (Kd.R_newB (Kd.R_newB (Kd.R_newB (Kd.R_newB ho0 (g := gb421) (o := .cells #[.int .i64 a1_0, .int .i64 a1_1] 23 (0, 0)) (by (with_reducible repeat (first | refine kN ?_ _ | refine kD ?_ | refine kA ?_ _)); refine kR ?_ NB421_461.out _; (with_reducible repeat (first | refine kN ?_ _ | refine kD ?_ | refine kA ?_ _)); refine kR ?_ NB421_461.out _; (with_reducible repeat (first | refine kN ?_ _ | refine kD ?_ | refine kA ?_ _)); exact BK421.out)) (g := gb425) (o := .cells #[.int .i64 t422, .int .i64 t423] 23 (0, 0)) (by (with_reducible repeat (first | refine kN ?_ _ | refine kD ?_ | refine kA ?_ _)); refine kR ?_ NB425_461.out _; (with_reducible repeat (first | refine kN ?_ _ | refine kD ?_ | refine kA ?_ _)); refine kR ?_ NB425_461.out _; (with_reducible repeat (first | refine kN ?_ _ | refine kD ?_ | refine kA ?_ _)); exact BK425.out)) (g := gb429) (o := .cells #[.int .i64 t426, .int .i64 t427] 23 (0, 0)) (by (with_reducible repeat (first | refine kN ?_ _ | refine kD ?_ | refine kA ?_ _)); refine kR ?_ NB429_461.out _; (with_reducible repeat (first | refine kN ?_ _ | refine kD ?_ | refine kA ?_ _)); refine kR ?_ NB429_461.out _; (with_reducible repeat (first | refine kN ?_ _ | refine kD ?_ | refine kA ?_ _)); exact BK429.out)) (g := gb433) (o := .cells #[.int .i64 t430, .int .i64 t431] 23 (0, 0)) (by (with_reducible repeat (first | refine kN ?_ _ | refine kD ?_ | refine kA ?_ _)); refine kR ?_ NB433_461.out _; (with_reducible repeat (first | refine kN ?_ _ | refine kD ?_ | refine kA ?_ _)); refine kR ?_ NB433_461.out _; (with_reducible repeat (first | refine kN ?_ _ | refine kD ?_ | refine kA ?_ _)); exact BK433.out)) (g := gb437) (o := .cells #[.int .i64 t434, .int .i64 t435] 23 (0, 0)) (by (with_reducible repeat (first | refine kN ?_ _ | refine kD ?_ | refine kA ?_ _)); refine kR ?_ NB437_461.out _; (with_reducible repeat (first | refine kN ?_ _ | refine kD ?_ | refine kA ?_ _)); refine kR ?_ NB437_461.out _; (with_reducible repeat (first | refine kN ?_ _ | refine kD ?_ | refine kA ?_ _)); exact BK437.out)) (g := gb441) (o := .cells #[.int .i64 t438, .int .i64 t439] 23 (0, 0)) (by (with_reducible repeat (first | refine kN ?_ _ | refine kD ?_ | refine kA ?_ _)); refine kR ?_ NB441_461.out _; (with_reducible repeat (first | refine kN ?_ _ | refine kD ?_ | refine kA ?_ _)); refine kR ?_ NB441_461.out _; (with_reducible repeat (first | refine kN ?_ _ | refine kD ?_ | refine kA ?_ _)); exact BK441.out)) (g := gb445) (o := .cells #[.int .i64 t442, .int .i64 t443] 23 (0, 0)) (by (with_reducible repeat (first | refine kN ?_ _ | refine kD ?_ | refine kA ?_ _)); refine kR ?_ NB445_461.out _; (with_reducible repeat (first | refine kN ?_ _ | refine kD ?_ | refine kA ?_ _)); refine kR ?_ NB445_461.out _; (with_reducible repeat (first | refine kN ?_ _ | refine kD ?_ | refine kA ?_ _)); exact BK445.out)) (g := gb457) (o := .cells #[.int .i64 t454, .int .i64 t455] 23 (0, 0)) (by (with_reducible repeat (first | refine kN ?_ _ | refine kD ?_ | refine kA ?_ _)); refine kR ?_ NB457_461.out _; (with_reducible repeat (first | refine kN ?_ _ | refine kD ?_ | refine kA ?_ _)); refine kR ?_ NB457_461.out _; (with_reducible repeat (first | refine kN ?_ _ | refine kD ?_ | refine kA ?_ _)); exact BK457.out)) (g := gb461) (o := .cells #[.int .i64 t458, .int .i64 t459] 23 (0, 0)) (by (with_reducible repeat (first | refine kN ?_ _ | refine kD ?_ | refine kA ?_ _)); refine kP (cs := #[.int .i64 t458, .int .i64 0]) ?_ 1 _ rfl; (with_reducible repeat (first | refine kN ?_ _ | refine kD ?_ | refine kA ?_ _)); refine kP (cs := #[.int .i64 0, .int .i64 0]) ?_ 0 _ rfl; (with_reducible repeat (first | refine kN ?_ _ | refine kD ?_ | refine kA ?_ _)); exact BK461.out)) (bZ (by repeat (first | (with_reducible first | exact HB.out | apply bA | apply bN | apply bD | refine bX ?_ (by assumption)) | exact HB.out)))); have hp0 := pB gb461 BK421 hb; have n9_ := Am (kB (g := gb461) (o := .cells #[.int .i64 t458, .int .i64 t459] 23 (0, 0)) (by (with_reducible repeat (first | refine kN ?_ _ | refine kD ?_ | refine kA ?_ _)); refine kP (cs := #[.int .i64 t458, .int .i64 0]) ?_ 1 _ rfl; (with_reducible repeat (first | refine kN ?_ _ | refine kD ?_ | refine kA ?_ _)); refine kP (cs := #[.int .i64 0, .int .i64 0]) ?_ 0 _ rfl; (with_reducible repeat (first | refine kN ?_ _ | refine kD ?_ | refine kA ?_ _)); exact BK461.out) hb); have hv := vK HB hb; have n10_ := Am (bT hv hb); clear BK461; clear HB; have HO464 := n0_; replace BK421 := hp0 NB421_461 BK421; replace BK425 := hp0 NB425_461 BK425; replace BK429 := hp0 NB429_461 BK429; replace BK433 := hp0 NB433_461 BK433; replace BK437 := hp0 NB437_461 BK437; replace BK441 := hp0 NB441_461 BK441; replace BK445 := hp0 NB445_461 BK445; replace BK457 := hp0 NB457_461 BK457; have BK461 := n9_; have HB := n10_; clear n0_ n9_ n10_ hp0 hv; (try clear hb); (try clear ho0); have zq107 := zc2 BK421) | ((with_reducible refine gate_callee (f := 17) rfl ?_); refine gL (some 158) Tryz.func17 #[.int .i64 a0, .agg #[.int .i64 a1_0, .int .i64 a1_1]] rfl ?_; (with_reducible refine (spec_TimesWithLong.calls k a0 a1_0 a1_1 t466 t469 _ A24.out).mono ?_); rintro e w108 ⟨v467, rfl, ho0, hb⟩; refine ⟨_, rfl, ?_⟩; have n0_ := Am (Kd.R_elder' (kW HO464) (Kd.R_base ho0) hb); have n1_ := Am (Kd.R_lower (Kd.R_newB (Kd.R_newB (Kd.R_newB (Kd.R_newB (Kd.R_newB (Kd.R_newB (Kd.R_newB (Kd.R_newB (Kd.R_newB (Kd.R_new' ho0 (Kd.R_lt (kW HO464))) (g := gb421) (o := .cells #[.int .i64 a1_0, .int .i64 a1_1] 23 (0, 0)) (kU BK421)) (g := gb425) (o := .cells #[.int .i64 t422, .int .i64 t423] 23 (0, 0)) (kU BK425)) (g := gb429) (o := .cells #[.int .i64 t426, .int .i64 t427] 23 (0, 0)) (kU BK429)) (g := gb433) (o := .cells #[.int .i64 t430, .int .i64 t431] 23 (0, 0)) (kU BK433)) (g := gb437) (o := .cells #[.int .i64 t434, .int .i64 t435] 23 (0, 0)) (kU BK437)) (g := gb441) (o := .cells #[.int .i64 t438, .int .i64 t439] 23 (0, 0)) (kU BK441)) (g := gb445) (o := .cells #[.int .i64 t442, .int .i64 t443] 23 (0, 0)) (kU BK445)) (g := gb457) (o := .cells #[.int .i64 t454, .int .i64 t455] 23 (0, 0)) (kU BK457)) (g := gb461) (o := .cells #[.int .i64 t458, .int .i64 t459] 23 (0, 0)) (kU BK461)) (bZ (by repeat (first | (with_reducible first | exact HB.out | apply bA | apply bN | apply bD | refine bX ?_ (by assumption)) | exact HB.out)))); have hp0 := pA BK421 hb; have hv := vK HB hb; have n11_ := Am (bT hv hb); clear HO464; clear HB; have HO464 := n0_; have HO468 := n1_; replace BK421 := hp0 BK421; replace BK425 := hp0 BK425; replace BK429 := hp0 BK429; replace BK433 := hp0 BK433; replace BK437 := hp0 BK437; replace BK441 := hp0 BK441; replace BK445 := hp0 BK445; replace BK457 := hp0 BK457; replace BK461 := hp0 BK461; have HB := n11_; clear n0_ n1_ n11_ hp0 hv; (try clear hb); (try clear ho0); have zq109 := zc2 BK421) | ((with_reducible refine gate_callee (f := 18) rfl ?_); refine gL (some 164) Tryz.func18 #[.int .i64 a0, .agg #[.int .i64 a1_0, .int .i64 a1_1]] rfl ?_; (with_reducible refine (impl_TimeText.calls k a0 a1_0 a1_1 t470 t471 _ (tabs_stay TABH_.out (show Below w.heap.size w _ from by repeat (first | (with_reducible first | exact HB.out | apply bA | apply bN | apply bD | refine bX ?_ (by assumption)) | exact HB.out))) A25.out).mono ?_); rintro e w110 ⟨rfl, hb⟩; refine ⟨_, rfl, ?_⟩; have n0_ := Am (Kd.R_below (kW HO464) hb); have n1_ := Am (Kd.R_below (kW HO468) hb); have hp0 := pA BK421 hb; have hv := vK HB hb; have n11_ := Am (bT hv hb); clear HO464; clear HO468; clear HB; have HO464 := n0_; have HO468 := n1_; replace BK421 := hp0 BK421; replace BK425 := hp0 BK425; replace BK429 := hp0 BK429; replace BK433 := hp0 BK433; replace BK437 := hp0 BK437; replace BK441 := hp0 BK441; replace BK445 := hp0 BK445; replace BK457 := hp0 BK457; replace BK461 := hp0 BK461; have HB := n11_; clear n0_ n1_ n11_ hp0 hv; (try clear hb); have zq111 := zc2 BK421) | ((with_reducible refine gate_callee (f := 19) rfl ?_); refine gL (some 170) Tryz.func19 #[.int .i64 a0, .agg #[.int .i64 a1_0, .int .i64 a1_1]] rfl ?_; (with_reducible refine (spec_TimeText.calls k a0 a1_0 a1_1 t472 t473 _ A26.out).mono ?_); rintro e w112 ⟨rfl, hb⟩; refine ⟨_, rfl, ?_⟩; have n0_ := Am (Kd.R_below (kW HO464) hb); have n1_ := Am (Kd.R_below (kW HO468) hb); have hp0 := pA BK421 hb; have hv := vK HB hb; have n11_ := Am (bT hv hb); clear HO464; clear HO468; clear HB; have HO464 := n0_; have HO468 := n1_; replace BK421 := hp0 BK421; replace BK425 := hp0 BK425; replace BK429 := hp0 BK429; replace BK433 := hp0 BK433; replace BK437 := hp0 BK437; replace BK441 := hp0 BK441; replace BK445 := hp0 BK445; replace BK457 := hp0 BK457; replace BK461 := hp0 BK461; have HB := n11_; clear n0_ n1_ n11_ hp0 hv; (try clear hb)))
 (try simp only [Act.put, List.setIfInBounds_toArray, List.set_cons_zero, List.set_cons_succ])
 go_cut [288] from 74 to 287 (fun v288 wc => ∃ (kq : Nat) (x288_26 : Bool), v288 = .bool x288_26 ∧ Aside0 (laws_FnHandsStandOfAll.j0 kq a0 a2 a3 a4 a5 a6 a7 t424 t446 t450 t462 t465 t470 x288_26 a1_0 a1_1 t422 t423 t430 t431 t438 t439 t454 t455 = some r) ∧ Aside0 (kq ≤ k) ∧ Aside0 (Kd.R k23 23 wc w.heap.size (fun k_ => k_ ≠ gb421 ∧ k_ ≠ gb425 ∧ k_ ≠ gb429 ∧ k_ ≠ gb433 ∧ k_ ≠ gb437 ∧ k_ ≠ gb441 ∧ k_ ≠ gb445 ∧ k_ ≠ gb457 ∧ k_ ≠ gb461) v463 t462) ∧ Aside0 (wc.heap[gb421]? = some (.cells #[.int .i64 a1_0, .int .i64 a1_1] 23 (0, 0))) ∧ Aside0 (wc.heap[gb425]? = some (.cells #[.int .i64 t422, .int .i64 t423] 23 (0, 0))) ∧ Aside0 (wc.heap[gb429]? = some (.cells #[.int .i64 t426, .int .i64 t427] 23 (0, 0))) ∧ Aside0 (wc.heap[gb433]? = some (.cells #[.int .i64 t430, .int .i64 t431] 23 (0, 0))) ∧ Aside0 (wc.heap[gb437]? = some (.cells #[.int .i64 t434, .int .i64 t435] 23 (0, 0))) ∧ Aside0 (wc.heap[gb441]? = some (.cells #[.int .i64 t438, .int .i64 t439] 23 (0, 0))) ∧ Aside0 (wc.heap[gb445]? = some (.cells #[.int .i64 t442, .int .i64 t443] 23 (0, 0))) ∧ Aside0 (wc.heap[gb457]? = some (.cells #[.int .i64 t454, .int .i64 t455] 23 (0, 0))) ∧ Aside0 (wc.heap[gb461]? = some (.cells #[.int .i64 t458, .int .i64 t459] 23 (0, 0))) ∧ Aside0 (Below w.heap.size w wc))
 case first =>
  have H := HC27.out
  clear HC27
  by_cases c113 : (t424 != t428) = true
  ·rw [if_pos c113] at H
   have c113b0 : (t424 != t428) = true := c113
   (try (have c113b1 : decide (t424 = t428) = false := by simpa using c113))
   (try (have c113b2 : (t424 == t428) = false := by simpa using c113))
   (try (have c113b3 : ¬ (t424 = t428) := by simpa using c113))
   clear c113
   (first | rw [c113b0] | (simp only [i64_w, i32_w]; rw [c113b0]) | skip)
   as_aux_lemma =>
    exact absurd ((laws_FnHandsStandOfAll.j0_no H).symm.trans hlaw.out) (by decide)
  rw [if_neg c113] at H
  have c113b0 : (t424 != t428) = false := by simpa using c113
  (try (have c113b1 : decide (t424 = t428) = true := by simpa using c113))
  (try (have c113b2 : (t424 == t428) = true := by simpa using c113))
  clear c113
  (first | rw [c113b0] | (simp only [i64_w, i32_w]; rw [c113b0]) | skip)
  by_cases c114 : (!(t422 == t426) || (!(t423 == t427))) = true
  ·rw [if_pos c114] at H
   have c114b0 : (!(t422 == t426) || (!(t423 == t427))) = true := c114
   clear c114
   as_aux_lemma =>
    exact absurd ((laws_FnHandsStandOfAll.j0_no H).symm.trans hlaw.out) (by decide)
  rw [if_neg c114] at H
  have c114b0 : (!(t422 == t426) || (!(t423 == t427))) = false := by simpa using c114
  clear c114
  by_cases c115 : (t432 != t436) = true
  ·rw [if_pos c115] at H
   have c115b0 : (t432 != t436) = true := c115
   (try (have c115b1 : decide (t432 = t436) = false := by simpa using c115))
   (try (have c115b2 : (t432 == t436) = false := by simpa using c115))
   (try (have c115b3 : ¬ (t432 = t436) := by simpa using c115))
   clear c115
   as_aux_lemma =>
    exact absurd ((laws_FnHandsStandOfAll.j0_no H).symm.trans hlaw.out) (by decide)
  rw [if_neg c115] at H
  have c115b0 : (t432 != t436) = false := by simpa using c115
  (try (have c115b1 : decide (t432 = t436) = true := by simpa using c115))
  (try (have c115b2 : (t432 == t436) = true := by simpa using c115))
  clear c115
  by_cases c116 : (!(t430 == t434) || (!(t431 == t435))) = true
  ·rw [if_pos c116] at H
   have c116b0 : (!(t430 == t434) || (!(t431 == t435))) = true := c116
   clear c116
   as_aux_lemma =>
    exact absurd ((laws_FnHandsStandOfAll.j0_no H).symm.trans hlaw.out) (by decide)
  rw [if_neg c116] at H
  have c116b0 : (!(t430 == t434) || (!(t431 == t435))) = false := by simpa using c116
  clear c116
  by_cases c117 : (t440 != t444) = true
  ·rw [if_pos c117] at H
   have c117b0 : (t440 != t444) = true := c117
   (try (have c117b1 : decide (t440 = t444) = false := by simpa using c117))
   (try (have c117b2 : (t440 == t444) = false := by simpa using c117))
   (try (have c117b3 : ¬ (t440 = t444) := by simpa using c117))
   clear c117
   as_aux_lemma =>
    exact absurd ((laws_FnHandsStandOfAll.j0_no H).symm.trans hlaw.out) (by decide)
  rw [if_neg c117] at H
  have c117b0 : (t440 != t444) = false := by simpa using c117
  (try (have c117b1 : decide (t440 = t444) = true := by simpa using c117))
  (try (have c117b2 : (t440 == t444) = true := by simpa using c117))
  clear c117
  by_cases c118 : (!(t438 == t442) || (!(t439 == t443))) = true
  ·rw [if_pos c118] at H
   have c118b0 : (!(t438 == t442) || (!(t439 == t443))) = true := c118
   clear c118
   as_aux_lemma =>
    exact absurd ((laws_FnHandsStandOfAll.j0_no H).symm.trans hlaw.out) (by decide)
  rw [if_neg c118] at H
  have c118b0 : (!(t438 == t442) || (!(t439 == t443))) = false := by simpa using c118
  clear c118
  by_cases c119 : (t447 != t449) = true
  ·rw [if_pos c119] at H
   have c119b0 : (t447 != t449) = true := c119
   (try (have c119b1 : decide (t447 = t449) = false := by simpa using c119))
   (try (have c119b2 : (t447 == t449) = false := by simpa using c119))
   (try (have c119b3 : ¬ (t447 = t449) := by simpa using c119))
   clear c119
   as_aux_lemma =>
    exact absurd ((laws_FnHandsStandOfAll.j0_no H).symm.trans hlaw.out) (by decide)
  rw [if_neg c119] at H
  have c119b0 : (t447 != t449) = false := by simpa using c119
  (try (have c119b1 : decide (t447 = t449) = true := by simpa using c119))
  (try (have c119b2 : (t447 == t449) = true := by simpa using c119))
  clear c119
  by_cases c120 : t446 = t448
  ·rw [if_pos c120] at H
   have c120b0 : (t446 == t448) = true := beq_iff_eq.mpr c120
   have c120b1 : (t446 != t448) = false := bne_eq_false_iff_eq.mpr c120
   clear c120
   by_cases c121 : (t451 != t453) = true
   ·rw [if_pos c121] at H
    have c121b0 : (t451 != t453) = true := c121
    (try (have c121b1 : decide (t451 = t453) = false := by simpa using c121))
    (try (have c121b2 : (t451 == t453) = false := by simpa using c121))
    (try (have c121b3 : ¬ (t451 = t453) := by simpa using c121))
    clear c121
    as_aux_lemma =>
     exact absurd ((laws_FnHandsStandOfAll.j0_no H).symm.trans hlaw.out) (by decide)
   rw [if_neg c121] at H
   have c121b0 : (t451 != t453) = false := by simpa using c121
   (try (have c121b1 : decide (t451 = t453) = true := by simpa using c121))
   (try (have c121b2 : (t451 == t453) = true := by simpa using c121))
   clear c121
   by_cases c122 : t450 = t452
   ·rw [if_pos c122] at H
    have c122b0 : (t450 == t452) = true := beq_iff_eq.mpr c122
    have c122b1 : (t450 != t452) = false := bne_eq_false_iff_eq.mpr c122
    clear c122
    by_cases c123 : (t456 != t460) = true
    ·rw [if_pos c123] at H
     have c123b0 : (t456 != t460) = true := c123
     (try (have c123b1 : decide (t456 = t460) = false := by simpa using c123))
     (try (have c123b2 : (t456 == t460) = false := by simpa using c123))
     (try (have c123b3 : ¬ (t456 = t460) := by simpa using c123))
     clear c123
     as_aux_lemma =>
      exact absurd ((laws_FnHandsStandOfAll.j0_no H).symm.trans hlaw.out) (by decide)
    rw [if_neg c123] at H
    have c123b0 : (t456 != t460) = false := by simpa using c123
    (try (have c123b1 : decide (t456 = t460) = true := by simpa using c123))
    (try (have c123b2 : (t456 == t460) = true := by simpa using c123))
    clear c123
    by_cases c124 : (!(t454 == t458) || (!(t455 == t459))) = true
    ·rw [if_pos c124] at H
     have c124b0 : (!(t454 == t458) || (!(t455 == t459))) = true := c124
     clear c124
     as_aux_lemma =>
      exact absurd ((laws_FnHandsStandOfAll.j0_no H).symm.trans hlaw.out) (by decide)
    rw [if_neg c124] at H
    have c124b0 : (!(t454 == t458) || (!(t455 == t459))) = false := by simpa using c124
    clear c124
    by_cases c125 : (t465 != t469) = true
    ·rw [if_pos c125] at H
     have c125b0 : (t465 != t469) = true := c125
     (try (have c125b1 : decide (t465 = t469) = false := by simpa using c125))
     (try (have c125b2 : (t465 == t469) = false := by simpa using c125))
     (try (have c125b3 : ¬ (t465 = t469) := by simpa using c125))
     clear c125
     as_aux_lemma =>
      exact absurd ((laws_FnHandsStandOfAll.j0_no H).symm.trans hlaw.out) (by decide)
    rw [if_neg c125] at H
    have c125b0 : (t465 != t469) = false := by simpa using c125
    (try (have c125b1 : decide (t465 = t469) = true := by simpa using c125))
    (try (have c125b2 : (t465 == t469) = true := by simpa using c125))
    clear c125
    replace H := Option.bind_eq_some_iff.mp H
    obtain ⟨t474, A1260, H⟩ := H
    try dsimp only at H
    have A126 := Am A1260
    clear A1260
    by_cases c127 : t474 = true
    ·subst c127
     have H1 : (if (t471 != t473) = true then (laws_FnHandsStandOfAll.j0 k a0 a2 a3 a4 a5 a6 a7 t424 t446 t450 t462 t465 t470 true a1_0 a1_1 t422 t423 t430 t431 t438 t439 t454 t455) else (if t470.toList = t472.toList then (if (t432 != t424) = true then (laws_FnHandsStandOfAll.j0 k a0 a2 a3 a4 a5 a6 a7 t424 t446 t450 t462 t465 t470 true a1_0 a1_1 t422 t423 t430 t431 t438 t439 t454 t455) else (if (t440 != t424) = true then (laws_FnHandsStandOfAll.j0 k a0 a2 a3 a4 a5 a6 a7 t424 t446 t450 t462 t465 t470 true a1_0 a1_1 t422 t423 t430 t431 t438 t439 t454 t455) else (if (t447 != t424) = true then (laws_FnHandsStandOfAll.j0 k a0 a2 a3 a4 a5 a6 a7 t424 t446 t450 t462 t465 t470 true a1_0 a1_1 t422 t423 t430 t431 t438 t439 t454 t455) else (if (t451 != t424) = true then (laws_FnHandsStandOfAll.j0 k a0 a2 a3 a4 a5 a6 a7 t424 t446 t450 t462 t465 t470 true a1_0 a1_1 t422 t423 t430 t431 t438 t439 t454 t455) else (if (t456 != t424) = true then (laws_FnHandsStandOfAll.j0 k a0 a2 a3 a4 a5 a6 a7 t424 t446 t450 t462 t465 t470 true a1_0 a1_1 t422 t423 t430 t431 t438 t439 t454 t455) else (if (t471 != t424) = true then (laws_FnHandsStandOfAll.j0 k a0 a2 a3 a4 a5 a6 a7 t424 t446 t450 t462 t465 t470 true a1_0 a1_1 t422 t423 t430 t431 t438 t439 t454 t455) else (if t465 = true then (laws_FnHandsStandOfAll.j0 k a0 a2 a3 a4 a5 a6 a7 t424 t446 t450 t462 t465 t470 (!t424) a1_0 a1_1 t422 t423 t430 t431 t438 t439 t454 t455) else (laws_FnHandsStandOfAll.j0 k a0 a2 a3 a4 a5 a6 a7 t424 t446 t450 t462 t465 t470 false a1_0 a1_1 t422 t423 t430 t431 t438 t439 t454 t455)))))))) else (laws_FnHandsStandOfAll.j0 k a0 a2 a3 a4 a5 a6 a7 t424 t446 t450 t462 t465 t470 true a1_0 a1_1 t422 t423 t430 t431 t438 t439 t454 t455))) = some r := by rw [if_pos rfl] at H; exact H
     clear H
     have H := H1
     clear H1
     by_cases c128 : (t471 != t473) = true
     ·rw [if_pos c128] at H
      have c128b0 : (t471 != t473) = true := c128
      (try (have c128b1 : decide (t471 = t473) = false := by simpa using c128))
      (try (have c128b2 : (t471 == t473) = false := by simpa using c128))
      (try (have c128b3 : ¬ (t471 = t473) := by simpa using c128))
      clear c128
      as_aux_lemma =>
       exact absurd ((laws_FnHandsStandOfAll.j0_no H).symm.trans hlaw.out) (by decide)
     rw [if_neg c128] at H
     have c128b0 : (t471 != t473) = false := by simpa using c128
     (try (have c128b1 : decide (t471 = t473) = true := by simpa using c128))
     (try (have c128b2 : (t471 == t473) = true := by simpa using c128))
     clear c128
     by_cases c129 : t470.toList = t472.toList
     ·rw [if_pos c129] at H
      have c129b0 : (t470.toList == t472.toList) = true := beq_iff_eq.mpr c129
      have c129b1 : (t470.toList != t472.toList) = false := bne_eq_false_iff_eq.mpr c129
      clear c129
      by_cases c130 : (t432 != t424) = true
      ·rw [if_pos c130] at H
       have c130b0 : (t432 != t424) = true := c130
       (try (have c130b1 : decide (t432 = t424) = false := by simpa using c130))
       (try (have c130b2 : (t432 == t424) = false := by simpa using c130))
       (try (have c130b3 : ¬ (t432 = t424) := by simpa using c130))
       clear c130
       as_aux_lemma =>
        exact absurd ((laws_FnHandsStandOfAll.j0_no H).symm.trans hlaw.out) (by decide)
      rw [if_neg c130] at H
      have c130b0 : (t432 != t424) = false := by simpa using c130
      (try (have c130b1 : decide (t432 = t424) = true := by simpa using c130))
      (try (have c130b2 : (t432 == t424) = true := by simpa using c130))
      clear c130
      by_cases c131 : (t440 != t424) = true
      ·rw [if_pos c131] at H
       have c131b0 : (t440 != t424) = true := c131
       (try (have c131b1 : decide (t440 = t424) = false := by simpa using c131))
       (try (have c131b2 : (t440 == t424) = false := by simpa using c131))
       (try (have c131b3 : ¬ (t440 = t424) := by simpa using c131))
       clear c131
       as_aux_lemma =>
        exact absurd ((laws_FnHandsStandOfAll.j0_no H).symm.trans hlaw.out) (by decide)
      rw [if_neg c131] at H
      have c131b0 : (t440 != t424) = false := by simpa using c131
      (try (have c131b1 : decide (t440 = t424) = true := by simpa using c131))
      (try (have c131b2 : (t440 == t424) = true := by simpa using c131))
      clear c131
      by_cases c132 : (t447 != t424) = true
      ·rw [if_pos c132] at H
       have c132b0 : (t447 != t424) = true := c132
       (try (have c132b1 : decide (t447 = t424) = false := by simpa using c132))
       (try (have c132b2 : (t447 == t424) = false := by simpa using c132))
       (try (have c132b3 : ¬ (t447 = t424) := by simpa using c132))
       clear c132
       as_aux_lemma =>
        exact absurd ((laws_FnHandsStandOfAll.j0_no H).symm.trans hlaw.out) (by decide)
      rw [if_neg c132] at H
      have c132b0 : (t447 != t424) = false := by simpa using c132
      (try (have c132b1 : decide (t447 = t424) = true := by simpa using c132))
      (try (have c132b2 : (t447 == t424) = true := by simpa using c132))
      clear c132
      by_cases c133 : (t451 != t424) = true
      ·rw [if_pos c133] at H
       have c133b0 : (t451 != t424) = true := c133
       (try (have c133b1 : decide (t451 = t424) = false := by simpa using c133))
       (try (have c133b2 : (t451 == t424) = false := by simpa using c133))
       (try (have c133b3 : ¬ (t451 = t424) := by simpa using c133))
       clear c133
       as_aux_lemma =>
        exact absurd ((laws_FnHandsStandOfAll.j0_no H).symm.trans hlaw.out) (by decide)
      rw [if_neg c133] at H
      have c133b0 : (t451 != t424) = false := by simpa using c133
      (try (have c133b1 : decide (t451 = t424) = true := by simpa using c133))
      (try (have c133b2 : (t451 == t424) = true := by simpa using c133))
      clear c133
      by_cases c134 : (t456 != t424) = true
      ·rw [if_pos c134] at H
       have c134b0 : (t456 != t424) = true := c134
       (try (have c134b1 : decide (t456 = t424) = false := by simpa using c134))
       (try (have c134b2 : (t456 == t424) = false := by simpa using c134))
       (try (have c134b3 : ¬ (t456 = t424) := by simpa using c134))
       clear c134
       as_aux_lemma =>
        exact absurd ((laws_FnHandsStandOfAll.j0_no H).symm.trans hlaw.out) (by decide)
      rw [if_neg c134] at H
      have c134b0 : (t456 != t424) = false := by simpa using c134
      (try (have c134b1 : decide (t456 = t424) = true := by simpa using c134))
      (try (have c134b2 : (t456 == t424) = true := by simpa using c134))
      clear c134
      by_cases c135 : (t471 != t424) = true
      ·rw [if_pos c135] at H
       have c135b0 : (t471 != t424) = true := c135
       (try (have c135b1 : decide (t471 = t424) = false := by simpa using c135))
       (try (have c135b2 : (t471 == t424) = false := by simpa using c135))
       (try (have c135b3 : ¬ (t471 = t424) := by simpa using c135))
       clear c135
       as_aux_lemma =>
        exact absurd ((laws_FnHandsStandOfAll.j0_no H).symm.trans hlaw.out) (by decide)
      rw [if_neg c135] at H
      have c135b0 : (t471 != t424) = false := by simpa using c135
      (try (have c135b1 : decide (t471 = t424) = true := by simpa using c135))
      (try (have c135b2 : (t471 == t424) = true := by simpa using c135))
      clear c135
      by_cases c136 : t465 = true
      ·subst c136
       have H1 : (laws_FnHandsStandOfAll.j0 k a0 a2 a3 a4 a5 a6 a7 t424 t446 t450 t462 true t470 (!t424) a1_0 a1_1 t422 t423 t430 t431 t438 t439 t454 t455) = some r := by rw [if_pos rfl] at H; exact H
       clear H
       have H := H1
       clear H1
       as_aux_lemma =>
        have H' := Am H
        clear H
        have nq137 := kO NB425_421; have nq138 := kO NB425_429; have nq139 := kO NB425_433; have nq140 := kO NB425_437; have nq141 := kO NB425_441; have nq142 := kO NB425_445; have nq143 := kO NB425_457; have nq144 := kO NB425_461
        have zq145 := zc2 BK425
        have nq146 := kO NB429_421; have nq147 := kO NB429_433; have nq148 := kO NB429_437; have nq149 := kO NB429_441; have nq150 := kO NB429_445; have nq151 := kO NB429_457; have nq152 := kO NB429_461
        have zq153 := zc2 BK429
        have nq154 := kO NB433_421; have nq155 := kO NB433_437; have nq156 := kO NB433_441; have nq157 := kO NB433_445; have nq158 := kO NB433_457; have nq159 := kO NB433_461
        have zq160 := zc2 BK433
        have nq161 := kO NB437_421; have nq162 := kO NB437_441; have nq163 := kO NB437_445; have nq164 := kO NB437_457; have nq165 := kO NB437_461
        have zq166 := zc2 BK437
        have nq167 := kO NB441_421; have nq168 := kO NB441_445; have nq169 := kO NB441_457; have nq170 := kO NB441_461
        have zq171 := zc2 BK441
        have nq172 := kO NB445_421; have nq173 := kO NB445_457; have nq174 := kO NB445_461
        have zq175 := zc2 BK445
        have nq176 := kO NB457_421; have nq177 := kO NB457_461
        have zq178 := zc2 BK457
        have nq179 := kO NB461_421
        have zq180 := zc2 BK461
        obtain ⟨Ao181, co181, eo181⟩ := Kd.R_slice HO464.out
        subst eo181
        obtain ⟨Ao182, co182, eo182⟩ := Kd.R_slice HO468.out
        subst eo182
        go_wp2_with (first | (go_at_call 20; (with_reducible refine (laws_wTurns.calls k _ _ t462 _ _ t466 true _ ?side1 ?side2 ?side3 ?side4 A126.out).mono ?_); (case side1 => repeat (first | exact (Kd.R_reads' HO464.out).2.2 | (with_reducible refine Kd.C_alloc ?_ _) | (with_reducible refine Kd.C_drewN ?_ _) | (with_reducible refine Kd.C_drew ?_))); (case side2 => exact (Kd.R_reads' HO464.out).2.1); (case side3 => repeat (first | exact (Kd.R_reads' HO468.out).2.2 | (with_reducible refine Kd.C_alloc ?_ _) | (with_reducible refine Kd.C_drewN ?_ _) | (with_reducible refine Kd.C_drew ?_))); (case side4 => exact (Kd.R_reads' HO468.out).2.1); rintro e w' ⟨rfl, ⟨nd, rfl⟩⟩))
        go_meet
        case rel =>
         refine ⟨_, (!t424), (by first | rfl | (simp; done) | (simp [*]; done)), H', ⟨by first | omega | exact Nat.le_refl _⟩, ⟨by (with_reducible repeat (first | apply Kd.R_alloc | apply Kd.R_drewN | apply Kd.R_drew)); exact Kd.R_mono HO464.out (fun _ hk => ⟨hk.1.1.1.1.1.1.1.1.1.2, ⟨hk.1.1.1.1.1.1.1.1.2, ⟨hk.1.1.1.1.1.1.1.2, ⟨hk.1.1.1.1.1.1.2, ⟨hk.1.1.1.1.1.2, ⟨hk.1.1.1.1.2, ⟨hk.1.1.1.2, ⟨hk.1.1.2, hk.1.2⟩⟩⟩⟩⟩⟩⟩⟩)⟩, ⟨?_⟩, ⟨?_⟩, ⟨?_⟩, ⟨?_⟩, ⟨?_⟩, ⟨?_⟩, ⟨?_⟩, ⟨?_⟩, ⟨?_⟩, ⟨by repeat (first | (with_reducible first | exact HB.out | apply bA | apply bN | apply bD | refine bX ?_ (by assumption)) | exact HB.out)⟩⟩
         all_goals ((with_reducible repeat (first | refine kN ?_ _ | refine kD ?_ | refine kA ?_ _)); exact Aside0.out (by assumption))
      replace c136 := Bool.eq_false_iff.mpr c136
      subst c136
      have H1 : (laws_FnHandsStandOfAll.j0 k a0 a2 a3 a4 a5 a6 a7 t424 t446 t450 t462 false t470 false a1_0 a1_1 t422 t423 t430 t431 t438 t439 t454 t455) = some r := by rw [if_neg (show ¬ (false = true) by decide)] at H; exact H
      clear H
      have H := H1
      clear H1
      as_aux_lemma =>
       have H' := Am H
       clear H
       have nq183 := kO NB425_421; have nq184 := kO NB425_429; have nq185 := kO NB425_433; have nq186 := kO NB425_437; have nq187 := kO NB425_441; have nq188 := kO NB425_445; have nq189 := kO NB425_457; have nq190 := kO NB425_461
       have zq191 := zc2 BK425
       have nq192 := kO NB429_421; have nq193 := kO NB429_433; have nq194 := kO NB429_437; have nq195 := kO NB429_441; have nq196 := kO NB429_445; have nq197 := kO NB429_457; have nq198 := kO NB429_461
       have zq199 := zc2 BK429
       have nq200 := kO NB433_421; have nq201 := kO NB433_437; have nq202 := kO NB433_441; have nq203 := kO NB433_445; have nq204 := kO NB433_457; have nq205 := kO NB433_461
       have zq206 := zc2 BK433
       have nq207 := kO NB437_421; have nq208 := kO NB437_441; have nq209 := kO NB437_445; have nq210 := kO NB437_457; have nq211 := kO NB437_461
       have zq212 := zc2 BK437
       have nq213 := kO NB441_421; have nq214 := kO NB441_445; have nq215 := kO NB441_457; have nq216 := kO NB441_461
       have zq217 := zc2 BK441
       have nq218 := kO NB445_421; have nq219 := kO NB445_457; have nq220 := kO NB445_461
       have zq221 := zc2 BK445
       have nq222 := kO NB457_421; have nq223 := kO NB457_461
       have zq224 := zc2 BK457
       have nq225 := kO NB461_421
       have zq226 := zc2 BK461
       obtain ⟨Ao227, co227, eo227⟩ := Kd.R_slice HO464.out
       subst eo227
       obtain ⟨Ao228, co228, eo228⟩ := Kd.R_slice HO468.out
       subst eo228
       go_wp2_with (first | (go_at_call 20; (with_reducible refine (laws_wTurns.calls k _ _ t462 _ _ t466 true _ ?side1 ?side2 ?side3 ?side4 A126.out).mono ?_); (case side1 => repeat (first | exact (Kd.R_reads' HO464.out).2.2 | (with_reducible refine Kd.C_alloc ?_ _) | (with_reducible refine Kd.C_drewN ?_ _) | (with_reducible refine Kd.C_drew ?_))); (case side2 => exact (Kd.R_reads' HO464.out).2.1); (case side3 => repeat (first | exact (Kd.R_reads' HO468.out).2.2 | (with_reducible refine Kd.C_alloc ?_ _) | (with_reducible refine Kd.C_drewN ?_ _) | (with_reducible refine Kd.C_drew ?_))); (case side4 => exact (Kd.R_reads' HO468.out).2.1); rintro e w' ⟨rfl, ⟨nd, rfl⟩⟩))
       go_meet
       case rel =>
        refine ⟨_, (false), (by first | rfl | (simp; done) | (simp [*]; done)), H', ⟨by first | omega | exact Nat.le_refl _⟩, ⟨by (with_reducible repeat (first | apply Kd.R_alloc | apply Kd.R_drewN | apply Kd.R_drew)); exact Kd.R_mono HO464.out (fun _ hk => ⟨hk.1.1.1.1.1.1.1.1.1.2, ⟨hk.1.1.1.1.1.1.1.1.2, ⟨hk.1.1.1.1.1.1.1.2, ⟨hk.1.1.1.1.1.1.2, ⟨hk.1.1.1.1.1.2, ⟨hk.1.1.1.1.2, ⟨hk.1.1.1.2, ⟨hk.1.1.2, hk.1.2⟩⟩⟩⟩⟩⟩⟩⟩)⟩, ⟨?_⟩, ⟨?_⟩, ⟨?_⟩, ⟨?_⟩, ⟨?_⟩, ⟨?_⟩, ⟨?_⟩, ⟨?_⟩, ⟨?_⟩, ⟨by repeat (first | (with_reducible first | exact HB.out | apply bA | apply bN | apply bD | refine bX ?_ (by assumption)) | exact HB.out)⟩⟩
        all_goals ((with_reducible repeat (first | refine kN ?_ _ | refine kD ?_ | refine kA ?_ _)); exact Aside0.out (by assumption))
     rw [if_neg c129] at H
     have c129b0 : (t470.toList == t472.toList) = false := beq_eq_false_iff_ne.mpr c129
     have c129b1 : (t470.toList != t472.toList) = true := bne_iff_ne.mpr c129
     as_aux_lemma =>
      exact absurd ((laws_FnHandsStandOfAll.j0_no H).symm.trans hlaw.out) (by decide)
    replace c127 := Bool.eq_false_iff.mpr c127
    subst c127
    have H1 : (laws_FnHandsStandOfAll.j0 k a0 a2 a3 a4 a5 a6 a7 t424 t446 t450 t462 t465 t470 true a1_0 a1_1 t422 t423 t430 t431 t438 t439 t454 t455) = some r := by rw [if_neg (show ¬ (false = true) by decide)] at H; exact H
    clear H
    have H := H1
    clear H1
    as_aux_lemma =>
     exact absurd ((laws_FnHandsStandOfAll.j0_no H).symm.trans hlaw.out) (by decide)
   rw [if_neg c122] at H
   have c122b0 : (t450 == t452) = false := beq_eq_false_iff_ne.mpr c122
   have c122b1 : (t450 != t452) = true := bne_iff_ne.mpr c122
   as_aux_lemma =>
    exact absurd ((laws_FnHandsStandOfAll.j0_no H).symm.trans hlaw.out) (by decide)
  rw [if_neg c120] at H
  have c120b0 : (t446 == t448) = false := beq_eq_false_iff_ne.mpr c120
  have c120b1 : (t446 != t448) = true := bne_iff_ne.mpr c120
  as_aux_lemma =>
   exact absurd ((laws_FnHandsStandOfAll.j0_no H).symm.trans hlaw.out) (by decide)
 clear HC27
 (try clear c9); (try clear c20); (try clear c21); (try clear zq104); (try clear zq105); (try clear zq107); (try clear zq109); (try clear zq111); (try clear zq29); (try clear zq33); (try clear zq34); (try clear zq39); (try clear zq40); (try clear zq46); (try clear zq47); (try clear zq54); (try clear zq55); (try clear zq63); (try clear zq64); (try clear zq73); (try clear zq74); (try clear zq76); (try clear zq78); (try clear zq80); (try clear zq82); (try clear zq92); (try clear zq93)
 obtain ⟨kq, x288_26, rfl, HA, HJ26, HO_41, BK421, BK425, BK429, BK433, BK437, BK441, BK445, BK457, BK461, HB⟩ := hcut
 cases kq with
 | zero => exact absurd HA.out (by simp [laws_FnHandsStandOfAll.j0])
 | succ kj26 =>
  have H := HA.out
  clear HA
  simp only [laws_FnHandsStandOfAll.j0] at H
  by_cases c229 : x288_26 = true
  ·subst c229
   have H1 : (some false) = some r := by rw [if_pos rfl] at H; exact H
   clear H
   have H := H1
   clear H1
   as_aux_lemma =>
    exact absurd ((Option.some.inj H).trans hlaw.out) (by decide)
  replace c229 := Bool.eq_false_iff.mpr c229
  subst c229
  have H1 : (if t424 = true then ((impl_AddTurns.f kj26 a1_0 a1_1 t430 t431).bind fun bt475 => ((impl_ParseTime.f kj26 a0 t470).bind fun bt479 => (if bt475.2.2 = true then (if (!(bt475.1 == t422) || (!(bt475.2.1 == t423))) = true then (laws_FnHandsStandOfAll.j1 kj26 a0 a2 a3 a4 a5 a6 a7 t446 t450 t462 t465 true a1_0 a1_1 t454 t455) else (if (wrap64 (2 * t438)) > t439 then (laws_FnHandsStandOfAll.j1 kj26 a0 a2 a3 a4 a5 a6 a7 t446 t450 t462 t465 true a1_0 a1_1 t454 t455) else (if t446 < 0 then (laws_FnHandsStandOfAll.j1 kj26 a0 a2 a3 a4 a5 a6 a7 t446 t450 t462 t465 true a1_0 a1_1 t454 t455) else (if t446 ≥ a0 then (laws_FnHandsStandOfAll.j1 kj26 a0 a2 a3 a4 a5 a6 a7 t446 t450 t462 t465 true a1_0 a1_1 t454 t455) else (if t450 < 0 then (laws_FnHandsStandOfAll.j1 kj26 a0 a2 a3 a4 a5 a6 a7 t446 t450 t462 t465 true a1_0 a1_1 t454 t455) else (if t450 > 59 then (laws_FnHandsStandOfAll.j1 kj26 a0 a2 a3 a4 a5 a6 a7 t446 t450 t462 t465 true a1_0 a1_1 t454 t455) else (if bt479.2.2 = true then (laws_FnHandsStandOfAll.j1 kj26 a0 a2 a3 a4 a5 a6 a7 t446 t450 t462 t465 (!(bt479.1 == a1_0) || (!(bt479.2.1 == a1_1))) a1_0 a1_1 t454 t455) else (laws_FnHandsStandOfAll.j1 kj26 a0 a2 a3 a4 a5 a6 a7 t446 t450 t462 t465 true a1_0 a1_1 t454 t455)))))))) else (if (wrap64 (2 * t438)) > t439 then (laws_FnHandsStandOfAll.j1 kj26 a0 a2 a3 a4 a5 a6 a7 t446 t450 t462 t465 true a1_0 a1_1 t454 t455) else (if t446 < 0 then (laws_FnHandsStandOfAll.j1 kj26 a0 a2 a3 a4 a5 a6 a7 t446 t450 t462 t465 true a1_0 a1_1 t454 t455) else (if t446 ≥ a0 then (laws_FnHandsStandOfAll.j1 kj26 a0 a2 a3 a4 a5 a6 a7 t446 t450 t462 t465 true a1_0 a1_1 t454 t455) else (if t450 < 0 then (laws_FnHandsStandOfAll.j1 kj26 a0 a2 a3 a4 a5 a6 a7 t446 t450 t462 t465 true a1_0 a1_1 t454 t455) else (if t450 > 59 then (laws_FnHandsStandOfAll.j1 kj26 a0 a2 a3 a4 a5 a6 a7 t446 t450 t462 t465 true a1_0 a1_1 t454 t455) else (if bt479.2.2 = true then (laws_FnHandsStandOfAll.j1 kj26 a0 a2 a3 a4 a5 a6 a7 t446 t450 t462 t465 (!(bt479.1 == a1_0) || (!(bt479.2.1 == a1_1))) a1_0 a1_1 t454 t455) else (laws_FnHandsStandOfAll.j1 kj26 a0 a2 a3 a4 a5 a6 a7 t446 t450 t462 t465 true a1_0 a1_1 t454 t455)))))))))) else (laws_FnHandsStandOfAll.j2 kj26 a0 a2 a3 a4 a5 a6 a7 t462 t465 a1_0 a1_1)) = some r := by rw [if_neg (show ¬ (false = true) by decide)] at H; exact H
  clear H
  have H := H1
  clear H1
  have HC230 := Am H
  clear H
  as_aux_lemma =>
   go_upto_if 289 with (fail)
   go_cut [] from 289 to 289 (fun wc => ∃ (kq : Nat), Aside0 (laws_FnHandsStandOfAll.j2 kq a0 a2 a3 a4 a5 a6 a7 t462 t465 a1_0 a1_1 = some r) ∧ Aside0 (kq ≤ kj26) ∧ Aside0 (Kd.R k23 23 wc w.heap.size (fun k_ => k_ ≠ gb421 ∧ k_ ≠ gb425 ∧ k_ ≠ gb429 ∧ k_ ≠ gb433 ∧ k_ ≠ gb437 ∧ k_ ≠ gb441 ∧ k_ ≠ gb445 ∧ k_ ≠ gb457 ∧ k_ ≠ gb461) v463 t462) ∧ Aside0 (wc.heap[gb421]? = some (.cells #[.int .i64 a1_0, .int .i64 a1_1] 23 (0, 0))) ∧ Aside0 (wc.heap[gb425]? = some (.cells #[.int .i64 t422, .int .i64 t423] 23 (0, 0))) ∧ Aside0 (wc.heap[gb429]? = some (.cells #[.int .i64 t426, .int .i64 t427] 23 (0, 0))) ∧ Aside0 (wc.heap[gb433]? = some (.cells #[.int .i64 t430, .int .i64 t431] 23 (0, 0))) ∧ Aside0 (wc.heap[gb437]? = some (.cells #[.int .i64 t434, .int .i64 t435] 23 (0, 0))) ∧ Aside0 (wc.heap[gb441]? = some (.cells #[.int .i64 t438, .int .i64 t439] 23 (0, 0))) ∧ Aside0 (wc.heap[gb445]? = some (.cells #[.int .i64 t442, .int .i64 t443] 23 (0, 0))) ∧ Aside0 (wc.heap[gb457]? = some (.cells #[.int .i64 t454, .int .i64 t455] 23 (0, 0))) ∧ Aside0 (wc.heap[gb461]? = some (.cells #[.int .i64 t458, .int .i64 t459] 23 (0, 0))) ∧ Aside0 (Below w.heap.size w wc))
   case first =>
    have H := HC230.out
    clear HC230
    by_cases c231 : t424 = true
    ·subst c231
     have H1 : ((impl_AddTurns.f kj26 a1_0 a1_1 t430 t431).bind fun bt475 => ((impl_ParseTime.f kj26 a0 t470).bind fun bt479 => (if bt475.2.2 = true then (if (!(bt475.1 == t422) || (!(bt475.2.1 == t423))) = true then (laws_FnHandsStandOfAll.j1 kj26 a0 a2 a3 a4 a5 a6 a7 t446 t450 t462 t465 true a1_0 a1_1 t454 t455) else (if (wrap64 (2 * t438)) > t439 then (laws_FnHandsStandOfAll.j1 kj26 a0 a2 a3 a4 a5 a6 a7 t446 t450 t462 t465 true a1_0 a1_1 t454 t455) else (if t446 < 0 then (laws_FnHandsStandOfAll.j1 kj26 a0 a2 a3 a4 a5 a6 a7 t446 t450 t462 t465 true a1_0 a1_1 t454 t455) else (if t446 ≥ a0 then (laws_FnHandsStandOfAll.j1 kj26 a0 a2 a3 a4 a5 a6 a7 t446 t450 t462 t465 true a1_0 a1_1 t454 t455) else (if t450 < 0 then (laws_FnHandsStandOfAll.j1 kj26 a0 a2 a3 a4 a5 a6 a7 t446 t450 t462 t465 true a1_0 a1_1 t454 t455) else (if t450 > 59 then (laws_FnHandsStandOfAll.j1 kj26 a0 a2 a3 a4 a5 a6 a7 t446 t450 t462 t465 true a1_0 a1_1 t454 t455) else (if bt479.2.2 = true then (laws_FnHandsStandOfAll.j1 kj26 a0 a2 a3 a4 a5 a6 a7 t446 t450 t462 t465 (!(bt479.1 == a1_0) || (!(bt479.2.1 == a1_1))) a1_0 a1_1 t454 t455) else (laws_FnHandsStandOfAll.j1 kj26 a0 a2 a3 a4 a5 a6 a7 t446 t450 t462 t465 true a1_0 a1_1 t454 t455)))))))) else (if (wrap64 (2 * t438)) > t439 then (laws_FnHandsStandOfAll.j1 kj26 a0 a2 a3 a4 a5 a6 a7 t446 t450 t462 t465 true a1_0 a1_1 t454 t455) else (if t446 < 0 then (laws_FnHandsStandOfAll.j1 kj26 a0 a2 a3 a4 a5 a6 a7 t446 t450 t462 t465 true a1_0 a1_1 t454 t455) else (if t446 ≥ a0 then (laws_FnHandsStandOfAll.j1 kj26 a0 a2 a3 a4 a5 a6 a7 t446 t450 t462 t465 true a1_0 a1_1 t454 t455) else (if t450 < 0 then (laws_FnHandsStandOfAll.j1 kj26 a0 a2 a3 a4 a5 a6 a7 t446 t450 t462 t465 true a1_0 a1_1 t454 t455) else (if t450 > 59 then (laws_FnHandsStandOfAll.j1 kj26 a0 a2 a3 a4 a5 a6 a7 t446 t450 t462 t465 true a1_0 a1_1 t454 t455) else (if bt479.2.2 = true then (laws_FnHandsStandOfAll.j1 kj26 a0 a2 a3 a4 a5 a6 a7 t446 t450 t462 t465 (!(bt479.1 == a1_0) || (!(bt479.2.1 == a1_1))) a1_0 a1_1 t454 t455) else (laws_FnHandsStandOfAll.j1 kj26 a0 a2 a3 a4 a5 a6 a7 t446 t450 t462 t465 true a1_0 a1_1 t454 t455)))))))))) = some r := by rw [if_pos rfl] at H; exact H
     clear H
     have H := H1
     clear H1
     replace H := Option.bind_eq_some_iff.mp H
     obtain ⟨⟨t475, t476, t477⟩, A2320, H⟩ := H
     try dsimp only at H
     have A232 := Am A2320
     clear A2320
     replace H := Option.bind_eq_some_iff.mp H
     obtain ⟨⟨t479, t480, t481⟩, A2330, H⟩ := H
     try dsimp only at H
     have A233 := Am A2330
     clear A2330
     have HC234 := Am H
     clear H
     have nq235 := kO NB421_425; have nq236 := kO NB421_429; have nq237 := kO NB421_433; have nq238 := kO NB421_437; have nq239 := kO NB421_441; have nq240 := kO NB421_445; have nq241 := kO NB421_457; have nq242 := kO NB421_461
     have zq243 := zc2 BK421
     have nq244 := kO NB433_425; have nq245 := kO NB433_429; have nq246 := kO NB433_437; have nq247 := kO NB433_441; have nq248 := kO NB433_445; have nq249 := kO NB433_457; have nq250 := kO NB433_461
     have zq251 := zc2 BK433
     go_upto_region 24 with (first | ((with_reducible refine gate_callee (f := 21) rfl ?_); refine gL (some 293) Tryz.func21 #[.agg #[.int .i64 a1_0, .int .i64 a1_1], .agg #[.int .i64 t430, .int .i64 t431]] rfl ?_; (with_reducible refine (impl_AddTurns.calls kj26 a1_0 a1_1 t430 t431 t475 t476 t477 _ A232.out).mono ?_); rintro e w252 ⟨rfl, hb⟩; refine ⟨_, rfl, ?_⟩; have n0_ := Am (Kd.R_below (kW HO_41) hb); have hp0 := pA BK421 hb; have hv := vK HB hb; have n10_ := Am (bT hv hb); clear HO_41; clear HB; have HO_41 := n0_; replace BK421 := hp0 BK421; replace BK425 := hp0 BK425; replace BK429 := hp0 BK429; replace BK433 := hp0 BK433; replace BK437 := hp0 BK437; replace BK441 := hp0 BK441; replace BK445 := hp0 BK445; replace BK457 := hp0 BK457; replace BK461 := hp0 BK461; have HB := n10_; clear n0_ n10_ hp0 hv; (try clear hb)) | ((with_reducible refine gate_dst (N := 49) rfl ?_); refine bE 49 #[.int .i64 0, .int .i64 0] 23 ?_; intro gb478 hg w253 hbox hb; have n0_ := Am (Kd.R_below (Kd.R_elderB (kW HO_41) gb478 (Nat.le_of_eq hg.symm)) hb); have hp0 := pA BK421 hb; have hv := vK HB hb; have n10_ := Am (bT hv hb); have n11_ := Am (hbox); have GE478 := kG hg hv; have hp1 := pK BK421 hb; obtain ⟨NB421_478, NB478_421⟩ := kXY hg hp1 BK421; obtain ⟨NB425_478, NB478_425⟩ := kXY hg hp1 BK425; obtain ⟨NB429_478, NB478_429⟩ := kXY hg hp1 BK429; obtain ⟨NB433_478, NB478_433⟩ := kXY hg hp1 BK433; obtain ⟨NB437_478, NB478_437⟩ := kXY hg hp1 BK437; obtain ⟨NB441_478, NB478_441⟩ := kXY hg hp1 BK441; obtain ⟨NB445_478, NB478_445⟩ := kXY hg hp1 BK445; obtain ⟨NB457_478, NB478_457⟩ := kXY hg hp1 BK457; obtain ⟨NB461_478, NB478_461⟩ := kXY hg hp1 BK461; clear HO_41; clear HB; have HO_41 := n0_; replace BK421 := hp0 BK421; replace BK425 := hp0 BK425; replace BK429 := hp0 BK429; replace BK433 := hp0 BK433; replace BK437 := hp0 BK437; replace BK441 := hp0 BK441; replace BK445 := hp0 BK445; replace BK457 := hp0 BK457; replace BK461 := hp0 BK461; have HB := n10_; have BK478 := n11_; clear n0_ n10_ n11_ hp0 hp1 hv; clear hb hbox hg; have nq254 := kO NB478_421; have nq255 := kO NB478_425; have nq256 := kO NB478_429; have nq257 := kO NB478_433; have nq258 := kO NB478_437; have nq259 := kO NB478_441; have nq260 := kO NB478_445; have nq261 := kO NB478_457; have nq262 := kO NB478_461; have zq263 := zc2 BK478) | ((with_reducible refine gate_callee (f := 22) rfl ?_); refine gL (some 299) Tryz.func22 #[.int .i64 a0, .string t470] rfl ?_; (with_reducible refine (impl_ParseTime.calls kj26 a0 t470 t479 t480 t481 _ (tabs_stay TABH_.out (show Below w.heap.size w _ from by repeat (first | (with_reducible first | exact HB.out | apply bA | apply bN | apply bD | refine bX ?_ (by assumption)) | exact HB.out))) A233.out).mono ?_); rintro e w264 ⟨rfl, hb⟩; refine ⟨_, rfl, ?_⟩; have n0_ := Am (Kd.R_below (by (with_reducible repeat (first | apply Kd.R_alloc | apply Kd.R_drewN | apply Kd.R_drew)); exact (Kd.R_mono (Kd.R_far (p := ⟨gb478, 1, none⟩) (Kd.R_far (p := ⟨gb478, 0, none⟩) (Kd.R_mono HO_41.out (fun k_ hk => (⟨hk, hk.2⟩ : _ ∧ k_ ≠ gb478))) (fun _ hk => hk.2) (.int .i64 t475)) (fun _ hk => hk.2) (.int .i64 t476)) (fun _ h_ => h_.1))) hb); have hp0 := pB gb478 BK421 hb; have n10_ := Am (kB (g := gb478) (o := .cells #[.int .i64 t475, .int .i64 t476] 23 (0, 0)) (by (with_reducible repeat (first | refine kN ?_ _ | refine kD ?_ | refine kA ?_ _)); refine kP (cs := #[.int .i64 t475, .int .i64 0]) ?_ 1 _ rfl; (with_reducible repeat (first | refine kN ?_ _ | refine kD ?_ | refine kA ?_ _)); refine kP (cs := #[.int .i64 0, .int .i64 0]) ?_ 0 _ rfl; (with_reducible repeat (first | refine kN ?_ _ | refine kD ?_ | refine kA ?_ _)); exact BK478.out) hb); have hv := vK HB hb; have n11_ := Am (bT hv hb); clear HO_41; clear BK478; clear HB; have HO_41 := n0_; replace BK421 := hp0 NB421_478 BK421; replace BK425 := hp0 NB425_478 BK425; replace BK429 := hp0 NB429_478 BK429; replace BK433 := hp0 NB433_478 BK433; replace BK437 := hp0 NB437_478 BK437; replace BK441 := hp0 NB441_478 BK441; replace BK445 := hp0 NB445_478 BK445; replace BK457 := hp0 NB457_478 BK457; replace BK461 := hp0 NB461_478 BK461; have BK478 := n10_; have HB := n11_; clear n0_ n10_ n11_ hp0 hv; (try clear hb); (try clear hk)) | ((with_reducible refine gate_dst (N := 51) rfl ?_); refine bE 51 #[.int .i64 0, .int .i64 0] 23 ?_; intro gb482 hg w265 hbox hb; have n0_ := Am (Kd.R_below (Kd.R_elderB (kW HO_41) gb482 (Nat.le_of_eq hg.symm)) hb); have hp0 := pA BK421 hb; have hv := vK HB hb; have n11_ := Am (bT hv hb); have n12_ := Am (hbox); have GE482 := kG hg hv; have hp1 := pK BK421 hb; obtain ⟨NB421_482, NB482_421⟩ := kXY hg hp1 BK421; obtain ⟨NB425_482, NB482_425⟩ := kXY hg hp1 BK425; obtain ⟨NB429_482, NB482_429⟩ := kXY hg hp1 BK429; obtain ⟨NB433_482, NB482_433⟩ := kXY hg hp1 BK433; obtain ⟨NB437_482, NB482_437⟩ := kXY hg hp1 BK437; obtain ⟨NB441_482, NB482_441⟩ := kXY hg hp1 BK441; obtain ⟨NB445_482, NB482_445⟩ := kXY hg hp1 BK445; obtain ⟨NB457_482, NB482_457⟩ := kXY hg hp1 BK457; obtain ⟨NB461_482, NB482_461⟩ := kXY hg hp1 BK461; obtain ⟨NB478_482, NB482_478⟩ := kXY hg hp1 BK478; clear HO_41; clear HB; have HO_41 := n0_; replace BK421 := hp0 BK421; replace BK425 := hp0 BK425; replace BK429 := hp0 BK429; replace BK433 := hp0 BK433; replace BK437 := hp0 BK437; replace BK441 := hp0 BK441; replace BK445 := hp0 BK445; replace BK457 := hp0 BK457; replace BK461 := hp0 BK461; replace BK478 := hp0 BK478; have HB := n11_; have BK482 := n12_; clear n0_ n11_ n12_ hp0 hp1 hv; clear hb hbox hg; have nq266 := kO NB482_421; have nq267 := kO NB482_425; have nq268 := kO NB482_429; have nq269 := kO NB482_433; have nq270 := kO NB482_437; have nq271 := kO NB482_441; have nq272 := kO NB482_445; have nq273 := kO NB482_457; have nq274 := kO NB482_461; have nq275 := kO NB482_478; have hcz276_0 : w265.cell? ⟨gb482, 0, none⟩ = some (.int .i64 0) := (kC BK482.out 0).trans rfl; have hcz276_1 : w265.cell? ⟨gb482, 1, none⟩ = some (.int .i64 0) := (kC BK482.out 1).trans rfl; have hfz276_0 := kF BK482.out 0; have hfz276_1 := kF BK482.out 1))
     (try simp only [Act.put, List.setIfInBounds_toArray, List.set_cons_zero, List.set_cons_succ])
     go_cut [341] from 290 to 340 (fun v341 wc => ∃ (kq : Nat) (x341_233 : Bool), v341 = .bool x341_233 ∧ Aside0 (laws_FnHandsStandOfAll.j1 kq a0 a2 a3 a4 a5 a6 a7 t446 t450 t462 t465 x341_233 a1_0 a1_1 t454 t455 = some r) ∧ Aside0 (kq ≤ kj26) ∧ Aside0 (Kd.R k23 23 wc w.heap.size (fun k_ => k_ ≠ gb421 ∧ k_ ≠ gb425 ∧ k_ ≠ gb429 ∧ k_ ≠ gb433 ∧ k_ ≠ gb437 ∧ k_ ≠ gb441 ∧ k_ ≠ gb445 ∧ k_ ≠ gb457 ∧ k_ ≠ gb461 ∧ k_ ≠ gb478 ∧ k_ ≠ gb482) v463 t462) ∧ Aside0 (wc.heap[gb421]? = some (.cells #[.int .i64 a1_0, .int .i64 a1_1] 23 (0, 0))) ∧ Aside0 (wc.heap[gb425]? = some (.cells #[.int .i64 t422, .int .i64 t423] 23 (0, 0))) ∧ Aside0 (wc.heap[gb429]? = some (.cells #[.int .i64 t426, .int .i64 t427] 23 (0, 0))) ∧ Aside0 (wc.heap[gb433]? = some (.cells #[.int .i64 t430, .int .i64 t431] 23 (0, 0))) ∧ Aside0 (wc.heap[gb437]? = some (.cells #[.int .i64 t434, .int .i64 t435] 23 (0, 0))) ∧ Aside0 (wc.heap[gb441]? = some (.cells #[.int .i64 t438, .int .i64 t439] 23 (0, 0))) ∧ Aside0 (wc.heap[gb445]? = some (.cells #[.int .i64 t442, .int .i64 t443] 23 (0, 0))) ∧ Aside0 (wc.heap[gb457]? = some (.cells #[.int .i64 t454, .int .i64 t455] 23 (0, 0))) ∧ Aside0 (wc.heap[gb461]? = some (.cells #[.int .i64 t458, .int .i64 t459] 23 (0, 0))) ∧ Aside0 (wc.heap[gb478]? = some (.cells #[.int .i64 t475, .int .i64 t476] 23 (0, 0))) ∧ Aside0 (wc.heap[gb482]? = some (.cells #[.int .i64 t479, .int .i64 t480] 23 (0, 0))) ∧ Aside0 (Below w.heap.size w wc))
     case first =>
      have H := HC234.out
      clear HC234
      by_cases c277 : t477 = true
      ·subst c277
       have H1 : (if (!(t475 == t422) || (!(t476 == t423))) = true then (laws_FnHandsStandOfAll.j1 kj26 a0 a2 a3 a4 a5 a6 a7 t446 t450 t462 t465 true a1_0 a1_1 t454 t455) else (if (wrap64 (2 * t438)) > t439 then (laws_FnHandsStandOfAll.j1 kj26 a0 a2 a3 a4 a5 a6 a7 t446 t450 t462 t465 true a1_0 a1_1 t454 t455) else (if t446 < 0 then (laws_FnHandsStandOfAll.j1 kj26 a0 a2 a3 a4 a5 a6 a7 t446 t450 t462 t465 true a1_0 a1_1 t454 t455) else (if t446 ≥ a0 then (laws_FnHandsStandOfAll.j1 kj26 a0 a2 a3 a4 a5 a6 a7 t446 t450 t462 t465 true a1_0 a1_1 t454 t455) else (if t450 < 0 then (laws_FnHandsStandOfAll.j1 kj26 a0 a2 a3 a4 a5 a6 a7 t446 t450 t462 t465 true a1_0 a1_1 t454 t455) else (if t450 > 59 then (laws_FnHandsStandOfAll.j1 kj26 a0 a2 a3 a4 a5 a6 a7 t446 t450 t462 t465 true a1_0 a1_1 t454 t455) else (if t481 = true then (laws_FnHandsStandOfAll.j1 kj26 a0 a2 a3 a4 a5 a6 a7 t446 t450 t462 t465 (!(t479 == a1_0) || (!(t480 == a1_1))) a1_0 a1_1 t454 t455) else (laws_FnHandsStandOfAll.j1 kj26 a0 a2 a3 a4 a5 a6 a7 t446 t450 t462 t465 true a1_0 a1_1 t454 t455)))))))) = some r := by rw [if_pos rfl] at H; exact H
       clear H
       have H := H1
       clear H1
       by_cases c278 : (!(t475 == t422) || (!(t476 == t423))) = true
       ·rw [if_pos c278] at H
        have c278b0 : (!(t475 == t422) || (!(t476 == t423))) = true := c278
        clear c278
        (first | rw [c278b0] | (simp only [i64_w, i32_w]; rw [c278b0]) | skip)
        as_aux_lemma =>
         exact absurd ((laws_FnHandsStandOfAll.j1_no H).symm.trans hlaw.out) (by decide)
       rw [if_neg c278] at H
       have c278b0 : (!(t475 == t422) || (!(t476 == t423))) = false := by simpa using c278
       clear c278
       (first | rw [c278b0] | (simp only [i64_w, i32_w]; rw [c278b0]) | skip)
       by_cases c279 : (wrap64 (2 * t438)) > t439
       ·rw [if_pos c279] at H
        have c279b0 : decide (t439 < (wrap64 (2 * t438))) = true := decide_eq_true c279
        clear c279
        as_aux_lemma =>
         exact absurd ((laws_FnHandsStandOfAll.j1_no H).symm.trans hlaw.out) (by decide)
       rw [if_neg c279] at H
       have c279b0 : decide (t439 < (wrap64 (2 * t438))) = false := decide_eq_false c279
       clear c279
       by_cases c280 : t446 < 0
       ·rw [if_pos c280] at H
        have c280b0 : decide (t446 < 0) = true := decide_eq_true c280
        clear c280
        as_aux_lemma =>
         exact absurd ((laws_FnHandsStandOfAll.j1_no H).symm.trans hlaw.out) (by decide)
       rw [if_neg c280] at H
       have c280b0 : decide (t446 < 0) = false := decide_eq_false c280
       clear c280
       by_cases c281 : t446 ≥ a0
       ·rw [if_pos c281] at H
        have c281b0 : decide (a0 ≤ t446) = true := decide_eq_true c281
        clear c281
        as_aux_lemma =>
         exact absurd ((laws_FnHandsStandOfAll.j1_no H).symm.trans hlaw.out) (by decide)
       rw [if_neg c281] at H
       have c281b0 : decide (a0 ≤ t446) = false := decide_eq_false c281
       clear c281
       by_cases c282 : t450 < 0
       ·rw [if_pos c282] at H
        have c282b0 : decide (t450 < 0) = true := decide_eq_true c282
        clear c282
        as_aux_lemma =>
         exact absurd ((laws_FnHandsStandOfAll.j1_no H).symm.trans hlaw.out) (by decide)
       rw [if_neg c282] at H
       have c282b0 : decide (t450 < 0) = false := decide_eq_false c282
       clear c282
       by_cases c283 : t450 > 59
       ·rw [if_pos c283] at H
        have c283b0 : decide (59 < t450) = true := decide_eq_true c283
        clear c283
        as_aux_lemma =>
         exact absurd ((laws_FnHandsStandOfAll.j1_no H).symm.trans hlaw.out) (by decide)
       rw [if_neg c283] at H
       have c283b0 : decide (59 < t450) = false := decide_eq_false c283
       clear c283
       by_cases c284 : t481 = true
       ·subst c284
        have H1 : (laws_FnHandsStandOfAll.j1 kj26 a0 a2 a3 a4 a5 a6 a7 t446 t450 t462 t465 (!(t479 == a1_0) || (!(t480 == a1_1))) a1_0 a1_1 t454 t455) = some r := by rw [if_pos rfl] at H; exact H
        clear H
        have H := H1
        clear H1
        as_aux_lemma =>
         have H' := Am H
         clear H
         have nq285 := kO NB478_421; have nq286 := kO NB478_425; have nq287 := kO NB478_429; have nq288 := kO NB478_433; have nq289 := kO NB478_437; have nq290 := kO NB478_441; have nq291 := kO NB478_445; have nq292 := kO NB478_457; have nq293 := kO NB478_461; have nq294 := kO NB478_482
         have zq295 := zc2 BK478
         have nq296 := kO NB425_421; have nq297 := kO NB425_429; have nq298 := kO NB425_433; have nq299 := kO NB425_437; have nq300 := kO NB425_441; have nq301 := kO NB425_445; have nq302 := kO NB425_457; have nq303 := kO NB425_461; have nq304 := kO NB425_482
         have zq305 := zc2 BK425
         have nq306 := kO NB441_421; have nq307 := kO NB441_429; have nq308 := kO NB441_433; have nq309 := kO NB441_437; have nq310 := kO NB441_445; have nq311 := kO NB441_457; have nq312 := kO NB441_461; have nq313 := kO NB441_482
         have zq314 := zc2 BK441
         have nq315 := kO NB482_421; have nq316 := kO NB482_429; have nq317 := kO NB482_433; have nq318 := kO NB482_437; have nq319 := kO NB482_445; have nq320 := kO NB482_457; have nq321 := kO NB482_461
         have hcz322_0 : w265.cell? ⟨gb482, 0, none⟩ = some (.int .i64 0) := (kC BK482.out 0).trans rfl
         have hcz322_1 : w265.cell? ⟨gb482, 1, none⟩ = some (.int .i64 0) := (kC BK482.out 1).trans rfl
         have hfz322_0 := kF BK482.out 0
         have hfz322_1 := kF BK482.out 1
         have nq323 := kO NB421_429; have nq324 := kO NB421_433; have nq325 := kO NB421_437; have nq326 := kO NB421_445; have nq327 := kO NB421_457; have nq328 := kO NB421_461
         have zq329 := zc2 BK421
         go_wp2
         go_meet
         case rel => exact ⟨_, ((!(t479 == a1_0) || (!(t480 == a1_1)))), (by first | rfl | (simp; done) | (simp [*]; done)), H', ⟨by have := HJ26.out; first | omega | exact Nat.le_refl _⟩, ⟨by (with_reducible repeat (first | apply Kd.R_alloc | apply Kd.R_drewN | apply Kd.R_drew)); exact Kd.R_mono (Kd.R_far (p := ⟨gb482, 1, none⟩) (Kd.R_far (p := ⟨gb482, 0, none⟩) (Kd.R_mono HO_41.out (fun k_ hk => (⟨hk, hk.2⟩ : _ ∧ k_ ≠ gb482))) (fun _ hk => hk.2) (.int .i64 t479)) (fun _ hk => hk.2) (.int .i64 t480)) (fun _ hk => ⟨hk.1.1.1.1, ⟨hk.1.1.1.2.1, ⟨hk.1.1.1.2.2.1, ⟨hk.1.1.1.2.2.2.1, ⟨hk.1.1.1.2.2.2.2.1, ⟨hk.1.1.1.2.2.2.2.2.1, ⟨hk.1.1.1.2.2.2.2.2.2.1, ⟨hk.1.1.1.2.2.2.2.2.2.2.1, ⟨hk.1.1.1.2.2.2.2.2.2.2.2, ⟨hk.1.1.2, hk.1.2⟩⟩⟩⟩⟩⟩⟩⟩⟩⟩)⟩, ⟨by (with_reducible repeat (first | refine kN ?_ _ | refine kD ?_ | refine kA ?_ _)); refine kR ?_ NB421_482.out _; (with_reducible repeat (first | refine kN ?_ _ | refine kD ?_ | refine kA ?_ _)); refine kR ?_ NB421_482.out _; (with_reducible repeat (first | refine kN ?_ _ | refine kD ?_ | refine kA ?_ _)); exact BK421.out⟩, ⟨by (with_reducible repeat (first | refine kN ?_ _ | refine kD ?_ | refine kA ?_ _)); refine kR ?_ NB425_482.out _; (with_reducible repeat (first | refine kN ?_ _ | refine kD ?_ | refine kA ?_ _)); refine kR ?_ NB425_482.out _; (with_reducible repeat (first | refine kN ?_ _ | refine kD ?_ | refine kA ?_ _)); exact BK425.out⟩, ⟨by (with_reducible repeat (first | refine kN ?_ _ | refine kD ?_ | refine kA ?_ _)); refine kR ?_ NB429_482.out _; (with_reducible repeat (first | refine kN ?_ _ | refine kD ?_ | refine kA ?_ _)); refine kR ?_ NB429_482.out _; (with_reducible repeat (first | refine kN ?_ _ | refine kD ?_ | refine kA ?_ _)); exact BK429.out⟩, ⟨by (with_reducible repeat (first | refine kN ?_ _ | refine kD ?_ | refine kA ?_ _)); refine kR ?_ NB433_482.out _; (with_reducible repeat (first | refine kN ?_ _ | refine kD ?_ | refine kA ?_ _)); refine kR ?_ NB433_482.out _; (with_reducible repeat (first | refine kN ?_ _ | refine kD ?_ | refine kA ?_ _)); exact BK433.out⟩, ⟨by (with_reducible repeat (first | refine kN ?_ _ | refine kD ?_ | refine kA ?_ _)); refine kR ?_ NB437_482.out _; (with_reducible repeat (first | refine kN ?_ _ | refine kD ?_ | refine kA ?_ _)); refine kR ?_ NB437_482.out _; (with_reducible repeat (first | refine kN ?_ _ | refine kD ?_ | refine kA ?_ _)); exact BK437.out⟩, ⟨by (with_reducible repeat (first | refine kN ?_ _ | refine kD ?_ | refine kA ?_ _)); refine kR ?_ NB441_482.out _; (with_reducible repeat (first | refine kN ?_ _ | refine kD ?_ | refine kA ?_ _)); refine kR ?_ NB441_482.out _; (with_reducible repeat (first | refine kN ?_ _ | refine kD ?_ | refine kA ?_ _)); exact BK441.out⟩, ⟨by (with_reducible repeat (first | refine kN ?_ _ | refine kD ?_ | refine kA ?_ _)); refine kR ?_ NB445_482.out _; (with_reducible repeat (first | refine kN ?_ _ | refine kD ?_ | refine kA ?_ _)); refine kR ?_ NB445_482.out _; (with_reducible repeat (first | refine kN ?_ _ | refine kD ?_ | refine kA ?_ _)); exact BK445.out⟩, ⟨by (with_reducible repeat (first | refine kN ?_ _ | refine kD ?_ | refine kA ?_ _)); refine kR ?_ NB457_482.out _; (with_reducible repeat (first | refine kN ?_ _ | refine kD ?_ | refine kA ?_ _)); refine kR ?_ NB457_482.out _; (with_reducible repeat (first | refine kN ?_ _ | refine kD ?_ | refine kA ?_ _)); exact BK457.out⟩, ⟨by (with_reducible repeat (first | refine kN ?_ _ | refine kD ?_ | refine kA ?_ _)); refine kR ?_ NB461_482.out _; (with_reducible repeat (first | refine kN ?_ _ | refine kD ?_ | refine kA ?_ _)); refine kR ?_ NB461_482.out _; (with_reducible repeat (first | refine kN ?_ _ | refine kD ?_ | refine kA ?_ _)); exact BK461.out⟩, ⟨by (with_reducible repeat (first | refine kN ?_ _ | refine kD ?_ | refine kA ?_ _)); refine kR ?_ NB478_482.out _; (with_reducible repeat (first | refine kN ?_ _ | refine kD ?_ | refine kA ?_ _)); refine kR ?_ NB478_482.out _; (with_reducible repeat (first | refine kN ?_ _ | refine kD ?_ | refine kA ?_ _)); exact BK478.out⟩, ⟨by (with_reducible repeat (first | refine kN ?_ _ | refine kD ?_ | refine kA ?_ _)); refine kP (cs := #[.int .i64 t479, .int .i64 0]) ?_ 1 _ rfl; (with_reducible repeat (first | refine kN ?_ _ | refine kD ?_ | refine kA ?_ _)); refine kP (cs := #[.int .i64 0, .int .i64 0]) ?_ 0 _ rfl; (with_reducible repeat (first | refine kN ?_ _ | refine kD ?_ | refine kA ?_ _)); exact BK482.out⟩, ⟨by repeat (first | (with_reducible first | exact HB.out | apply bA | apply bN | apply bD | refine bX ?_ (by assumption)) | exact HB.out)⟩⟩
       replace c284 := Bool.eq_false_iff.mpr c284
       subst c284
       have H1 : (laws_FnHandsStandOfAll.j1 kj26 a0 a2 a3 a4 a5 a6 a7 t446 t450 t462 t465 true a1_0 a1_1 t454 t455) = some r := by rw [if_neg (show ¬ (false = true) by decide)] at H; exact H
       clear H
       have H := H1
       clear H1
       as_aux_lemma =>
        exact absurd ((laws_FnHandsStandOfAll.j1_no H).symm.trans hlaw.out) (by decide)
      replace c277 := Bool.eq_false_iff.mpr c277
      subst c277
      have H1 : (if (wrap64 (2 * t438)) > t439 then (laws_FnHandsStandOfAll.j1 kj26 a0 a2 a3 a4 a5 a6 a7 t446 t450 t462 t465 true a1_0 a1_1 t454 t455) else (if t446 < 0 then (laws_FnHandsStandOfAll.j1 kj26 a0 a2 a3 a4 a5 a6 a7 t446 t450 t462 t465 true a1_0 a1_1 t454 t455) else (if t446 ≥ a0 then (laws_FnHandsStandOfAll.j1 kj26 a0 a2 a3 a4 a5 a6 a7 t446 t450 t462 t465 true a1_0 a1_1 t454 t455) else (if t450 < 0 then (laws_FnHandsStandOfAll.j1 kj26 a0 a2 a3 a4 a5 a6 a7 t446 t450 t462 t465 true a1_0 a1_1 t454 t455) else (if t450 > 59 then (laws_FnHandsStandOfAll.j1 kj26 a0 a2 a3 a4 a5 a6 a7 t446 t450 t462 t465 true a1_0 a1_1 t454 t455) else (if t481 = true then (laws_FnHandsStandOfAll.j1 kj26 a0 a2 a3 a4 a5 a6 a7 t446 t450 t462 t465 (!(t479 == a1_0) || (!(t480 == a1_1))) a1_0 a1_1 t454 t455) else (laws_FnHandsStandOfAll.j1 kj26 a0 a2 a3 a4 a5 a6 a7 t446 t450 t462 t465 true a1_0 a1_1 t454 t455))))))) = some r := by rw [if_neg (show ¬ (false = true) by decide)] at H; exact H
      clear H
      have H := H1
      clear H1
      by_cases c330 : (wrap64 (2 * t438)) > t439
      ·rw [if_pos c330] at H
       have c330b0 : decide (t439 < (wrap64 (2 * t438))) = true := decide_eq_true c330
       clear c330
       as_aux_lemma =>
        exact absurd ((laws_FnHandsStandOfAll.j1_no H).symm.trans hlaw.out) (by decide)
      rw [if_neg c330] at H
      have c330b0 : decide (t439 < (wrap64 (2 * t438))) = false := decide_eq_false c330
      clear c330
      by_cases c331 : t446 < 0
      ·rw [if_pos c331] at H
       have c331b0 : decide (t446 < 0) = true := decide_eq_true c331
       clear c331
       as_aux_lemma =>
        exact absurd ((laws_FnHandsStandOfAll.j1_no H).symm.trans hlaw.out) (by decide)
      rw [if_neg c331] at H
      have c331b0 : decide (t446 < 0) = false := decide_eq_false c331
      clear c331
      by_cases c332 : t446 ≥ a0
      ·rw [if_pos c332] at H
       have c332b0 : decide (a0 ≤ t446) = true := decide_eq_true c332
       clear c332
       as_aux_lemma =>
        exact absurd ((laws_FnHandsStandOfAll.j1_no H).symm.trans hlaw.out) (by decide)
      rw [if_neg c332] at H
      have c332b0 : decide (a0 ≤ t446) = false := decide_eq_false c332
      clear c332
      by_cases c333 : t450 < 0
      ·rw [if_pos c333] at H
       have c333b0 : decide (t450 < 0) = true := decide_eq_true c333
       clear c333
       as_aux_lemma =>
        exact absurd ((laws_FnHandsStandOfAll.j1_no H).symm.trans hlaw.out) (by decide)
      rw [if_neg c333] at H
      have c333b0 : decide (t450 < 0) = false := decide_eq_false c333
      clear c333
      by_cases c334 : t450 > 59
      ·rw [if_pos c334] at H
       have c334b0 : decide (59 < t450) = true := decide_eq_true c334
       clear c334
       as_aux_lemma =>
        exact absurd ((laws_FnHandsStandOfAll.j1_no H).symm.trans hlaw.out) (by decide)
      rw [if_neg c334] at H
      have c334b0 : decide (59 < t450) = false := decide_eq_false c334
      clear c334
      by_cases c335 : t481 = true
      ·subst c335
       have H1 : (laws_FnHandsStandOfAll.j1 kj26 a0 a2 a3 a4 a5 a6 a7 t446 t450 t462 t465 (!(t479 == a1_0) || (!(t480 == a1_1))) a1_0 a1_1 t454 t455) = some r := by rw [if_pos rfl] at H; exact H
       clear H
       have H := H1
       clear H1
       as_aux_lemma =>
        have H' := Am H
        clear H
        have nq336 := kO NB441_421; have nq337 := kO NB441_425; have nq338 := kO NB441_429; have nq339 := kO NB441_433; have nq340 := kO NB441_437; have nq341 := kO NB441_445; have nq342 := kO NB441_457; have nq343 := kO NB441_461; have nq344 := kO NB441_478; have nq345 := kO NB441_482
        have zq346 := zc2 BK441
        have nq347 := kO NB482_421; have nq348 := kO NB482_425; have nq349 := kO NB482_429; have nq350 := kO NB482_433; have nq351 := kO NB482_437; have nq352 := kO NB482_445; have nq353 := kO NB482_457; have nq354 := kO NB482_461; have nq355 := kO NB482_478
        have hcz356_0 : w265.cell? ⟨gb482, 0, none⟩ = some (.int .i64 0) := (kC BK482.out 0).trans rfl
        have hcz356_1 : w265.cell? ⟨gb482, 1, none⟩ = some (.int .i64 0) := (kC BK482.out 1).trans rfl
        have hfz356_0 := kF BK482.out 0
        have hfz356_1 := kF BK482.out 1
        have nq357 := kO NB421_425; have nq358 := kO NB421_429; have nq359 := kO NB421_433; have nq360 := kO NB421_437; have nq361 := kO NB421_445; have nq362 := kO NB421_457; have nq363 := kO NB421_461; have nq364 := kO NB421_478
        have zq365 := zc2 BK421
        go_wp2
        go_meet
        case rel => exact ⟨_, ((!(t479 == a1_0) || (!(t480 == a1_1)))), (by first | rfl | (simp; done) | (simp [*]; done)), H', ⟨by have := HJ26.out; first | omega | exact Nat.le_refl _⟩, ⟨by (with_reducible repeat (first | apply Kd.R_alloc | apply Kd.R_drewN | apply Kd.R_drew)); exact Kd.R_mono (Kd.R_far (p := ⟨gb482, 1, none⟩) (Kd.R_far (p := ⟨gb482, 0, none⟩) (Kd.R_mono HO_41.out (fun k_ hk => (⟨hk, hk.2⟩ : _ ∧ k_ ≠ gb482))) (fun _ hk => hk.2) (.int .i64 t479)) (fun _ hk => hk.2) (.int .i64 t480)) (fun _ hk => ⟨hk.1.1.1.1, ⟨hk.1.1.1.2.1, ⟨hk.1.1.1.2.2.1, ⟨hk.1.1.1.2.2.2.1, ⟨hk.1.1.1.2.2.2.2.1, ⟨hk.1.1.1.2.2.2.2.2.1, ⟨hk.1.1.1.2.2.2.2.2.2.1, ⟨hk.1.1.1.2.2.2.2.2.2.2.1, ⟨hk.1.1.1.2.2.2.2.2.2.2.2, ⟨hk.1.1.2, hk.1.2⟩⟩⟩⟩⟩⟩⟩⟩⟩⟩)⟩, ⟨by (with_reducible repeat (first | refine kN ?_ _ | refine kD ?_ | refine kA ?_ _)); refine kR ?_ NB421_482.out _; (with_reducible repeat (first | refine kN ?_ _ | refine kD ?_ | refine kA ?_ _)); refine kR ?_ NB421_482.out _; (with_reducible repeat (first | refine kN ?_ _ | refine kD ?_ | refine kA ?_ _)); exact BK421.out⟩, ⟨by (with_reducible repeat (first | refine kN ?_ _ | refine kD ?_ | refine kA ?_ _)); refine kR ?_ NB425_482.out _; (with_reducible repeat (first | refine kN ?_ _ | refine kD ?_ | refine kA ?_ _)); refine kR ?_ NB425_482.out _; (with_reducible repeat (first | refine kN ?_ _ | refine kD ?_ | refine kA ?_ _)); exact BK425.out⟩, ⟨by (with_reducible repeat (first | refine kN ?_ _ | refine kD ?_ | refine kA ?_ _)); refine kR ?_ NB429_482.out _; (with_reducible repeat (first | refine kN ?_ _ | refine kD ?_ | refine kA ?_ _)); refine kR ?_ NB429_482.out _; (with_reducible repeat (first | refine kN ?_ _ | refine kD ?_ | refine kA ?_ _)); exact BK429.out⟩, ⟨by (with_reducible repeat (first | refine kN ?_ _ | refine kD ?_ | refine kA ?_ _)); refine kR ?_ NB433_482.out _; (with_reducible repeat (first | refine kN ?_ _ | refine kD ?_ | refine kA ?_ _)); refine kR ?_ NB433_482.out _; (with_reducible repeat (first | refine kN ?_ _ | refine kD ?_ | refine kA ?_ _)); exact BK433.out⟩, ⟨by (with_reducible repeat (first | refine kN ?_ _ | refine kD ?_ | refine kA ?_ _)); refine kR ?_ NB437_482.out _; (with_reducible repeat (first | refine kN ?_ _ | refine kD ?_ | refine kA ?_ _)); refine kR ?_ NB437_482.out _; (with_reducible repeat (first | refine kN ?_ _ | refine kD ?_ | refine kA ?_ _)); exact BK437.out⟩, ⟨by (with_reducible repeat (first | refine kN ?_ _ | refine kD ?_ | refine kA ?_ _)); refine kR ?_ NB441_482.out _; (with_reducible repeat (first | refine kN ?_ _ | refine kD ?_ | refine kA ?_ _)); refine kR ?_ NB441_482.out _; (with_reducible repeat (first | refine kN ?_ _ | refine kD ?_ | refine kA ?_ _)); exact BK441.out⟩, ⟨by (with_reducible repeat (first | refine kN ?_ _ | refine kD ?_ | refine kA ?_ _)); refine kR ?_ NB445_482.out _; (with_reducible repeat (first | refine kN ?_ _ | refine kD ?_ | refine kA ?_ _)); refine kR ?_ NB445_482.out _; (with_reducible repeat (first | refine kN ?_ _ | refine kD ?_ | refine kA ?_ _)); exact BK445.out⟩, ⟨by (with_reducible repeat (first | refine kN ?_ _ | refine kD ?_ | refine kA ?_ _)); refine kR ?_ NB457_482.out _; (with_reducible repeat (first | refine kN ?_ _ | refine kD ?_ | refine kA ?_ _)); refine kR ?_ NB457_482.out _; (with_reducible repeat (first | refine kN ?_ _ | refine kD ?_ | refine kA ?_ _)); exact BK457.out⟩, ⟨by (with_reducible repeat (first | refine kN ?_ _ | refine kD ?_ | refine kA ?_ _)); refine kR ?_ NB461_482.out _; (with_reducible repeat (first | refine kN ?_ _ | refine kD ?_ | refine kA ?_ _)); refine kR ?_ NB461_482.out _; (with_reducible repeat (first | refine kN ?_ _ | refine kD ?_ | refine kA ?_ _)); exact BK461.out⟩, ⟨by (with_reducible repeat (first | refine kN ?_ _ | refine kD ?_ | refine kA ?_ _)); refine kR ?_ NB478_482.out _; (with_reducible repeat (first | refine kN ?_ _ | refine kD ?_ | refine kA ?_ _)); refine kR ?_ NB478_482.out _; (with_reducible repeat (first | refine kN ?_ _ | refine kD ?_ | refine kA ?_ _)); exact BK478.out⟩, ⟨by (with_reducible repeat (first | refine kN ?_ _ | refine kD ?_ | refine kA ?_ _)); refine kP (cs := #[.int .i64 t479, .int .i64 0]) ?_ 1 _ rfl; (with_reducible repeat (first | refine kN ?_ _ | refine kD ?_ | refine kA ?_ _)); refine kP (cs := #[.int .i64 0, .int .i64 0]) ?_ 0 _ rfl; (with_reducible repeat (first | refine kN ?_ _ | refine kD ?_ | refine kA ?_ _)); exact BK482.out⟩, ⟨by repeat (first | (with_reducible first | exact HB.out | apply bA | apply bN | apply bD | refine bX ?_ (by assumption)) | exact HB.out)⟩⟩
      replace c335 := Bool.eq_false_iff.mpr c335
      subst c335
      have H1 : (laws_FnHandsStandOfAll.j1 kj26 a0 a2 a3 a4 a5 a6 a7 t446 t450 t462 t465 true a1_0 a1_1 t454 t455) = some r := by rw [if_neg (show ¬ (false = true) by decide)] at H; exact H
      clear H
      have H := H1
      clear H1
      as_aux_lemma =>
       exact absurd ((laws_FnHandsStandOfAll.j1_no H).symm.trans hlaw.out) (by decide)
     clear HC234
     (try clear c20); (try clear c21); (try clear c229); (try clear c231); (try clear zq104); (try clear zq105); (try clear zq107); (try clear zq109); (try clear zq111); (try clear zq243); (try clear zq251); (try clear zq263); (try clear hcz276_0); (try clear hcz276_1); (try clear zq29); (try clear zq33); (try clear zq34); (try clear zq39); (try clear zq40); (try clear zq46); (try clear zq47); (try clear zq54); (try clear zq55); (try clear zq63); (try clear zq64); (try clear zq73); (try clear zq74); (try clear zq76); (try clear zq78); (try clear zq80); (try clear zq82); (try clear zq92); (try clear zq93); (try clear hfz276_0); (try clear hfz276_1)
     obtain ⟨kq, x341_233, rfl, HA, HJ233, HO_41, BK421, BK425, BK429, BK433, BK437, BK441, BK445, BK457, BK461, BK478, BK482, HB⟩ := hcut
     cases kq with
     | zero => exact absurd HA.out (by simp [laws_FnHandsStandOfAll.j1])
     | succ kj233 =>
      have H := HA.out
      clear HA
      simp only [laws_FnHandsStandOfAll.j1] at H
      by_cases c366 : x341_233 = true
      ·subst c366
       have H1 : (some false) = some r := by rw [if_pos rfl] at H; exact H
       clear H
       have H := H1
       clear H1
       as_aux_lemma =>
        exact absurd ((Option.some.inj H).trans hlaw.out) (by decide)
      replace c366 := Bool.eq_false_iff.mpr c366
      subst c366
      have H1 : (if (wrap64 ((wrap64 ((wrap64 ((wrap64 ((wrap64 ((wrap64 (t446 * 60)) + t450)) * t455)) * a1_1)) + (wrap64 (t454 * a1_1)))) * 1)) = (wrap64 ((wrap64 ((wrap64 (a1_0 * a0)) * 60)) * t455)) then (laws_FnHandsStandOfAll.j2 kj233 a0 a2 a3 a4 a5 a6 a7 t462 t465 a1_0 a1_1) else (some false)) = some r := by rw [if_neg (show ¬ (false = true) by decide)] at H; exact H
      clear H
      have H := H1
      clear H1
      by_cases c367 : (wrap64 ((wrap64 ((wrap64 ((wrap64 ((wrap64 ((wrap64 (t446 * 60)) + t450)) * t455)) * a1_1)) + (wrap64 (t454 * a1_1)))) * 1)) = (wrap64 ((wrap64 ((wrap64 (a1_0 * a0)) * 60)) * t455))
      ·rw [if_pos c367] at H
       have c367b0 : ((wrap64 ((wrap64 ((wrap64 ((wrap64 ((wrap64 ((wrap64 (t446 * 60)) + t450)) * t455)) * a1_1)) + (wrap64 (t454 * a1_1)))) * 1)) == (wrap64 ((wrap64 ((wrap64 (a1_0 * a0)) * 60)) * t455))) = true := beq_iff_eq.mpr c367
       have c367b1 : ((wrap64 ((wrap64 ((wrap64 ((wrap64 ((wrap64 ((wrap64 (t446 * 60)) + t450)) * t455)) * a1_1)) + (wrap64 (t454 * a1_1)))) * 1)) != (wrap64 ((wrap64 ((wrap64 (a1_0 * a0)) * 60)) * t455))) = false := bne_eq_false_iff_eq.mpr c367
       have c367b2 : ((wrap64 (wrap64 ((wrap64 ((wrap64 ((wrap64 ((wrap64 (t446 * 60)) + t450)) * t455)) * a1_1)) + (wrap64 (t454 * a1_1))))) != (wrap64 ((wrap64 ((wrap64 (a1_0 * a0)) * 60)) * t455))) = false := by have h_ := c367b1; rw [Int.mul_one] at h_; exact h_
       have c367b3 : ((wrap64 ((wrap64 ((wrap64 ((wrap64 ((wrap64 (t446 * 60)) + t450)) * t455)) * a1_1)) + (wrap64 (t454 * a1_1)))) != (wrap64 ((wrap64 ((wrap64 (a1_0 * a0)) * 60)) * t455))) = false := by have h_ := c367b2; rw [w64w] at h_; exact h_
       clear c367
       as_aux_lemma =>
        have H' := Am H
        clear H
        have nq368 := kO NB457_421; have nq369 := kO NB457_425; have nq370 := kO NB457_429; have nq371 := kO NB457_433; have nq372 := kO NB457_437; have nq373 := kO NB457_441; have nq374 := kO NB457_445; have nq375 := kO NB457_461; have nq376 := kO NB457_478; have nq377 := kO NB457_482
        have zq378 := zc2 BK457
        have nq379 := kO NB421_425; have nq380 := kO NB421_429; have nq381 := kO NB421_433; have nq382 := kO NB421_437; have nq383 := kO NB421_441; have nq384 := kO NB421_445; have nq385 := kO NB421_461; have nq386 := kO NB421_478; have nq387 := kO NB421_482
        have zq388 := zc2 BK421
        go_wp2
        go_meet
        case rel =>
         refine ⟨_, H', ⟨by have := HJ26.out; have := HJ233.out; first | omega | exact Nat.le_refl _⟩, ⟨by (with_reducible repeat (first | apply Kd.R_alloc | apply Kd.R_drewN | apply Kd.R_drew)); exact Kd.R_mono HO_41.out (fun _ hk => ⟨hk.1, ⟨hk.2.1, ⟨hk.2.2.1, ⟨hk.2.2.2.1, ⟨hk.2.2.2.2.1, ⟨hk.2.2.2.2.2.1, ⟨hk.2.2.2.2.2.2.1, ⟨hk.2.2.2.2.2.2.2.1, hk.2.2.2.2.2.2.2.2.1⟩⟩⟩⟩⟩⟩⟩⟩)⟩, ⟨?_⟩, ⟨?_⟩, ⟨?_⟩, ⟨?_⟩, ⟨?_⟩, ⟨?_⟩, ⟨?_⟩, ⟨?_⟩, ⟨?_⟩, ⟨by repeat (first | (with_reducible first | exact HB.out | apply bA | apply bN | apply bD | refine bX ?_ (by assumption)) | exact HB.out)⟩⟩
         all_goals ((with_reducible repeat (first | refine kN ?_ _ | refine kD ?_ | refine kA ?_ _)); exact Aside0.out (by assumption))
      rw [if_neg c367] at H
      have c367b0 : ((wrap64 ((wrap64 ((wrap64 ((wrap64 ((wrap64 ((wrap64 (t446 * 60)) + t450)) * t455)) * a1_1)) + (wrap64 (t454 * a1_1)))) * 1)) == (wrap64 ((wrap64 ((wrap64 (a1_0 * a0)) * 60)) * t455))) = false := beq_eq_false_iff_ne.mpr c367
      have c367b1 : ((wrap64 ((wrap64 ((wrap64 ((wrap64 ((wrap64 ((wrap64 (t446 * 60)) + t450)) * t455)) * a1_1)) + (wrap64 (t454 * a1_1)))) * 1)) != (wrap64 ((wrap64 ((wrap64 (a1_0 * a0)) * 60)) * t455))) = true := bne_iff_ne.mpr c367
      as_aux_lemma =>
       exact absurd ((Option.some.inj H).trans hlaw.out) (by decide)
    replace c231 := Bool.eq_false_iff.mpr c231
    subst c231
    have H1 : (laws_FnHandsStandOfAll.j2 kj26 a0 a2 a3 a4 a5 a6 a7 t462 t465 a1_0 a1_1) = some r := by rw [if_neg (show ¬ (false = true) by decide)] at H; exact H
    clear H
    have H := H1
    clear H1
    as_aux_lemma =>
     have H' := Am H
     clear H
     go_wp2
     go_meet
     case rel =>
      refine ⟨_, H', ⟨by have := HJ26.out; first | omega | exact Nat.le_refl _⟩, ⟨kW HO_41⟩, ⟨?_⟩, ⟨?_⟩, ⟨?_⟩, ⟨?_⟩, ⟨?_⟩, ⟨?_⟩, ⟨?_⟩, ⟨?_⟩, ⟨?_⟩, ⟨by repeat (first | (with_reducible first | exact HB.out | apply bA | apply bN | apply bD | refine bX ?_ (by assumption)) | exact HB.out)⟩⟩
      all_goals ((with_reducible repeat (first | refine kN ?_ _ | refine kD ?_ | refine kA ?_ _)); exact Aside0.out (by assumption))
   clear HC230
   (try clear c20); (try clear c21); (try clear c229); (try clear zq104); (try clear zq105); (try clear zq107); (try clear zq109); (try clear zq111); (try clear zq29); (try clear zq33); (try clear zq34); (try clear zq39); (try clear zq40); (try clear zq46); (try clear zq47); (try clear zq54); (try clear zq55); (try clear zq63); (try clear zq64); (try clear zq73); (try clear zq74); (try clear zq76); (try clear zq78); (try clear zq80); (try clear zq82); (try clear zq92); (try clear zq93)
   obtain ⟨kq, HA, HJ229, HO_41, BK421, BK425, BK429, BK433, BK437, BK441, BK445, BK457, BK461, HB⟩ := hcut
   cases kq with
   | zero => exact absurd HA.out (by simp [laws_FnHandsStandOfAll.j2])
   | succ kj229 =>
    have H := HA.out
    clear HA
    simp only [laws_FnHandsStandOfAll.j2] at H
    have HC389 := Am H
    clear H
    as_aux_lemma =>
     go_upto_if 369 with (fail)
     go_cut [] from 342 to 369 (fun wc => ∃ (kq : Nat), Aside0 (laws_FnHandsStandOfAll.j5 kq a2 a3 a4 a5 a6 a7 = some r) ∧ Aside0 (kq ≤ kj229) ∧ Aside0 (wc.heap[gb421]? = some (.cells #[.int .i64 a1_0, .int .i64 a1_1] 23 (0, 0))) ∧ Aside0 (wc.heap[gb425]? = some (.cells #[.int .i64 t422, .int .i64 t423] 23 (0, 0))) ∧ Aside0 (wc.heap[gb429]? = some (.cells #[.int .i64 t426, .int .i64 t427] 23 (0, 0))) ∧ Aside0 (wc.heap[gb433]? = some (.cells #[.int .i64 t430, .int .i64 t431] 23 (0, 0))) ∧ Aside0 (wc.heap[gb437]? = some (.cells #[.int .i64 t434, .int .i64 t435] 23 (0, 0))) ∧ Aside0 (wc.heap[gb441]? = some (.cells #[.int .i64 t438, .int .i64 t439] 23 (0, 0))) ∧ Aside0 (wc.heap[gb445]? = some (.cells #[.int .i64 t442, .int .i64 t443] 23 (0, 0))) ∧ Aside0 (wc.heap[gb457]? = some (.cells #[.int .i64 t454, .int .i64 t455] 23 (0, 0))) ∧ Aside0 (wc.heap[gb461]? = some (.cells #[.int .i64 t458, .int .i64 t459] 23 (0, 0))) ∧ Aside0 (Below w.heap.size w wc))
     case first =>
      have H := HC389.out
      clear HC389
      by_cases c390 : t465 = true
      ·subst c390
       have H1 : (if (t462.length : Int) = a0 then ((laws_wRises.f kj229 t462).bind fun t483 => (laws_FnHandsStandOfAll.j3 kj229 a0 a2 a3 a4 a5 a6 a7 t462 (!t483) a1_0 a1_1)) else (laws_FnHandsStandOfAll.j3 kj229 a0 a2 a3 a4 a5 a6 a7 t462 true a1_0 a1_1)) = some r := by rw [if_pos rfl] at H; exact H
       clear H
       have H := H1
       clear H1
       have HC391 := Am H
       clear H
       go_upto_region 30 with (fail)
       go_cut [378] from 370 to 377 (fun v378 wc => ∃ (kq : Nat) (x378_390 : Bool), v378 = .bool x378_390 ∧ Aside0 (laws_FnHandsStandOfAll.j3 kq a0 a2 a3 a4 a5 a6 a7 t462 x378_390 a1_0 a1_1 = some r) ∧ Aside0 (kq ≤ kj229) ∧ Aside0 (Kd.R k23 23 wc w.heap.size (fun k_ => k_ ≠ gb421 ∧ k_ ≠ gb425 ∧ k_ ≠ gb429 ∧ k_ ≠ gb433 ∧ k_ ≠ gb437 ∧ k_ ≠ gb441 ∧ k_ ≠ gb445 ∧ k_ ≠ gb457 ∧ k_ ≠ gb461) v463 t462) ∧ Aside0 (wc.heap[gb421]? = some (.cells #[.int .i64 a1_0, .int .i64 a1_1] 23 (0, 0))) ∧ Aside0 (wc.heap[gb425]? = some (.cells #[.int .i64 t422, .int .i64 t423] 23 (0, 0))) ∧ Aside0 (wc.heap[gb429]? = some (.cells #[.int .i64 t426, .int .i64 t427] 23 (0, 0))) ∧ Aside0 (wc.heap[gb433]? = some (.cells #[.int .i64 t430, .int .i64 t431] 23 (0, 0))) ∧ Aside0 (wc.heap[gb437]? = some (.cells #[.int .i64 t434, .int .i64 t435] 23 (0, 0))) ∧ Aside0 (wc.heap[gb441]? = some (.cells #[.int .i64 t438, .int .i64 t439] 23 (0, 0))) ∧ Aside0 (wc.heap[gb445]? = some (.cells #[.int .i64 t442, .int .i64 t443] 23 (0, 0))) ∧ Aside0 (wc.heap[gb457]? = some (.cells #[.int .i64 t454, .int .i64 t455] 23 (0, 0))) ∧ Aside0 (wc.heap[gb461]? = some (.cells #[.int .i64 t458, .int .i64 t459] 23 (0, 0))) ∧ Aside0 (Below w.heap.size w wc))
       case first =>
        have H := HC391.out
        clear HC391
        by_cases c392 : (t462.length : Int) = a0
        ·rw [if_pos c392] at H
         have c392b0 : ((t462.length : Int) == a0) = true := beq_iff_eq.mpr c392
         have c392b1 : ((t462.length : Int) != a0) = false := bne_eq_false_iff_eq.mpr c392
         clear c392
         (first | rw [c392b0] | (simp only [i64_w, i32_w]; rw [c392b0]) | skip)
         replace H := Option.bind_eq_some_iff.mp H
         obtain ⟨t483, A3930, H⟩ := H
         try dsimp only at H
         have A393 := Am A3930
         clear A3930
         as_aux_lemma =>
          have H' := Am H
          clear H
          obtain ⟨Ao394, co394, eo394⟩ := Kd.R_slice HO_41.out
          subst eo394
          go_wp2_with (first | (go_at_call 23; (with_reducible refine (laws_wRises.calls kj229 _ _ t462 t483 _ ?side1 ?side2 A393.out).mono ?_); (case side1 => repeat (first | exact (Kd.R_reads' HO_41.out).2.2 | (with_reducible refine Kd.C_alloc ?_ _) | (with_reducible refine Kd.C_drewN ?_ _) | (with_reducible refine Kd.C_drew ?_))); (case side2 => exact (Kd.R_reads' HO_41.out).2.1); rintro e w' ⟨rfl, ⟨nd, rfl⟩⟩))
          go_meet
          case rel =>
           refine ⟨_, (!t483), (by first | rfl | (simp; done) | (simp [*]; done)), H', ⟨by have := HJ26.out; have := HJ229.out; first | omega | exact Nat.le_refl _⟩, ⟨kW HO_41⟩, ⟨?_⟩, ⟨?_⟩, ⟨?_⟩, ⟨?_⟩, ⟨?_⟩, ⟨?_⟩, ⟨?_⟩, ⟨?_⟩, ⟨?_⟩, ⟨by repeat (first | (with_reducible first | exact HB.out | apply bA | apply bN | apply bD | refine bX ?_ (by assumption)) | exact HB.out)⟩⟩
           all_goals ((with_reducible repeat (first | refine kN ?_ _ | refine kD ?_ | refine kA ?_ _)); exact Aside0.out (by assumption))
        rw [if_neg c392] at H
        have c392b0 : ((t462.length : Int) == a0) = false := beq_eq_false_iff_ne.mpr c392
        have c392b1 : ((t462.length : Int) != a0) = true := bne_iff_ne.mpr c392
        (first | rw [c392b0] | (simp only [i64_w, i32_w]; rw [c392b0]) | skip)
        as_aux_lemma =>
         exact absurd ((laws_FnHandsStandOfAll.j3_no H).symm.trans hlaw.out) (by decide)
       clear HC391
       (try clear c20); (try clear c21); (try clear c229); (try clear c390); (try clear zq104); (try clear zq105); (try clear zq107); (try clear zq109); (try clear zq111); (try clear zq29); (try clear zq33); (try clear zq34); (try clear zq39); (try clear zq40); (try clear zq46); (try clear zq47); (try clear zq54); (try clear zq55); (try clear zq63); (try clear zq64); (try clear zq73); (try clear zq74); (try clear zq76); (try clear zq78); (try clear zq80); (try clear zq82); (try clear zq92); (try clear zq93)
       obtain ⟨kq, x378_390, rfl, HA, HJ390, HO_41, BK421, BK425, BK429, BK433, BK437, BK441, BK445, BK457, BK461, HB⟩ := hcut
       cases kq with
       | zero => exact absurd HA.out (by simp [laws_FnHandsStandOfAll.j3])
       | succ kj390 =>
        have H := HA.out
        clear HA
        simp only [laws_FnHandsStandOfAll.j3] at H
        by_cases c395 : x378_390 = true
        ·subst c395
         have H1 : (some false) = some r := by rw [if_pos rfl] at H; exact H
         clear H
         have H := H1
         clear H1
         as_aux_lemma =>
          exact absurd ((Option.some.inj H).trans hlaw.out) (by decide)
        replace c395 := Bool.eq_false_iff.mpr c395
        subst c395
        have H1 : (laws_FnHandsStandOfAll.l0 kj390 a0 a2 a3 a4 a5 a6 a7 t462 (t462.length : Int) 0 a1_0 a1_1) = some r := by rw [if_neg (show ¬ (false = true) by decide)] at H; exact H
        clear H
        have H := H1
        clear H1
        have H' := Am H
        clear H
        obtain ⟨Ao396, co396, eo396⟩ := Kd.R_slice HO_41.out
        subst eo396
        go_wp2
        go_loopg [381] kj390 (fun kq v381 w' => ∃ (x381_4 : Int), v381 = .int .i64 x381_4 ∧ Aside0 (laws_FnHandsStandOfAll.l0 kq a0 a2 a3 a4 a5 a6 a7 t462 (t462.length : Int) x381_4 a1_0 a1_1 = some r) ∧ Aside0 (kq ≤ kj390) ∧ Aside0 (Kd.R k23 23 w' w.heap.size (fun k_ => k_ ≠ gb421 ∧ k_ ≠ gb425 ∧ k_ ≠ gb429 ∧ k_ ≠ gb433 ∧ k_ ≠ gb437 ∧ k_ ≠ gb441 ∧ k_ ≠ gb445 ∧ k_ ≠ gb457 ∧ k_ ≠ gb461) (.slice Ao396 t462.length co396) t462) ∧ Aside0 (w'.heap[gb421]? = some (.cells #[.int .i64 a1_0, .int .i64 a1_1] 23 (0, 0))) ∧ Aside0 (w'.heap[gb425]? = some (.cells #[.int .i64 t422, .int .i64 t423] 23 (0, 0))) ∧ Aside0 (w'.heap[gb429]? = some (.cells #[.int .i64 t426, .int .i64 t427] 23 (0, 0))) ∧ Aside0 (w'.heap[gb433]? = some (.cells #[.int .i64 t430, .int .i64 t431] 23 (0, 0))) ∧ Aside0 (w'.heap[gb437]? = some (.cells #[.int .i64 t434, .int .i64 t435] 23 (0, 0))) ∧ Aside0 (w'.heap[gb441]? = some (.cells #[.int .i64 t438, .int .i64 t439] 23 (0, 0))) ∧ Aside0 (w'.heap[gb445]? = some (.cells #[.int .i64 t442, .int .i64 t443] 23 (0, 0))) ∧ Aside0 (w'.heap[gb457]? = some (.cells #[.int .i64 t454, .int .i64 t455] 23 (0, 0))) ∧ Aside0 (w'.heap[gb461]? = some (.cells #[.int .i64 t458, .int .i64 t459] 23 (0, 0))) ∧ Aside0 (Below w.heap.size w w'))
        case atStart => exact ⟨(0), (by first | rfl | (simp; done) | (simp [*]; done)), H', ⟨Nat.le_refl _⟩, ⟨kW HO_41⟩, kV BK421, kV BK425, kV BK429, kV BK433, kV BK437, kV BK441, kV BK445, kV BK457, kV BK461, ⟨by repeat (first | (with_reducible first | exact HB.out | apply bA | apply bN | apply bD | refine bX ?_ (by assumption)) | exact HB.out)⟩⟩
        case round =>
         clear H'
         (try clear c20); (try clear c21); (try clear c229); (try clear c390); (try clear c395); (try clear zq104); (try clear zq105); (try clear zq107); (try clear zq109); (try clear zq111); (try clear zq29); (try clear zq33); (try clear zq34); (try clear zq39); (try clear zq40); (try clear zq46); (try clear zq47); (try clear zq54); (try clear zq55); (try clear zq63); (try clear zq64); (try clear zq73); (try clear zq74); (try clear zq76); (try clear zq78); (try clear zq80); (try clear zq82); (try clear zq92); (try clear zq93)
         obtain ⟨x381_4, rfl, HA, HK4, HO_379, BK421, BK425, BK429, BK433, BK437, BK441, BK445, BK457, BK461, HB⟩ := hrel
         cases gk with
         | zero => exact absurd HA.out (by simp [laws_FnHandsStandOfAll.l0])
         | succ k4 =>
          have H := HA.out
          clear HA
          simp only [laws_FnHandsStandOfAll.l0] at H
          by_cases c397 : x381_4 < (t462.length : Int)
          ·rw [if_pos c397] at H
           have c397b0 : decide (x381_4 < (t462.length : Int)) = true := decide_eq_true c397
           clear c397
           by_cases c398 : 0 ≤ x381_4
           ·rw [if_pos c398] at H
            have c398b0 : decide (0 ≤ x381_4) = true := decide_eq_true c398
            clear c398
            by_cases c399 : x381_4 < (t462.length : Int)
            ·rw [if_pos c399] at H
             have c399b0 : decide (x381_4 < (t462.length : Int)) = true := decide_eq_true c399
             clear c399
             replace H := Option.bind_eq_some_iff.mp H
             obtain ⟨⟨t486, t487, t488⟩, A4000, H⟩ := H
             try dsimp only at H
             have A400 := Am A4000
             clear A4000
             by_cases c401 : t488 = true
             ·subst c401
              have H1 : (if (!(t486 == a1_0) || (!(t487 == a1_1))) = true then (some false) else (laws_FnHandsStandOfAll.l0 k4 a0 a2 a3 a4 a5 a6 a7 t462 (t462.length : Int) (wrap64 (x381_4 + 1)) a1_0 a1_1)) = some r := by rw [if_pos rfl] at H; exact H
              clear H
              have H := H1
              clear H1
              by_cases c402 : (!(t486 == a1_0) || (!(t487 == a1_1))) = true
              ·rw [if_pos c402] at H
               have c402b0 : (!(t486 == a1_0) || (!(t487 == a1_1))) = true := c402
               clear c402
               as_aux_lemma =>
                exact absurd ((Option.some.inj H).trans hlaw.out) (by decide)
              rw [if_neg c402] at H
              have c402b0 : (!(t486 == a1_0) || (!(t487 == a1_1))) = false := by simpa using c402
              clear c402
              as_aux_lemma =>
               have H' := Am H
               clear H
               have p484 : 0 ≤ (x381_4 : Int) := of_decide_eq_true (by first | (with_reducible assumption) | assumption)
               have q484 : x381_4 < (t462.length : Int) := of_decide_eq_true (by first | (with_reducible assumption) | assumption)
               obtain ⟨ad484, e484, hx484_0, hx484_1⟩ := at_T23 (Kd.R_reads' HO_379.out).2.2 x381_4 p484 q484
               cases e484
               replace p484 := eq_true p484
               replace q484 := eq_true q484
               go_wp2_with (first | ((with_reducible refine gate_dst (N := 55) rfl ?_); refine bE 55 #[.int .i64 0, .int .i64 0] 23 ?_; intro gb485 hg w403 hbox hb; have n0_ := Am (Kd.R_below (Kd.R_elderB (kW HO_379) gb485 (Nat.le_of_eq hg.symm)) hb); have hp0 := pA BK421 hb; have hv := vK HB hb; have n10_ := Am (bT hv hb); have n11_ := Am (hbox); have GE485 := kG hg hv; have hp1 := pK BK421 hb; obtain ⟨NB421_485, NB485_421⟩ := kXY hg hp1 BK421; obtain ⟨NB425_485, NB485_425⟩ := kXY hg hp1 BK425; obtain ⟨NB429_485, NB485_429⟩ := kXY hg hp1 BK429; obtain ⟨NB433_485, NB485_433⟩ := kXY hg hp1 BK433; obtain ⟨NB437_485, NB485_437⟩ := kXY hg hp1 BK437; obtain ⟨NB441_485, NB485_441⟩ := kXY hg hp1 BK441; obtain ⟨NB445_485, NB485_445⟩ := kXY hg hp1 BK445; obtain ⟨NB457_485, NB485_457⟩ := kXY hg hp1 BK457; obtain ⟨NB461_485, NB485_461⟩ := kXY hg hp1 BK461; clear HO_379; clear HB; have HO_379 := n0_; replace BK421 := hp0 BK421; replace BK425 := hp0 BK425; replace BK429 := hp0 BK429; replace BK433 := hp0 BK433; replace BK437 := hp0 BK437; replace BK441 := hp0 BK441; replace BK445 := hp0 BK445; replace BK457 := hp0 BK457; replace BK461 := hp0 BK461; have HB := n10_; have BK485 := n11_; clear n0_ n10_ n11_ hp0 hp1 hv; clear hb hbox hg; have nq404 := kO NB485_421; have nq405 := kO NB485_425; have nq406 := kO NB485_429; have nq407 := kO NB485_433; have nq408 := kO NB485_437; have nq409 := kO NB485_441; have nq410 := kO NB485_445; have nq411 := kO NB485_457; have nq412 := kO NB485_461; have zq413 := zc2 BK485) | ((with_reducible refine gate_callee (f := 4) rfl ?_); refine gL (some 388) Tryz.func4 #[.int .i64 a0, .agg #[.int .i64 ((rd_T23 t462 x381_4).f0), .int .i64 ((rd_T23 t462 x381_4).f1)]] rfl ?_; (with_reducible refine (impl_LongHand.calls k4 a0 ((rd_T23 t462 x381_4).f0) ((rd_T23 t462 x381_4).f1) t486 t487 true _ A400.out).mono ?_); rintro e w414 ⟨rfl, hb⟩; refine ⟨_, rfl, ?_⟩; have n0_ := Am (Kd.R_below (by (with_reducible repeat (first | apply Kd.R_alloc | apply Kd.R_drewN | apply Kd.R_drew)); exact (Kd.R_mono (Kd.R_far (p := ⟨gb485, 1, none⟩) (Kd.R_far (p := ⟨gb485, 0, none⟩) (Kd.R_mono HO_379.out (fun k_ hk => (⟨hk, hk.2⟩ : _ ∧ k_ ≠ gb485))) (fun _ hk => hk.2) (.int .i64 ((rd_T23 t462 x381_4).f0))) (fun _ hk => hk.2) (.int .i64 ((rd_T23 t462 x381_4).f1))) (fun _ h_ => h_.1))) hb); have hp0 := pB gb485 BK421 hb; have n10_ := Am (kB (g := gb485) (o := .cells #[.int .i64 ((rd_T23 t462 x381_4).f0), .int .i64 ((rd_T23 t462 x381_4).f1)] 23 (0, 0)) (by (with_reducible repeat (first | refine kN ?_ _ | refine kD ?_ | refine kA ?_ _)); refine kP (cs := #[.int .i64 ((rd_T23 t462 x381_4).f0), .int .i64 0]) ?_ 1 _ rfl; (with_reducible repeat (first | refine kN ?_ _ | refine kD ?_ | refine kA ?_ _)); refine kP (cs := #[.int .i64 0, .int .i64 0]) ?_ 0 _ rfl; (with_reducible repeat (first | refine kN ?_ _ | refine kD ?_ | refine kA ?_ _)); exact BK485.out) hb); have hv := vK HB hb; have n11_ := Am (bT hv hb); clear HO_379; clear BK485; clear HB; have HO_379 := n0_; replace BK421 := hp0 NB421_485 BK421; replace BK425 := hp0 NB425_485 BK425; replace BK429 := hp0 NB429_485 BK429; replace BK433 := hp0 NB433_485 BK433; replace BK437 := hp0 NB437_485 BK437; replace BK441 := hp0 NB441_485 BK441; replace BK445 := hp0 NB445_485 BK445; replace BK457 := hp0 NB457_485 BK457; replace BK461 := hp0 NB461_485 BK461; have BK485 := n10_; have HB := n11_; clear n0_ n10_ n11_ hp0 hv; (try clear hb); (try clear hk)) | ((with_reducible refine gate_dst (N := 56) rfl ?_); refine bE 56 #[.int .i64 0, .int .i64 0] 23 ?_; intro gb489 hg w415 hbox hb; have n0_ := Am (Kd.R_below (Kd.R_elderB (kW HO_379) gb489 (Nat.le_of_eq hg.symm)) hb); have hp0 := pA BK421 hb; have hv := vK HB hb; have n11_ := Am (bT hv hb); have n12_ := Am (hbox); have GE489 := kG hg hv; have hp1 := pK BK421 hb; obtain ⟨NB421_489, NB489_421⟩ := kXY hg hp1 BK421; obtain ⟨NB425_489, NB489_425⟩ := kXY hg hp1 BK425; obtain ⟨NB429_489, NB489_429⟩ := kXY hg hp1 BK429; obtain ⟨NB433_489, NB489_433⟩ := kXY hg hp1 BK433; obtain ⟨NB437_489, NB489_437⟩ := kXY hg hp1 BK437; obtain ⟨NB441_489, NB489_441⟩ := kXY hg hp1 BK441; obtain ⟨NB445_489, NB489_445⟩ := kXY hg hp1 BK445; obtain ⟨NB457_489, NB489_457⟩ := kXY hg hp1 BK457; obtain ⟨NB461_489, NB489_461⟩ := kXY hg hp1 BK461; obtain ⟨NB485_489, NB489_485⟩ := kXY hg hp1 BK485; clear HO_379; clear HB; have HO_379 := n0_; replace BK421 := hp0 BK421; replace BK425 := hp0 BK425; replace BK429 := hp0 BK429; replace BK433 := hp0 BK433; replace BK437 := hp0 BK437; replace BK441 := hp0 BK441; replace BK445 := hp0 BK445; replace BK457 := hp0 BK457; replace BK461 := hp0 BK461; replace BK485 := hp0 BK485; have HB := n11_; have BK489 := n12_; clear n0_ n11_ n12_ hp0 hp1 hv; clear hb hbox hg; have nq416 := kO NB489_421; have nq417 := kO NB489_425; have nq418 := kO NB489_429; have nq419 := kO NB489_433; have nq420 := kO NB489_437; have nq421 := kO NB489_441; have nq422 := kO NB489_445; have nq423 := kO NB489_457; have nq424 := kO NB489_461; have nq425 := kO NB489_485; have hcz426_0 : w415.cell? ⟨gb489, 0, none⟩ = some (.int .i64 0) := (kC BK489.out 0).trans rfl; have hcz426_1 : w415.cell? ⟨gb489, 1, none⟩ = some (.int .i64 0) := (kC BK489.out 1).trans rfl; have hfz426_0 := kF BK489.out 0; have hfz426_1 := kF BK489.out 1; have nq427 := kO NB421_425; have nq428 := kO NB421_429; have nq429 := kO NB421_433; have nq430 := kO NB421_437; have nq431 := kO NB421_441; have nq432 := kO NB421_445; have nq433 := kO NB421_457; have nq434 := kO NB421_461; have zq435 := zc2 BK421))
               go_roundg k4
               case measure => have := HJ26.out; have := HJ229.out; have := HJ390.out; have := HK4.out; omega
               case rel => exact ⟨(wrap64 (x381_4 + 1)), (by first | rfl | (simp; done) | (simp [*]; done)), H', ⟨by have := HJ26.out; have := HJ229.out; have := HJ390.out; have := HK4.out; omega⟩, ⟨by (with_reducible repeat (first | apply Kd.R_alloc | apply Kd.R_drewN | apply Kd.R_drew)); exact Kd.R_mono (Kd.R_far (p := ⟨gb489, 1, none⟩) (Kd.R_far (p := ⟨gb489, 0, none⟩) (Kd.R_mono HO_379.out (fun k_ hk => (⟨hk, hk.2⟩ : _ ∧ k_ ≠ gb489))) (fun _ hk => hk.2) (.int .i64 t486)) (fun _ hk => hk.2) (.int .i64 t487)) (fun _ hk => ⟨hk.1.1.1.1, ⟨hk.1.1.1.2.1, ⟨hk.1.1.1.2.2.1, ⟨hk.1.1.1.2.2.2.1, ⟨hk.1.1.1.2.2.2.2.1, ⟨hk.1.1.1.2.2.2.2.2.1, ⟨hk.1.1.1.2.2.2.2.2.2.1, ⟨hk.1.1.1.2.2.2.2.2.2.2.1, hk.1.1.1.2.2.2.2.2.2.2.2⟩⟩⟩⟩⟩⟩⟩⟩)⟩, ⟨by (with_reducible repeat (first | refine kN ?_ _ | refine kD ?_ | refine kA ?_ _)); refine kR ?_ NB421_489.out _; (with_reducible repeat (first | refine kN ?_ _ | refine kD ?_ | refine kA ?_ _)); refine kR ?_ NB421_489.out _; (with_reducible repeat (first | refine kN ?_ _ | refine kD ?_ | refine kA ?_ _)); exact BK421.out⟩, ⟨by (with_reducible repeat (first | refine kN ?_ _ | refine kD ?_ | refine kA ?_ _)); refine kR ?_ NB425_489.out _; (with_reducible repeat (first | refine kN ?_ _ | refine kD ?_ | refine kA ?_ _)); refine kR ?_ NB425_489.out _; (with_reducible repeat (first | refine kN ?_ _ | refine kD ?_ | refine kA ?_ _)); exact BK425.out⟩, ⟨by (with_reducible repeat (first | refine kN ?_ _ | refine kD ?_ | refine kA ?_ _)); refine kR ?_ NB429_489.out _; (with_reducible repeat (first | refine kN ?_ _ | refine kD ?_ | refine kA ?_ _)); refine kR ?_ NB429_489.out _; (with_reducible repeat (first | refine kN ?_ _ | refine kD ?_ | refine kA ?_ _)); exact BK429.out⟩, ⟨by (with_reducible repeat (first | refine kN ?_ _ | refine kD ?_ | refine kA ?_ _)); refine kR ?_ NB433_489.out _; (with_reducible repeat (first | refine kN ?_ _ | refine kD ?_ | refine kA ?_ _)); refine kR ?_ NB433_489.out _; (with_reducible repeat (first | refine kN ?_ _ | refine kD ?_ | refine kA ?_ _)); exact BK433.out⟩, ⟨by (with_reducible repeat (first | refine kN ?_ _ | refine kD ?_ | refine kA ?_ _)); refine kR ?_ NB437_489.out _; (with_reducible repeat (first | refine kN ?_ _ | refine kD ?_ | refine kA ?_ _)); refine kR ?_ NB437_489.out _; (with_reducible repeat (first | refine kN ?_ _ | refine kD ?_ | refine kA ?_ _)); exact BK437.out⟩, ⟨by (with_reducible repeat (first | refine kN ?_ _ | refine kD ?_ | refine kA ?_ _)); refine kR ?_ NB441_489.out _; (with_reducible repeat (first | refine kN ?_ _ | refine kD ?_ | refine kA ?_ _)); refine kR ?_ NB441_489.out _; (with_reducible repeat (first | refine kN ?_ _ | refine kD ?_ | refine kA ?_ _)); exact BK441.out⟩, ⟨by (with_reducible repeat (first | refine kN ?_ _ | refine kD ?_ | refine kA ?_ _)); refine kR ?_ NB445_489.out _; (with_reducible repeat (first | refine kN ?_ _ | refine kD ?_ | refine kA ?_ _)); refine kR ?_ NB445_489.out _; (with_reducible repeat (first | refine kN ?_ _ | refine kD ?_ | refine kA ?_ _)); exact BK445.out⟩, ⟨by (with_reducible repeat (first | refine kN ?_ _ | refine kD ?_ | refine kA ?_ _)); refine kR ?_ NB457_489.out _; (with_reducible repeat (first | refine kN ?_ _ | refine kD ?_ | refine kA ?_ _)); refine kR ?_ NB457_489.out _; (with_reducible repeat (first | refine kN ?_ _ | refine kD ?_ | refine kA ?_ _)); exact BK457.out⟩, ⟨by (with_reducible repeat (first | refine kN ?_ _ | refine kD ?_ | refine kA ?_ _)); refine kR ?_ NB461_489.out _; (with_reducible repeat (first | refine kN ?_ _ | refine kD ?_ | refine kA ?_ _)); refine kR ?_ NB461_489.out _; (with_reducible repeat (first | refine kN ?_ _ | refine kD ?_ | refine kA ?_ _)); exact BK461.out⟩, ⟨by repeat (first | (with_reducible first | exact HB.out | apply bA | apply bN | apply bD | refine bX ?_ (by assumption)) | exact HB.out)⟩⟩
             replace c401 := Bool.eq_false_iff.mpr c401
             subst c401
             have H1 : (some false) = some r := by rw [if_neg (show ¬ (false = true) by decide)] at H; exact H
             clear H
             have H := H1
             clear H1
             as_aux_lemma =>
              exact absurd ((Option.some.inj H).trans hlaw.out) (by decide)
            rw [if_neg c399] at H
            exact absurd H (by simp)
           rw [if_neg c398] at H
           exact absurd H (by simp)
          rw [if_neg c397] at H
          have c397b0 : decide (x381_4 < (t462.length : Int)) = false := decide_eq_false c397
          clear c397
          as_aux_lemma =>
           have H' := Am H
           clear H
           go_wp2
           go_meet
           case rel =>
            refine ⟨_, H', ⟨by have := HJ26.out; have := HJ229.out; have := HJ390.out; have := HK4.out; first | omega | exact Nat.le_refl _⟩, ⟨?_⟩, ⟨?_⟩, ⟨?_⟩, ⟨?_⟩, ⟨?_⟩, ⟨?_⟩, ⟨?_⟩, ⟨?_⟩, ⟨?_⟩, ⟨by repeat (first | (with_reducible first | exact HB.out | apply bA | apply bN | apply bD | refine bX ?_ (by assumption)) | exact HB.out)⟩⟩
            all_goals ((with_reducible repeat (first | refine kN ?_ _ | refine kD ?_ | refine kA ?_ _)); exact Aside0.out (by assumption))
      replace c390 := Bool.eq_false_iff.mpr c390
      subst c390
      have H1 : (laws_FnHandsStandOfAll.j5 kj229 a2 a3 a4 a5 a6 a7) = some r := by rw [if_neg (show ¬ (false = true) by decide)] at H; exact H
      clear H
      have H := H1
      clear H1
      as_aux_lemma =>
       have H' := Am H
       clear H
       go_wp2
       go_meet
       case rel =>
        refine ⟨_, H', ⟨by have := HJ26.out; have := HJ229.out; first | omega | exact Nat.le_refl _⟩, ⟨?_⟩, ⟨?_⟩, ⟨?_⟩, ⟨?_⟩, ⟨?_⟩, ⟨?_⟩, ⟨?_⟩, ⟨?_⟩, ⟨?_⟩, ⟨by repeat (first | (with_reducible first | exact HB.out | apply bA | apply bN | apply bD | refine bX ?_ (by assumption)) | exact HB.out)⟩⟩
        all_goals ((with_reducible repeat (first | refine kN ?_ _ | refine kD ?_ | refine kA ?_ _)); exact Aside0.out (by assumption))
     clear HC389
     (try clear c20); (try clear c21); (try clear c229); (try clear zq104); (try clear zq105); (try clear zq107); (try clear zq109); (try clear zq111); (try clear zq29); (try clear zq33); (try clear zq34); (try clear zq39); (try clear zq40); (try clear zq46); (try clear zq47); (try clear zq54); (try clear zq55); (try clear zq63); (try clear zq64); (try clear zq73); (try clear zq74); (try clear zq76); (try clear zq78); (try clear zq80); (try clear zq82); (try clear zq92); (try clear zq93)
     obtain ⟨kq, HA, HJ388, BK421, BK425, BK429, BK433, BK437, BK441, BK445, BK457, BK461, HB⟩ := hcut
     cases kq with
     | zero => exact absurd HA.out (by simp [laws_FnHandsStandOfAll.j5])
     | succ kj388 =>
      have H := HA.out
      clear HA
      simp only [laws_FnHandsStandOfAll.j5] at H
      replace H := Option.bind_eq_some_iff.mp H
      obtain ⟨⟨t490, t491, t492⟩, A4360, H⟩ := H
      try dsimp only at H
      have A436 := Am A4360
      clear A4360
      replace H := Option.bind_eq_some_iff.mp H
      obtain ⟨⟨t494, t495, t496⟩, A4370, H⟩ := H
      try dsimp only at H
      have A437 := Am A4370
      clear A4370
      replace H := Option.bind_eq_some_iff.mp H
      obtain ⟨⟨t498, t499, t500⟩, A4380, H⟩ := H
      try dsimp only at H
      have A438 := Am A4380
      clear A4380
      replace H := Option.bind_eq_some_iff.mp H
      obtain ⟨⟨t502, t503, t504⟩, A4390, H⟩ := H
      try dsimp only at H
      have A439 := Am A4390
      clear A4390
      have HC440 := Am H
      clear H
      as_aux_lemma =>
       go_upto_region 43 with (first | ((with_reducible refine gate_callee (f := 24) rfl ?_); refine gL (some 404) Tryz.func24 #[.int .i64 a2, .int .i64 a3, .int .i64 a4, .int .i64 a5] rfl ?_; (with_reducible refine (impl_TimeOf.calls kj388 a2 a3 a4 a5 t490 t491 t492 _ A436.out).mono ?_); rintro e w441 ⟨rfl, hb⟩; refine ⟨_, rfl, ?_⟩; have hp0 := pA BK421 hb; have hv := vK HB hb; have n9_ := Am (bT hv hb); clear HB; replace BK421 := hp0 BK421; replace BK425 := hp0 BK425; replace BK429 := hp0 BK429; replace BK433 := hp0 BK433; replace BK437 := hp0 BK437; replace BK441 := hp0 BK441; replace BK445 := hp0 BK445; replace BK457 := hp0 BK457; replace BK461 := hp0 BK461; have HB := n9_; clear n9_ hp0 hv; (try clear hb)) | ((with_reducible refine gate_dst (N := 58) rfl ?_); refine bE 58 #[.int .i64 0, .int .i64 0] 23 ?_; intro gb493 hg w442 hbox hb; have hp0 := pA BK421 hb; have hv := vK HB hb; have n9_ := Am (bT hv hb); have n10_ := Am (hbox); have GE493 := kG hg hv; have hp1 := pK BK421 hb; obtain ⟨NB421_493, NB493_421⟩ := kXY hg hp1 BK421; obtain ⟨NB425_493, NB493_425⟩ := kXY hg hp1 BK425; obtain ⟨NB429_493, NB493_429⟩ := kXY hg hp1 BK429; obtain ⟨NB433_493, NB493_433⟩ := kXY hg hp1 BK433; obtain ⟨NB437_493, NB493_437⟩ := kXY hg hp1 BK437; obtain ⟨NB441_493, NB493_441⟩ := kXY hg hp1 BK441; obtain ⟨NB445_493, NB493_445⟩ := kXY hg hp1 BK445; obtain ⟨NB457_493, NB493_457⟩ := kXY hg hp1 BK457; obtain ⟨NB461_493, NB493_461⟩ := kXY hg hp1 BK461; clear HB; replace BK421 := hp0 BK421; replace BK425 := hp0 BK425; replace BK429 := hp0 BK429; replace BK433 := hp0 BK433; replace BK437 := hp0 BK437; replace BK441 := hp0 BK441; replace BK445 := hp0 BK445; replace BK457 := hp0 BK457; replace BK461 := hp0 BK461; have HB := n9_; have BK493 := n10_; clear n9_ n10_ hp0 hp1 hv; clear hb hbox hg; have nq443 := kO NB493_421; have nq444 := kO NB493_425; have nq445 := kO NB493_429; have nq446 := kO NB493_433; have nq447 := kO NB493_437; have nq448 := kO NB493_441; have nq449 := kO NB493_445; have nq450 := kO NB493_457; have nq451 := kO NB493_461; have zq452 := zc2 BK493) | ((with_reducible refine gate_callee (f := 25) rfl ?_); refine gL (some 412) Tryz.func25 #[.int .i64 a2, .int .i64 a3, .int .i64 a4, .int .i64 a5] rfl ?_; (with_reducible refine (spec_TimeOf.calls kj388 a2 a3 a4 a5 t494 t495 t496 _ A437.out).mono ?_); rintro e w453 ⟨rfl, hb⟩; refine ⟨_, rfl, ?_⟩; have hp0 := pB gb493 BK421 hb; have n9_ := Am (kB (g := gb493) (o := .cells #[.int .i64 t490, .int .i64 t491] 23 (0, 0)) (by (with_reducible repeat (first | refine kN ?_ _ | refine kD ?_ | refine kA ?_ _)); refine kP (cs := #[.int .i64 t490, .int .i64 0]) ?_ 1 _ rfl; (with_reducible repeat (first | refine kN ?_ _ | refine kD ?_ | refine kA ?_ _)); refine kP (cs := #[.int .i64 0, .int .i64 0]) ?_ 0 _ rfl; (with_reducible repeat (first | refine kN ?_ _ | refine kD ?_ | refine kA ?_ _)); exact BK493.out) hb); have hv := vK HB hb; have n10_ := Am (bT hv hb); clear BK493; clear HB; replace BK421 := hp0 NB421_493 BK421; replace BK425 := hp0 NB425_493 BK425; replace BK429 := hp0 NB429_493 BK429; replace BK433 := hp0 NB433_493 BK433; replace BK437 := hp0 NB437_493 BK437; replace BK441 := hp0 NB441_493 BK441; replace BK445 := hp0 NB445_493 BK445; replace BK457 := hp0 NB457_493 BK457; replace BK461 := hp0 NB461_493 BK461; have BK493 := n9_; have HB := n10_; clear n9_ n10_ hp0 hv; (try clear hb)) | ((with_reducible refine gate_dst (N := 60) rfl ?_); refine bE 60 #[.int .i64 0, .int .i64 0] 23 ?_; intro gb497 hg w454 hbox hb; have hp0 := pA BK421 hb; have hv := vK HB hb; have n10_ := Am (bT hv hb); have n11_ := Am (hbox); have GE497 := kG hg hv; have hp1 := pK BK421 hb; obtain ⟨NB421_497, NB497_421⟩ := kXY hg hp1 BK421; obtain ⟨NB425_497, NB497_425⟩ := kXY hg hp1 BK425; obtain ⟨NB429_497, NB497_429⟩ := kXY hg hp1 BK429; obtain ⟨NB433_497, NB497_433⟩ := kXY hg hp1 BK433; obtain ⟨NB437_497, NB497_437⟩ := kXY hg hp1 BK437; obtain ⟨NB441_497, NB497_441⟩ := kXY hg hp1 BK441; obtain ⟨NB445_497, NB497_445⟩ := kXY hg hp1 BK445; obtain ⟨NB457_497, NB497_457⟩ := kXY hg hp1 BK457; obtain ⟨NB461_497, NB497_461⟩ := kXY hg hp1 BK461; obtain ⟨NB493_497, NB497_493⟩ := kXY hg hp1 BK493; clear HB; replace BK421 := hp0 BK421; replace BK425 := hp0 BK425; replace BK429 := hp0 BK429; replace BK433 := hp0 BK433; replace BK437 := hp0 BK437; replace BK441 := hp0 BK441; replace BK445 := hp0 BK445; replace BK457 := hp0 BK457; replace BK461 := hp0 BK461; replace BK493 := hp0 BK493; have HB := n10_; have BK497 := n11_; clear n10_ n11_ hp0 hp1 hv; clear hb hbox hg; have nq455 := kO NB497_421; have nq456 := kO NB497_425; have nq457 := kO NB497_429; have nq458 := kO NB497_433; have nq459 := kO NB497_437; have nq460 := kO NB497_441; have nq461 := kO NB497_445; have nq462 := kO NB497_457; have nq463 := kO NB497_461; have nq464 := kO NB497_493; have zq465 := zc2 BK497) | ((with_reducible refine gate_callee (f := 22) rfl ?_); refine gL (some 418) Tryz.func22 #[.int .i64 a6, .string a7] rfl ?_; (with_reducible refine (impl_ParseTime.calls kj388 a6 a7 t498 t499 t500 _ (tabs_stay TABH_.out (show Below w.heap.size w _ from by repeat (first | (with_reducible first | exact HB.out | apply bA | apply bN | apply bD | refine bX ?_ (by assumption)) | exact HB.out))) A438.out).mono ?_); rintro e w466 ⟨rfl, hb⟩; refine ⟨_, rfl, ?_⟩; have hp0 := pB gb497 BK421 hb; have n10_ := Am (kB (g := gb497) (o := .cells #[.int .i64 t494, .int .i64 t495] 23 (0, 0)) (by (with_reducible repeat (first | refine kN ?_ _ | refine kD ?_ | refine kA ?_ _)); refine kP (cs := #[.int .i64 t494, .int .i64 0]) ?_ 1 _ rfl; (with_reducible repeat (first | refine kN ?_ _ | refine kD ?_ | refine kA ?_ _)); refine kP (cs := #[.int .i64 0, .int .i64 0]) ?_ 0 _ rfl; (with_reducible repeat (first | refine kN ?_ _ | refine kD ?_ | refine kA ?_ _)); exact BK497.out) hb); have hv := vK HB hb; have n11_ := Am (bT hv hb); clear BK497; clear HB; replace BK421 := hp0 NB421_497 BK421; replace BK425 := hp0 NB425_497 BK425; replace BK429 := hp0 NB429_497 BK429; replace BK433 := hp0 NB433_497 BK433; replace BK437 := hp0 NB437_497 BK437; replace BK441 := hp0 NB441_497 BK441; replace BK445 := hp0 NB445_497 BK445; replace BK457 := hp0 NB457_497 BK457; replace BK461 := hp0 NB461_497 BK461; replace BK493 := hp0 NB493_497 BK493; have BK497 := n10_; have HB := n11_; clear n10_ n11_ hp0 hv; (try clear hb)) | ((with_reducible refine gate_dst (N := 62) rfl ?_); refine bE 62 #[.int .i64 0, .int .i64 0] 23 ?_; intro gb501 hg w467 hbox hb; have hp0 := pA BK421 hb; have hv := vK HB hb; have n11_ := Am (bT hv hb); have n12_ := Am (hbox); have GE501 := kG hg hv; have hp1 := pK BK421 hb; obtain ⟨NB421_501, NB501_421⟩ := kXY hg hp1 BK421; obtain ⟨NB425_501, NB501_425⟩ := kXY hg hp1 BK425; obtain ⟨NB429_501, NB501_429⟩ := kXY hg hp1 BK429; obtain ⟨NB433_501, NB501_433⟩ := kXY hg hp1 BK433; obtain ⟨NB437_501, NB501_437⟩ := kXY hg hp1 BK437; obtain ⟨NB441_501, NB501_441⟩ := kXY hg hp1 BK441; obtain ⟨NB445_501, NB501_445⟩ := kXY hg hp1 BK445; obtain ⟨NB457_501, NB501_457⟩ := kXY hg hp1 BK457; obtain ⟨NB461_501, NB501_461⟩ := kXY hg hp1 BK461; obtain ⟨NB493_501, NB501_493⟩ := kXY hg hp1 BK493; obtain ⟨NB497_501, NB501_497⟩ := kXY hg hp1 BK497; clear HB; replace BK421 := hp0 BK421; replace BK425 := hp0 BK425; replace BK429 := hp0 BK429; replace BK433 := hp0 BK433; replace BK437 := hp0 BK437; replace BK441 := hp0 BK441; replace BK445 := hp0 BK445; replace BK457 := hp0 BK457; replace BK461 := hp0 BK461; replace BK493 := hp0 BK493; replace BK497 := hp0 BK497; have HB := n11_; have BK501 := n12_; clear n11_ n12_ hp0 hp1 hv; clear hb hbox hg; have nq468 := kO NB501_421; have nq469 := kO NB501_425; have nq470 := kO NB501_429; have nq471 := kO NB501_433; have nq472 := kO NB501_437; have nq473 := kO NB501_441; have nq474 := kO NB501_445; have nq475 := kO NB501_457; have nq476 := kO NB501_461; have nq477 := kO NB501_493; have nq478 := kO NB501_497; have zq479 := zc2 BK501) | ((with_reducible refine gate_callee (f := 26) rfl ?_); refine gL (some 424) Tryz.func26 #[.int .i64 a6, .string a7] rfl ?_; (with_reducible refine (spec_ParseTime.calls kj388 a6 a7 t502 t503 t504 _ A439.out).mono ?_); rintro e w480 ⟨rfl, hb⟩; refine ⟨_, rfl, ?_⟩; have hp0 := pB gb501 BK421 hb; have n11_ := Am (kB (g := gb501) (o := .cells #[.int .i64 t498, .int .i64 t499] 23 (0, 0)) (by (with_reducible repeat (first | refine kN ?_ _ | refine kD ?_ | refine kA ?_ _)); refine kP (cs := #[.int .i64 t498, .int .i64 0]) ?_ 1 _ rfl; (with_reducible repeat (first | refine kN ?_ _ | refine kD ?_ | refine kA ?_ _)); refine kP (cs := #[.int .i64 0, .int .i64 0]) ?_ 0 _ rfl; (with_reducible repeat (first | refine kN ?_ _ | refine kD ?_ | refine kA ?_ _)); exact BK501.out) hb); have hv := vK HB hb; have n12_ := Am (bT hv hb); clear BK501; clear HB; replace BK421 := hp0 NB421_501 BK421; replace BK425 := hp0 NB425_501 BK425; replace BK429 := hp0 NB429_501 BK429; replace BK433 := hp0 NB433_501 BK433; replace BK437 := hp0 NB437_501 BK437; replace BK441 := hp0 NB441_501 BK441; replace BK445 := hp0 NB445_501 BK445; replace BK457 := hp0 NB457_501 BK457; replace BK461 := hp0 NB461_501 BK461; replace BK493 := hp0 NB493_501 BK493; replace BK497 := hp0 NB497_501 BK497; have BK501 := n11_; have HB := n12_; clear n11_ n12_ hp0 hv; (try clear hb)) | ((with_reducible refine gate_dst (N := 64) rfl ?_); refine bE 64 #[.int .i64 0, .int .i64 0] 23 ?_; intro gb505 hg w481 hbox hb; have hp0 := pA BK421 hb; have hv := vK HB hb; have n12_ := Am (bT hv hb); have n13_ := Am (hbox); have GE505 := kG hg hv; have hp1 := pK BK421 hb; obtain ⟨NB421_505, NB505_421⟩ := kXY hg hp1 BK421; obtain ⟨NB425_505, NB505_425⟩ := kXY hg hp1 BK425; obtain ⟨NB429_505, NB505_429⟩ := kXY hg hp1 BK429; obtain ⟨NB433_505, NB505_433⟩ := kXY hg hp1 BK433; obtain ⟨NB437_505, NB505_437⟩ := kXY hg hp1 BK437; obtain ⟨NB441_505, NB505_441⟩ := kXY hg hp1 BK441; obtain ⟨NB445_505, NB505_445⟩ := kXY hg hp1 BK445; obtain ⟨NB457_505, NB505_457⟩ := kXY hg hp1 BK457; obtain ⟨NB461_505, NB505_461⟩ := kXY hg hp1 BK461; obtain ⟨NB493_505, NB505_493⟩ := kXY hg hp1 BK493; obtain ⟨NB497_505, NB505_497⟩ := kXY hg hp1 BK497; obtain ⟨NB501_505, NB505_501⟩ := kXY hg hp1 BK501; clear HB; replace BK421 := hp0 BK421; replace BK425 := hp0 BK425; replace BK429 := hp0 BK429; replace BK433 := hp0 BK433; replace BK437 := hp0 BK437; replace BK441 := hp0 BK441; replace BK445 := hp0 BK445; replace BK457 := hp0 BK457; replace BK461 := hp0 BK461; replace BK493 := hp0 BK493; replace BK497 := hp0 BK497; replace BK501 := hp0 BK501; have HB := n12_; have BK505 := n13_; clear n12_ n13_ hp0 hp1 hv; clear hb hbox hg; have nq482 := kO NB505_421; have nq483 := kO NB505_425; have nq484 := kO NB505_429; have nq485 := kO NB505_433; have nq486 := kO NB505_437; have nq487 := kO NB505_441; have nq488 := kO NB505_445; have nq489 := kO NB505_457; have nq490 := kO NB505_461; have nq491 := kO NB505_493; have nq492 := kO NB505_497; have nq493 := kO NB505_501; have zq494 := zc2 BK505))
       (try simp only [Act.put, List.setIfInBounds_toArray, List.set_cons_zero, List.set_cons_succ])
       go_cut [444] from 379 to 443 (fun v444 wc => ∃ (kq : Nat) (x444_439 : Bool), v444 = .bool x444_439 ∧ Aside0 (laws_FnHandsStandOfAll.j6 kq a2 a3 a4 a5 a6 a7 t492 t500 x444_439 t490 t491 t498 t499 = some r) ∧ Aside0 (kq ≤ kj388) ∧ Aside0 (wc.heap[gb421]? = some (.cells #[.int .i64 a1_0, .int .i64 a1_1] 23 (0, 0))) ∧ Aside0 (wc.heap[gb425]? = some (.cells #[.int .i64 t422, .int .i64 t423] 23 (0, 0))) ∧ Aside0 (wc.heap[gb429]? = some (.cells #[.int .i64 t426, .int .i64 t427] 23 (0, 0))) ∧ Aside0 (wc.heap[gb433]? = some (.cells #[.int .i64 t430, .int .i64 t431] 23 (0, 0))) ∧ Aside0 (wc.heap[gb437]? = some (.cells #[.int .i64 t434, .int .i64 t435] 23 (0, 0))) ∧ Aside0 (wc.heap[gb441]? = some (.cells #[.int .i64 t438, .int .i64 t439] 23 (0, 0))) ∧ Aside0 (wc.heap[gb445]? = some (.cells #[.int .i64 t442, .int .i64 t443] 23 (0, 0))) ∧ Aside0 (wc.heap[gb457]? = some (.cells #[.int .i64 t454, .int .i64 t455] 23 (0, 0))) ∧ Aside0 (wc.heap[gb461]? = some (.cells #[.int .i64 t458, .int .i64 t459] 23 (0, 0))) ∧ Aside0 (wc.heap[gb493]? = some (.cells #[.int .i64 t490, .int .i64 t491] 23 (0, 0))) ∧ Aside0 (wc.heap[gb497]? = some (.cells #[.int .i64 t494, .int .i64 t495] 23 (0, 0))) ∧ Aside0 (wc.heap[gb501]? = some (.cells #[.int .i64 t498, .int .i64 t499] 23 (0, 0))) ∧ Aside0 (wc.heap[gb505]? = some (.cells #[.int .i64 t502, .int .i64 t503] 23 (0, 0))) ∧ Aside0 (Below w.heap.size w wc))
       case first =>
        have H := HC440.out
        clear HC440
        by_cases c495 : (t492 != t496) = true
        ·rw [if_pos c495] at H
         have c495b0 : (t492 != t496) = true := c495
         (try (have c495b1 : decide (t492 = t496) = false := by simpa using c495))
         (try (have c495b2 : (t492 == t496) = false := by simpa using c495))
         (try (have c495b3 : ¬ (t492 = t496) := by simpa using c495))
         clear c495
         (first | rw [c495b0] | (simp only [i64_w, i32_w]; rw [c495b0]) | skip)
         as_aux_lemma =>
          exact absurd ((laws_FnHandsStandOfAll.j6_no H).symm.trans hlaw.out) (by decide)
        rw [if_neg c495] at H
        have c495b0 : (t492 != t496) = false := by simpa using c495
        (try (have c495b1 : decide (t492 = t496) = true := by simpa using c495))
        (try (have c495b2 : (t492 == t496) = true := by simpa using c495))
        clear c495
        (first | rw [c495b0] | (simp only [i64_w, i32_w]; rw [c495b0]) | skip)
        by_cases c496 : (!(t490 == t494) || (!(t491 == t495))) = true
        ·rw [if_pos c496] at H
         have c496b0 : (!(t490 == t494) || (!(t491 == t495))) = true := c496
         clear c496
         as_aux_lemma =>
          exact absurd ((laws_FnHandsStandOfAll.j6_no H).symm.trans hlaw.out) (by decide)
        rw [if_neg c496] at H
        have c496b0 : (!(t490 == t494) || (!(t491 == t495))) = false := by simpa using c496
        clear c496
        by_cases c497 : (t500 != t504) = true
        ·rw [if_pos c497] at H
         have c497b0 : (t500 != t504) = true := c497
         (try (have c497b1 : decide (t500 = t504) = false := by simpa using c497))
         (try (have c497b2 : (t500 == t504) = false := by simpa using c497))
         (try (have c497b3 : ¬ (t500 = t504) := by simpa using c497))
         clear c497
         as_aux_lemma =>
          exact absurd ((laws_FnHandsStandOfAll.j6_no H).symm.trans hlaw.out) (by decide)
        rw [if_neg c497] at H
        have c497b0 : (t500 != t504) = false := by simpa using c497
        (try (have c497b1 : decide (t500 = t504) = true := by simpa using c497))
        (try (have c497b2 : (t500 == t504) = true := by simpa using c497))
        clear c497
        as_aux_lemma =>
         have H' := Am H
         clear H
         have nq498 := kO NB493_421; have nq499 := kO NB493_425; have nq500 := kO NB493_429; have nq501 := kO NB493_433; have nq502 := kO NB493_437; have nq503 := kO NB493_441; have nq504 := kO NB493_445; have nq505 := kO NB493_457; have nq506 := kO NB493_461; have nq507 := kO NB493_497; have nq508 := kO NB493_501; have nq509 := kO NB493_505
         have zq510 := zc2 BK493
         have nq511 := kO NB497_421; have nq512 := kO NB497_425; have nq513 := kO NB497_429; have nq514 := kO NB497_433; have nq515 := kO NB497_437; have nq516 := kO NB497_441; have nq517 := kO NB497_445; have nq518 := kO NB497_457; have nq519 := kO NB497_461; have nq520 := kO NB497_501; have nq521 := kO NB497_505
         have zq522 := zc2 BK497
         have nq523 := kO NB501_421; have nq524 := kO NB501_425; have nq525 := kO NB501_429; have nq526 := kO NB501_433; have nq527 := kO NB501_437; have nq528 := kO NB501_441; have nq529 := kO NB501_445; have nq530 := kO NB501_457; have nq531 := kO NB501_461; have nq532 := kO NB501_505
         have zq533 := zc2 BK501
         have nq534 := kO NB505_421; have nq535 := kO NB505_425; have nq536 := kO NB505_429; have nq537 := kO NB505_433; have nq538 := kO NB505_437; have nq539 := kO NB505_441; have nq540 := kO NB505_445; have nq541 := kO NB505_457; have nq542 := kO NB505_461
         have zq543 := zc2 BK505
         go_wp2
         go_meet
         case rel => exact ⟨_, ((!(t498 == t502) || (!(t499 == t503)))), (by first | rfl | (simp; done) | (simp [*]; done)), H', ⟨by have := HJ26.out; have := HJ229.out; have := HJ388.out; first | omega | exact Nat.le_refl _⟩, ⟨by (with_reducible repeat (first | refine kN ?_ _ | refine kD ?_ | refine kA ?_ _)); refine kR ?_ NB421_505.out _; (with_reducible repeat (first | refine kN ?_ _ | refine kD ?_ | refine kA ?_ _)); refine kR ?_ NB421_505.out _; (with_reducible repeat (first | refine kN ?_ _ | refine kD ?_ | refine kA ?_ _)); exact BK421.out⟩, ⟨by (with_reducible repeat (first | refine kN ?_ _ | refine kD ?_ | refine kA ?_ _)); refine kR ?_ NB425_505.out _; (with_reducible repeat (first | refine kN ?_ _ | refine kD ?_ | refine kA ?_ _)); refine kR ?_ NB425_505.out _; (with_reducible repeat (first | refine kN ?_ _ | refine kD ?_ | refine kA ?_ _)); exact BK425.out⟩, ⟨by (with_reducible repeat (first | refine kN ?_ _ | refine kD ?_ | refine kA ?_ _)); refine kR ?_ NB429_505.out _; (with_reducible repeat (first | refine kN ?_ _ | refine kD ?_ | refine kA ?_ _)); refine kR ?_ NB429_505.out _; (with_reducible repeat (first | refine kN ?_ _ | refine kD ?_ | refine kA ?_ _)); exact BK429.out⟩, ⟨by (with_reducible repeat (first | refine kN ?_ _ | refine kD ?_ | refine kA ?_ _)); refine kR ?_ NB433_505.out _; (with_reducible repeat (first | refine kN ?_ _ | refine kD ?_ | refine kA ?_ _)); refine kR ?_ NB433_505.out _; (with_reducible repeat (first | refine kN ?_ _ | refine kD ?_ | refine kA ?_ _)); exact BK433.out⟩, ⟨by (with_reducible repeat (first | refine kN ?_ _ | refine kD ?_ | refine kA ?_ _)); refine kR ?_ NB437_505.out _; (with_reducible repeat (first | refine kN ?_ _ | refine kD ?_ | refine kA ?_ _)); refine kR ?_ NB437_505.out _; (with_reducible repeat (first | refine kN ?_ _ | refine kD ?_ | refine kA ?_ _)); exact BK437.out⟩, ⟨by (with_reducible repeat (first | refine kN ?_ _ | refine kD ?_ | refine kA ?_ _)); refine kR ?_ NB441_505.out _; (with_reducible repeat (first | refine kN ?_ _ | refine kD ?_ | refine kA ?_ _)); refine kR ?_ NB441_505.out _; (with_reducible repeat (first | refine kN ?_ _ | refine kD ?_ | refine kA ?_ _)); exact BK441.out⟩, ⟨by (with_reducible repeat (first | refine kN ?_ _ | refine kD ?_ | refine kA ?_ _)); refine kR ?_ NB445_505.out _; (with_reducible repeat (first | refine kN ?_ _ | refine kD ?_ | refine kA ?_ _)); refine kR ?_ NB445_505.out _; (with_reducible repeat (first | refine kN ?_ _ | refine kD ?_ | refine kA ?_ _)); exact BK445.out⟩, ⟨by (with_reducible repeat (first | refine kN ?_ _ | refine kD ?_ | refine kA ?_ _)); refine kR ?_ NB457_505.out _; (with_reducible repeat (first | refine kN ?_ _ | refine kD ?_ | refine kA ?_ _)); refine kR ?_ NB457_505.out _; (with_reducible repeat (first | refine kN ?_ _ | refine kD ?_ | refine kA ?_ _)); exact BK457.out⟩, ⟨by (with_reducible repeat (first | refine kN ?_ _ | refine kD ?_ | refine kA ?_ _)); refine kR ?_ NB461_505.out _; (with_reducible repeat (first | refine kN ?_ _ | refine kD ?_ | refine kA ?_ _)); refine kR ?_ NB461_505.out _; (with_reducible repeat (first | refine kN ?_ _ | refine kD ?_ | refine kA ?_ _)); exact BK461.out⟩, ⟨by (with_reducible repeat (first | refine kN ?_ _ | refine kD ?_ | refine kA ?_ _)); refine kR ?_ NB493_505.out _; (with_reducible repeat (first | refine kN ?_ _ | refine kD ?_ | refine kA ?_ _)); refine kR ?_ NB493_505.out _; (with_reducible repeat (first | refine kN ?_ _ | refine kD ?_ | refine kA ?_ _)); exact BK493.out⟩, ⟨by (with_reducible repeat (first | refine kN ?_ _ | refine kD ?_ | refine kA ?_ _)); refine kR ?_ NB497_505.out _; (with_reducible repeat (first | refine kN ?_ _ | refine kD ?_ | refine kA ?_ _)); refine kR ?_ NB497_505.out _; (with_reducible repeat (first | refine kN ?_ _ | refine kD ?_ | refine kA ?_ _)); exact BK497.out⟩, ⟨by (with_reducible repeat (first | refine kN ?_ _ | refine kD ?_ | refine kA ?_ _)); refine kR ?_ NB501_505.out _; (with_reducible repeat (first | refine kN ?_ _ | refine kD ?_ | refine kA ?_ _)); refine kR ?_ NB501_505.out _; (with_reducible repeat (first | refine kN ?_ _ | refine kD ?_ | refine kA ?_ _)); exact BK501.out⟩, ⟨by (with_reducible repeat (first | refine kN ?_ _ | refine kD ?_ | refine kA ?_ _)); refine kP (cs := #[.int .i64 t502, .int .i64 0]) ?_ 1 _ rfl; (with_reducible repeat (first | refine kN ?_ _ | refine kD ?_ | refine kA ?_ _)); refine kP (cs := #[.int .i64 0, .int .i64 0]) ?_ 0 _ rfl; (with_reducible repeat (first | refine kN ?_ _ | refine kD ?_ | refine kA ?_ _)); exact BK505.out⟩, ⟨by repeat (first | (with_reducible first | exact HB.out | apply bA | apply bN | apply bD | refine bX ?_ (by assumption)) | exact HB.out)⟩⟩
       clear HC440
       (try clear zq104); (try clear zq105); (try clear zq107); (try clear zq109); (try clear zq111); (try clear zq29); (try clear zq33); (try clear zq34); (try clear zq39); (try clear zq40); (try clear zq452); (try clear zq465); (try clear zq46); (try clear zq479); (try clear zq47); (try clear zq494); (try clear zq54); (try clear zq55); (try clear zq63); (try clear zq64); (try clear zq73); (try clear zq74); (try clear zq76); (try clear zq78); (try clear zq80); (try clear zq82); (try clear zq92); (try clear zq93)
       obtain ⟨kq, x444_439, rfl, HA, HJ439, BK421, BK425, BK429, BK433, BK437, BK441, BK445, BK457, BK461, BK493, BK497, BK501, BK505, HB⟩ := hcut
       cases kq with
       | zero => exact absurd HA.out (by simp [laws_FnHandsStandOfAll.j6])
       | succ kj439 =>
        have H := HA.out
        clear HA
        simp only [laws_FnHandsStandOfAll.j6] at H
        by_cases c544 : x444_439 = true
        ·subst c544
         have H1 : (some false) = some r := by rw [if_pos rfl] at H; exact H
         clear H
         have H := H1
         clear H1
         as_aux_lemma =>
          exact absurd ((Option.some.inj H).trans hlaw.out) (by decide)
        replace c544 := Bool.eq_false_iff.mpr c544
        subst c544
        have H1 : (if t492 = true then ((impl_HourOf.f kj439 a2 t490 t491).bind fun bt506 => ((impl_MinuteOf.f kj439 a2 t490 t491).bind fun bt508 => ((impl_SecondOf.f kj439 a2 t490 t491).bind fun bt510 => (if bt506.2 = true then (if bt506.1 = a3 then (if bt508.2 = true then (if bt508.1 = a4 then (if bt510.2.2 = true then (laws_FnHandsStandOfAll.j7 kj439 a6 a7 t500 ((wrap64 (bt510.1 * 60)) != (wrap64 (a5 * bt510.2.1))) t498 t499) else (laws_FnHandsStandOfAll.j7 kj439 a6 a7 t500 true t498 t499)) else (laws_FnHandsStandOfAll.j7 kj439 a6 a7 t500 true t498 t499)) else (laws_FnHandsStandOfAll.j7 kj439 a6 a7 t500 true t498 t499)) else (laws_FnHandsStandOfAll.j7 kj439 a6 a7 t500 true t498 t499)) else (laws_FnHandsStandOfAll.j7 kj439 a6 a7 t500 true t498 t499))))) else (if t500 = true then ((impl_TimeText.f kj439 a6 t498 t499).bind fun bt516 => (if bt516.2 = true then (some (bt516.1.toList == a7.toList)) else (some false))) else (some true))) = some r := by rw [if_neg (show ¬ (false = true) by decide)] at H; exact H
        clear H
        have H := H1
        clear H1
        by_cases c545 : t492 = true
        ·subst c545
         have H1 : ((impl_HourOf.f kj439 a2 t490 t491).bind fun bt506 => ((impl_MinuteOf.f kj439 a2 t490 t491).bind fun bt508 => ((impl_SecondOf.f kj439 a2 t490 t491).bind fun bt510 => (if bt506.2 = true then (if bt506.1 = a3 then (if bt508.2 = true then (if bt508.1 = a4 then (if bt510.2.2 = true then (laws_FnHandsStandOfAll.j7 kj439 a6 a7 t500 ((wrap64 (bt510.1 * 60)) != (wrap64 (a5 * bt510.2.1))) t498 t499) else (laws_FnHandsStandOfAll.j7 kj439 a6 a7 t500 true t498 t499)) else (laws_FnHandsStandOfAll.j7 kj439 a6 a7 t500 true t498 t499)) else (laws_FnHandsStandOfAll.j7 kj439 a6 a7 t500 true t498 t499)) else (laws_FnHandsStandOfAll.j7 kj439 a6 a7 t500 true t498 t499)) else (laws_FnHandsStandOfAll.j7 kj439 a6 a7 t500 true t498 t499))))) = some r := by rw [if_pos rfl] at H; exact H
         clear H
         have H := H1
         clear H1
         replace H := Option.bind_eq_some_iff.mp H
         obtain ⟨⟨t506, t507⟩, A5460, H⟩ := H
         try dsimp only at H
         have A546 := Am A5460
         clear A5460
         replace H := Option.bind_eq_some_iff.mp H
         obtain ⟨⟨t508, t509⟩, A5470, H⟩ := H
         try dsimp only at H
         have A547 := Am A5470
         clear A5470
         replace H := Option.bind_eq_some_iff.mp H
         obtain ⟨⟨t510, t511, t512⟩, A5480, H⟩ := H
         try dsimp only at H
         have A548 := Am A5480
         clear A5480
         have HC549 := Am H
         clear H
         have nq550 := kO NB493_421; have nq551 := kO NB493_425; have nq552 := kO NB493_429; have nq553 := kO NB493_433; have nq554 := kO NB493_437; have nq555 := kO NB493_441; have nq556 := kO NB493_445; have nq557 := kO NB493_457; have nq558 := kO NB493_461; have nq559 := kO NB493_497; have nq560 := kO NB493_501; have nq561 := kO NB493_505
         have zq562 := zc2 BK493
         go_upto_region 49 with (first | ((with_reducible refine gate_callee (f := 10) rfl ?_); refine gL (some 449) Tryz.func10 #[.int .i64 a2, .agg #[.int .i64 t490, .int .i64 t491]] rfl ?_; (with_reducible refine (impl_HourOf.calls kj439 a2 t490 t491 t506 t507 _ A546.out).mono ?_); rintro e w563 ⟨rfl, hb⟩; refine ⟨_, rfl, ?_⟩; have hp0 := pA BK421 hb; have hv := vK HB hb; have n13_ := Am (bT hv hb); clear HB; replace BK421 := hp0 BK421; replace BK425 := hp0 BK425; replace BK429 := hp0 BK429; replace BK433 := hp0 BK433; replace BK437 := hp0 BK437; replace BK441 := hp0 BK441; replace BK445 := hp0 BK445; replace BK457 := hp0 BK457; replace BK461 := hp0 BK461; replace BK493 := hp0 BK493; replace BK497 := hp0 BK497; replace BK501 := hp0 BK501; replace BK505 := hp0 BK505; have HB := n13_; clear n13_ hp0 hv; (try clear hb); have zq564 := zc2 BK493) | ((with_reducible refine gate_callee (f := 12) rfl ?_); refine gL (some 455) Tryz.func12 #[.int .i64 a2, .agg #[.int .i64 t490, .int .i64 t491]] rfl ?_; (with_reducible refine (impl_MinuteOf.calls kj439 a2 t490 t491 t508 t509 _ A547.out).mono ?_); rintro e w565 ⟨rfl, hb⟩; refine ⟨_, rfl, ?_⟩; have hp0 := pA BK421 hb; have hv := vK HB hb; have n13_ := Am (bT hv hb); clear HB; replace BK421 := hp0 BK421; replace BK425 := hp0 BK425; replace BK429 := hp0 BK429; replace BK433 := hp0 BK433; replace BK437 := hp0 BK437; replace BK441 := hp0 BK441; replace BK445 := hp0 BK445; replace BK457 := hp0 BK457; replace BK461 := hp0 BK461; replace BK493 := hp0 BK493; replace BK497 := hp0 BK497; replace BK501 := hp0 BK501; replace BK505 := hp0 BK505; have HB := n13_; clear n13_ hp0 hv; (try clear hb); have zq566 := zc2 BK493) | ((with_reducible refine gate_callee (f := 14) rfl ?_); refine gL (some 461) Tryz.func14 #[.int .i64 a2, .agg #[.int .i64 t490, .int .i64 t491]] rfl ?_; (with_reducible refine (impl_SecondOf.calls kj439 a2 t490 t491 t510 t511 t512 _ A548.out).mono ?_); rintro e w567 ⟨rfl, hb⟩; refine ⟨_, rfl, ?_⟩; have hp0 := pA BK421 hb; have hv := vK HB hb; have n13_ := Am (bT hv hb); clear HB; replace BK421 := hp0 BK421; replace BK425 := hp0 BK425; replace BK429 := hp0 BK429; replace BK433 := hp0 BK433; replace BK437 := hp0 BK437; replace BK441 := hp0 BK441; replace BK445 := hp0 BK445; replace BK457 := hp0 BK457; replace BK461 := hp0 BK461; replace BK493 := hp0 BK493; replace BK497 := hp0 BK497; replace BK501 := hp0 BK501; replace BK505 := hp0 BK505; have HB := n13_; clear n13_ hp0 hv; (try clear hb)) | ((with_reducible refine gate_dst (N := 70) rfl ?_); refine bE 70 #[.int .i64 0, .int .i64 0] 23 ?_; intro gb513 hg w568 hbox hb; have hp0 := pA BK421 hb; have hv := vK HB hb; have n13_ := Am (bT hv hb); have n14_ := Am (hbox); have GE513 := kG hg hv; have hp1 := pK BK421 hb; obtain ⟨NB421_513, NB513_421⟩ := kXY hg hp1 BK421; obtain ⟨NB425_513, NB513_425⟩ := kXY hg hp1 BK425; obtain ⟨NB429_513, NB513_429⟩ := kXY hg hp1 BK429; obtain ⟨NB433_513, NB513_433⟩ := kXY hg hp1 BK433; obtain ⟨NB437_513, NB513_437⟩ := kXY hg hp1 BK437; obtain ⟨NB441_513, NB513_441⟩ := kXY hg hp1 BK441; obtain ⟨NB445_513, NB513_445⟩ := kXY hg hp1 BK445; obtain ⟨NB457_513, NB513_457⟩ := kXY hg hp1 BK457; obtain ⟨NB461_513, NB513_461⟩ := kXY hg hp1 BK461; obtain ⟨NB493_513, NB513_493⟩ := kXY hg hp1 BK493; obtain ⟨NB497_513, NB513_497⟩ := kXY hg hp1 BK497; obtain ⟨NB501_513, NB513_501⟩ := kXY hg hp1 BK501; obtain ⟨NB505_513, NB513_505⟩ := kXY hg hp1 BK505; clear HB; replace BK421 := hp0 BK421; replace BK425 := hp0 BK425; replace BK429 := hp0 BK429; replace BK433 := hp0 BK433; replace BK437 := hp0 BK437; replace BK441 := hp0 BK441; replace BK445 := hp0 BK445; replace BK457 := hp0 BK457; replace BK461 := hp0 BK461; replace BK493 := hp0 BK493; replace BK497 := hp0 BK497; replace BK501 := hp0 BK501; replace BK505 := hp0 BK505; have HB := n13_; have BK513 := n14_; clear n13_ n14_ hp0 hp1 hv; clear hb hbox hg; have nq569 := kO NB513_421; have nq570 := kO NB513_425; have nq571 := kO NB513_429; have nq572 := kO NB513_433; have nq573 := kO NB513_437; have nq574 := kO NB513_441; have nq575 := kO NB513_445; have nq576 := kO NB513_457; have nq577 := kO NB513_461; have nq578 := kO NB513_493; have nq579 := kO NB513_497; have nq580 := kO NB513_501; have nq581 := kO NB513_505; have zq582 := zc2 BK513))
         (try simp only [Act.put, List.setIfInBounds_toArray, List.set_cons_zero, List.set_cons_succ])
         go_cut [493] from 445 to 492 (fun v493 wc => ∃ (kq : Nat) (x493_548 : Bool), v493 = .bool x493_548 ∧ Aside0 (laws_FnHandsStandOfAll.j7 kq a6 a7 t500 x493_548 t498 t499 = some r) ∧ Aside0 (kq ≤ kj439) ∧ Aside0 (wc.heap[gb421]? = some (.cells #[.int .i64 a1_0, .int .i64 a1_1] 23 (0, 0))) ∧ Aside0 (wc.heap[gb425]? = some (.cells #[.int .i64 t422, .int .i64 t423] 23 (0, 0))) ∧ Aside0 (wc.heap[gb429]? = some (.cells #[.int .i64 t426, .int .i64 t427] 23 (0, 0))) ∧ Aside0 (wc.heap[gb433]? = some (.cells #[.int .i64 t430, .int .i64 t431] 23 (0, 0))) ∧ Aside0 (wc.heap[gb437]? = some (.cells #[.int .i64 t434, .int .i64 t435] 23 (0, 0))) ∧ Aside0 (wc.heap[gb441]? = some (.cells #[.int .i64 t438, .int .i64 t439] 23 (0, 0))) ∧ Aside0 (wc.heap[gb445]? = some (.cells #[.int .i64 t442, .int .i64 t443] 23 (0, 0))) ∧ Aside0 (wc.heap[gb457]? = some (.cells #[.int .i64 t454, .int .i64 t455] 23 (0, 0))) ∧ Aside0 (wc.heap[gb461]? = some (.cells #[.int .i64 t458, .int .i64 t459] 23 (0, 0))) ∧ Aside0 (wc.heap[gb493]? = some (.cells #[.int .i64 t490, .int .i64 t491] 23 (0, 0))) ∧ Aside0 (wc.heap[gb497]? = some (.cells #[.int .i64 t494, .int .i64 t495] 23 (0, 0))) ∧ Aside0 (wc.heap[gb501]? = some (.cells #[.int .i64 t498, .int .i64 t499] 23 (0, 0))) ∧ Aside0 (wc.heap[gb505]? = some (.cells #[.int .i64 t502, .int .i64 t503] 23 (0, 0))) ∧ Aside0 (wc.heap[gb513]? = some (.cells #[.int .i64 t510, .int .i64 t511] 23 (0, 0))) ∧ Aside0 (Below w.heap.size w wc))
         case first =>
          have H := HC549.out
          clear HC549
          by_cases c583 : t507 = true
          ·subst c583
           have H1 : (if t506 = a3 then (if t509 = true then (if t508 = a4 then (if t512 = true then (laws_FnHandsStandOfAll.j7 kj439 a6 a7 t500 ((wrap64 (t510 * 60)) != (wrap64 (a5 * t511))) t498 t499) else (laws_FnHandsStandOfAll.j7 kj439 a6 a7 t500 true t498 t499)) else (laws_FnHandsStandOfAll.j7 kj439 a6 a7 t500 true t498 t499)) else (laws_FnHandsStandOfAll.j7 kj439 a6 a7 t500 true t498 t499)) else (laws_FnHandsStandOfAll.j7 kj439 a6 a7 t500 true t498 t499)) = some r := by rw [if_pos rfl] at H; exact H
           clear H
           have H := H1
           clear H1
           by_cases c584 : t506 = a3
           ·rw [if_pos c584] at H
            have c584b0 : (t506 == a3) = true := beq_iff_eq.mpr c584
            have c584b1 : (t506 != a3) = false := bne_eq_false_iff_eq.mpr c584
            clear c584
            (first | rw [c584b0] | (simp only [i64_w, i32_w]; rw [c584b0]) | skip)
            by_cases c585 : t509 = true
            ·subst c585
             have H1 : (if t508 = a4 then (if t512 = true then (laws_FnHandsStandOfAll.j7 kj439 a6 a7 t500 ((wrap64 (t510 * 60)) != (wrap64 (a5 * t511))) t498 t499) else (laws_FnHandsStandOfAll.j7 kj439 a6 a7 t500 true t498 t499)) else (laws_FnHandsStandOfAll.j7 kj439 a6 a7 t500 true t498 t499)) = some r := by rw [if_pos rfl] at H; exact H
             clear H
             have H := H1
             clear H1
             by_cases c586 : t508 = a4
             ·rw [if_pos c586] at H
              have c586b0 : (t508 == a4) = true := beq_iff_eq.mpr c586
              have c586b1 : (t508 != a4) = false := bne_eq_false_iff_eq.mpr c586
              clear c586
              by_cases c587 : t512 = true
              ·subst c587
               have H1 : (laws_FnHandsStandOfAll.j7 kj439 a6 a7 t500 ((wrap64 (t510 * 60)) != (wrap64 (a5 * t511))) t498 t499) = some r := by rw [if_pos rfl] at H; exact H
               clear H
               have H := H1
               clear H1
               as_aux_lemma =>
                have H' := Am H
                clear H
                have nq588 := kO NB513_421; have nq589 := kO NB513_425; have nq590 := kO NB513_429; have nq591 := kO NB513_433; have nq592 := kO NB513_437; have nq593 := kO NB513_441; have nq594 := kO NB513_445; have nq595 := kO NB513_457; have nq596 := kO NB513_461; have nq597 := kO NB513_493; have nq598 := kO NB513_497; have nq599 := kO NB513_501; have nq600 := kO NB513_505
                have zq601 := zc2 BK513
                go_wp2
                go_meet
                case rel => exact ⟨_, (((wrap64 (t510 * 60)) != (wrap64 (a5 * t511)))), (by first | rfl | (simp; done) | (simp [*]; done)), H', ⟨by have := HJ26.out; have := HJ229.out; have := HJ388.out; have := HJ439.out; first | omega | exact Nat.le_refl _⟩, ⟨by (with_reducible repeat (first | refine kN ?_ _ | refine kD ?_ | refine kA ?_ _)); refine kR ?_ NB421_513.out _; (with_reducible repeat (first | refine kN ?_ _ | refine kD ?_ | refine kA ?_ _)); refine kR ?_ NB421_513.out _; (with_reducible repeat (first | refine kN ?_ _ | refine kD ?_ | refine kA ?_ _)); exact BK421.out⟩, ⟨by (with_reducible repeat (first | refine kN ?_ _ | refine kD ?_ | refine kA ?_ _)); refine kR ?_ NB425_513.out _; (with_reducible repeat (first | refine kN ?_ _ | refine kD ?_ | refine kA ?_ _)); refine kR ?_ NB425_513.out _; (with_reducible repeat (first | refine kN ?_ _ | refine kD ?_ | refine kA ?_ _)); exact BK425.out⟩, ⟨by (with_reducible repeat (first | refine kN ?_ _ | refine kD ?_ | refine kA ?_ _)); refine kR ?_ NB429_513.out _; (with_reducible repeat (first | refine kN ?_ _ | refine kD ?_ | refine kA ?_ _)); refine kR ?_ NB429_513.out _; (with_reducible repeat (first | refine kN ?_ _ | refine kD ?_ | refine kA ?_ _)); exact BK429.out⟩, ⟨by (with_reducible repeat (first | refine kN ?_ _ | refine kD ?_ | refine kA ?_ _)); refine kR ?_ NB433_513.out _; (with_reducible repeat (first | refine kN ?_ _ | refine kD ?_ | refine kA ?_ _)); refine kR ?_ NB433_513.out _; (with_reducible repeat (first | refine kN ?_ _ | refine kD ?_ | refine kA ?_ _)); exact BK433.out⟩, ⟨by (with_reducible repeat (first | refine kN ?_ _ | refine kD ?_ | refine kA ?_ _)); refine kR ?_ NB437_513.out _; (with_reducible repeat (first | refine kN ?_ _ | refine kD ?_ | refine kA ?_ _)); refine kR ?_ NB437_513.out _; (with_reducible repeat (first | refine kN ?_ _ | refine kD ?_ | refine kA ?_ _)); exact BK437.out⟩, ⟨by (with_reducible repeat (first | refine kN ?_ _ | refine kD ?_ | refine kA ?_ _)); refine kR ?_ NB441_513.out _; (with_reducible repeat (first | refine kN ?_ _ | refine kD ?_ | refine kA ?_ _)); refine kR ?_ NB441_513.out _; (with_reducible repeat (first | refine kN ?_ _ | refine kD ?_ | refine kA ?_ _)); exact BK441.out⟩, ⟨by (with_reducible repeat (first | refine kN ?_ _ | refine kD ?_ | refine kA ?_ _)); refine kR ?_ NB445_513.out _; (with_reducible repeat (first | refine kN ?_ _ | refine kD ?_ | refine kA ?_ _)); refine kR ?_ NB445_513.out _; (with_reducible repeat (first | refine kN ?_ _ | refine kD ?_ | refine kA ?_ _)); exact BK445.out⟩, ⟨by (with_reducible repeat (first | refine kN ?_ _ | refine kD ?_ | refine kA ?_ _)); refine kR ?_ NB457_513.out _; (with_reducible repeat (first | refine kN ?_ _ | refine kD ?_ | refine kA ?_ _)); refine kR ?_ NB457_513.out _; (with_reducible repeat (first | refine kN ?_ _ | refine kD ?_ | refine kA ?_ _)); exact BK457.out⟩, ⟨by (with_reducible repeat (first | refine kN ?_ _ | refine kD ?_ | refine kA ?_ _)); refine kR ?_ NB461_513.out _; (with_reducible repeat (first | refine kN ?_ _ | refine kD ?_ | refine kA ?_ _)); refine kR ?_ NB461_513.out _; (with_reducible repeat (first | refine kN ?_ _ | refine kD ?_ | refine kA ?_ _)); exact BK461.out⟩, ⟨by (with_reducible repeat (first | refine kN ?_ _ | refine kD ?_ | refine kA ?_ _)); refine kR ?_ NB493_513.out _; (with_reducible repeat (first | refine kN ?_ _ | refine kD ?_ | refine kA ?_ _)); refine kR ?_ NB493_513.out _; (with_reducible repeat (first | refine kN ?_ _ | refine kD ?_ | refine kA ?_ _)); exact BK493.out⟩, ⟨by (with_reducible repeat (first | refine kN ?_ _ | refine kD ?_ | refine kA ?_ _)); refine kR ?_ NB497_513.out _; (with_reducible repeat (first | refine kN ?_ _ | refine kD ?_ | refine kA ?_ _)); refine kR ?_ NB497_513.out _; (with_reducible repeat (first | refine kN ?_ _ | refine kD ?_ | refine kA ?_ _)); exact BK497.out⟩, ⟨by (with_reducible repeat (first | refine kN ?_ _ | refine kD ?_ | refine kA ?_ _)); refine kR ?_ NB501_513.out _; (with_reducible repeat (first | refine kN ?_ _ | refine kD ?_ | refine kA ?_ _)); refine kR ?_ NB501_513.out _; (with_reducible repeat (first | refine kN ?_ _ | refine kD ?_ | refine kA ?_ _)); exact BK501.out⟩, ⟨by (with_reducible repeat (first | refine kN ?_ _ | refine kD ?_ | refine kA ?_ _)); refine kR ?_ NB505_513.out _; (with_reducible repeat (first | refine kN ?_ _ | refine kD ?_ | refine kA ?_ _)); refine kR ?_ NB505_513.out _; (with_reducible repeat (first | refine kN ?_ _ | refine kD ?_ | refine kA ?_ _)); exact BK505.out⟩, ⟨by (with_reducible repeat (first | refine kN ?_ _ | refine kD ?_ | refine kA ?_ _)); refine kP (cs := #[.int .i64 t510, .int .i64 0]) ?_ 1 _ rfl; (with_reducible repeat (first | refine kN ?_ _ | refine kD ?_ | refine kA ?_ _)); refine kP (cs := #[.int .i64 0, .int .i64 0]) ?_ 0 _ rfl; (with_reducible repeat (first | refine kN ?_ _ | refine kD ?_ | refine kA ?_ _)); exact BK513.out⟩, ⟨by repeat (first | (with_reducible first | exact HB.out | apply bA | apply bN | apply bD | refine bX ?_ (by assumption)) | exact HB.out)⟩⟩
              replace c587 := Bool.eq_false_iff.mpr c587
              subst c587
              have H1 : (laws_FnHandsStandOfAll.j7 kj439 a6 a7 t500 true t498 t499) = some r := by rw [if_neg (show ¬ (false = true) by decide)] at H; exact H
              clear H
              have H := H1
              clear H1
              as_aux_lemma =>
               exact absurd ((laws_FnHandsStandOfAll.j7_no H).symm.trans hlaw.out) (by decide)
             rw [if_neg c586] at H
             have c586b0 : (t508 == a4) = false := beq_eq_false_iff_ne.mpr c586
             have c586b1 : (t508 != a4) = true := bne_iff_ne.mpr c586
             as_aux_lemma =>
              exact absurd ((laws_FnHandsStandOfAll.j7_no H).symm.trans hlaw.out) (by decide)
            replace c585 := Bool.eq_false_iff.mpr c585
            subst c585
            have H1 : (laws_FnHandsStandOfAll.j7 kj439 a6 a7 t500 true t498 t499) = some r := by rw [if_neg (show ¬ (false = true) by decide)] at H; exact H
            clear H
            have H := H1
            clear H1
            as_aux_lemma =>
             exact absurd ((laws_FnHandsStandOfAll.j7_no H).symm.trans hlaw.out) (by decide)
           rw [if_neg c584] at H
           have c584b0 : (t506 == a3) = false := beq_eq_false_iff_ne.mpr c584
           have c584b1 : (t506 != a3) = true := bne_iff_ne.mpr c584
           (first | rw [c584b0] | (simp only [i64_w, i32_w]; rw [c584b0]) | skip)
           as_aux_lemma =>
            exact absurd ((laws_FnHandsStandOfAll.j7_no H).symm.trans hlaw.out) (by decide)
          replace c583 := Bool.eq_false_iff.mpr c583
          subst c583
          have H1 : (laws_FnHandsStandOfAll.j7 kj439 a6 a7 t500 true t498 t499) = some r := by rw [if_neg (show ¬ (false = true) by decide)] at H; exact H
          clear H
          have H := H1
          clear H1
          as_aux_lemma =>
           exact absurd ((laws_FnHandsStandOfAll.j7_no H).symm.trans hlaw.out) (by decide)
         clear HC549
         (try clear c544); (try clear c545); (try clear zq104); (try clear zq105); (try clear zq107); (try clear zq109); (try clear zq111); (try clear zq29); (try clear zq33); (try clear zq34); (try clear zq39); (try clear zq40); (try clear zq452); (try clear zq465); (try clear zq46); (try clear zq479); (try clear zq47); (try clear zq494); (try clear zq54); (try clear zq55); (try clear zq562); (try clear zq564); (try clear zq566); (try clear zq582); (try clear zq63); (try clear zq64); (try clear zq73); (try clear zq74); (try clear zq76); (try clear zq78); (try clear zq80); (try clear zq82); (try clear zq92); (try clear zq93)
         obtain ⟨kq, x493_548, rfl, HA, HJ548, BK421, BK425, BK429, BK433, BK437, BK441, BK445, BK457, BK461, BK493, BK497, BK501, BK505, BK513, HB⟩ := hcut
         cases kq with
         | zero => exact absurd HA.out (by simp [laws_FnHandsStandOfAll.j7])
         | succ kj548 =>
          have H := HA.out
          clear HA
          simp only [laws_FnHandsStandOfAll.j7] at H
          by_cases c602 : x493_548 = true
          ·subst c602
           have H1 : (some false) = some r := by rw [if_pos rfl] at H; exact H
           clear H
           have H := H1
           clear H1
           as_aux_lemma =>
            exact absurd ((Option.some.inj H).trans hlaw.out) (by decide)
          replace c602 := Bool.eq_false_iff.mpr c602
          subst c602
          have H1 : (if t500 = true then ((impl_TimeText.f kj548 a6 t498 t499).bind fun bt514 => (if bt514.2 = true then (some (bt514.1.toList == a7.toList)) else (some false))) else (some true)) = some r := by rw [if_neg (show ¬ (false = true) by decide)] at H; exact H
          clear H
          have H := H1
          clear H1
          by_cases c603 : t500 = true
          ·subst c603
           have H1 : ((impl_TimeText.f kj548 a6 t498 t499).bind fun bt514 => (if bt514.2 = true then (some (bt514.1.toList == a7.toList)) else (some false))) = some r := by rw [if_pos rfl] at H; exact H
           clear H
           have H := H1
           clear H1
           replace H := Option.bind_eq_some_iff.mp H
           obtain ⟨⟨t514, t515⟩, A6040, H⟩ := H
           try dsimp only at H
           have A604 := Am A6040
           clear A6040
           by_cases c605 : t515 = true
           ·subst c605
            have H1 : (some (t514.toList == a7.toList)) = some r := by rw [if_pos rfl] at H; exact H
            clear H
            have H := H1
            clear H1
            as_aux_lemma =>
             obtain rfl := Option.some.inj H
             have nq606 := kO NB501_421; have nq607 := kO NB501_425; have nq608 := kO NB501_429; have nq609 := kO NB501_433; have nq610 := kO NB501_437; have nq611 := kO NB501_441; have nq612 := kO NB501_445; have nq613 := kO NB501_457; have nq614 := kO NB501_461; have nq615 := kO NB501_493; have nq616 := kO NB501_497; have nq617 := kO NB501_505; have nq618 := kO NB501_513
             have zq619 := zc2 BK501
             go_wp2_with (first | ((with_reducible refine gate_callee (f := 18) rfl ?_); refine gL (some 498) Tryz.func18 #[.int .i64 a6, .agg #[.int .i64 t498, .int .i64 t499]] rfl ?_; (with_reducible refine (impl_TimeText.calls kj548 a6 t498 t499 t514 true _ (tabs_stay TABH_.out (show Below w.heap.size w _ from by repeat (first | (with_reducible first | exact HB.out | apply bA | apply bN | apply bD | refine bX ?_ (by assumption)) | exact HB.out))) A604.out).mono ?_); rintro e w620 ⟨rfl, hb⟩; refine ⟨_, rfl, ?_⟩; have hp0 := pA BK421 hb; have hv := vK HB hb; have n14_ := Am (bT hv hb); clear HB; replace BK421 := hp0 BK421; replace BK425 := hp0 BK425; replace BK429 := hp0 BK429; replace BK433 := hp0 BK433; replace BK437 := hp0 BK437; replace BK441 := hp0 BK441; replace BK445 := hp0 BK445; replace BK457 := hp0 BK457; replace BK461 := hp0 BK461; replace BK493 := hp0 BK493; replace BK497 := hp0 BK497; replace BK501 := hp0 BK501; replace BK505 := hp0 BK505; replace BK513 := hp0 BK513; have HB := n14_; clear n14_ hp0 hv; (try clear hb)))
             go_ret
             exact ⟨by first | rfl | (simp [errW_none, errW_some] <;> rfl) | (simp [*, errW_none, errW_some] <;> rfl), by repeat (first | (with_reducible first | exact HB.out | apply bA | apply bN | apply bD | refine bX ?_ (by assumption)) | exact HB.out)⟩
           replace c605 := Bool.eq_false_iff.mpr c605
           subst c605
           have H1 : (some false) = some r := by rw [if_neg (show ¬ (false = true) by decide)] at H; exact H
           clear H
           have H := H1
           clear H1
           as_aux_lemma =>
            exact absurd ((Option.some.inj H).trans hlaw.out) (by decide)
          replace c603 := Bool.eq_false_iff.mpr c603
          subst c603
          have H1 : (some true) = some r := by rw [if_neg (show ¬ (false = true) by decide)] at H; exact H
          clear H
          have H := H1
          clear H1
          as_aux_lemma =>
           obtain rfl := Option.some.inj H
           go_wp2
           go_ret
           exact ⟨by first | rfl | (simp [errW_none, errW_some] <;> rfl) | (simp [*, errW_none, errW_some] <;> rfl), by repeat (first | (with_reducible first | exact HB.out | apply bA | apply bN | apply bD | refine bX ?_ (by assumption)) | exact HB.out)⟩
        replace c545 := Bool.eq_false_iff.mpr c545
        subst c545
        have H1 : (if t500 = true then ((impl_TimeText.f kj439 a6 t498 t499).bind fun bt516 => (if bt516.2 = true then (some (bt516.1.toList == a7.toList)) else (some false))) else (some true)) = some r := by rw [if_neg (show ¬ (false = true) by decide)] at H; exact H
        clear H
        have H := H1
        clear H1
        by_cases c621 : t500 = true
        ·subst c621
         have H1 : ((impl_TimeText.f kj439 a6 t498 t499).bind fun bt516 => (if bt516.2 = true then (some (bt516.1.toList == a7.toList)) else (some false))) = some r := by rw [if_pos rfl] at H; exact H
         clear H
         have H := H1
         clear H1
         replace H := Option.bind_eq_some_iff.mp H
         obtain ⟨⟨t516, t517⟩, A6220, H⟩ := H
         try dsimp only at H
         have A622 := Am A6220
         clear A6220
         by_cases c623 : t517 = true
         ·subst c623
          have H1 : (some (t516.toList == a7.toList)) = some r := by rw [if_pos rfl] at H; exact H
          clear H
          have H := H1
          clear H1
          as_aux_lemma =>
           obtain rfl := Option.some.inj H
           have nq624 := kO NB501_421; have nq625 := kO NB501_425; have nq626 := kO NB501_429; have nq627 := kO NB501_433; have nq628 := kO NB501_437; have nq629 := kO NB501_441; have nq630 := kO NB501_445; have nq631 := kO NB501_457; have nq632 := kO NB501_461; have nq633 := kO NB501_493; have nq634 := kO NB501_497; have nq635 := kO NB501_505
           have zq636 := zc2 BK501
           go_wp2_with (first | ((with_reducible refine gate_callee (f := 18) rfl ?_); refine gL (some 498) Tryz.func18 #[.int .i64 a6, .agg #[.int .i64 t498, .int .i64 t499]] rfl ?_; (with_reducible refine (impl_TimeText.calls kj439 a6 t498 t499 t516 true _ (tabs_stay TABH_.out (show Below w.heap.size w _ from by repeat (first | (with_reducible first | exact HB.out | apply bA | apply bN | apply bD | refine bX ?_ (by assumption)) | exact HB.out))) A622.out).mono ?_); rintro e w637 ⟨rfl, hb⟩; refine ⟨_, rfl, ?_⟩; have hp0 := pA BK421 hb; have hv := vK HB hb; have n13_ := Am (bT hv hb); clear HB; replace BK421 := hp0 BK421; replace BK425 := hp0 BK425; replace BK429 := hp0 BK429; replace BK433 := hp0 BK433; replace BK437 := hp0 BK437; replace BK441 := hp0 BK441; replace BK445 := hp0 BK445; replace BK457 := hp0 BK457; replace BK461 := hp0 BK461; replace BK493 := hp0 BK493; replace BK497 := hp0 BK497; replace BK501 := hp0 BK501; replace BK505 := hp0 BK505; have HB := n13_; clear n13_ hp0 hv; (try clear hb)))
           go_ret
           exact ⟨by first | rfl | (simp [errW_none, errW_some] <;> rfl) | (simp [*, errW_none, errW_some] <;> rfl), by repeat (first | (with_reducible first | exact HB.out | apply bA | apply bN | apply bD | refine bX ?_ (by assumption)) | exact HB.out)⟩
         replace c623 := Bool.eq_false_iff.mpr c623
         subst c623
         have H1 : (some false) = some r := by rw [if_neg (show ¬ (false = true) by decide)] at H; exact H
         clear H
         have H := H1
         clear H1
         as_aux_lemma =>
          exact absurd ((Option.some.inj H).trans hlaw.out) (by decide)
        replace c621 := Bool.eq_false_iff.mpr c621
        subst c621
        have H1 : (some true) = some r := by rw [if_neg (show ¬ (false = true) by decide)] at H; exact H
        clear H
        have H := H1
        clear H1
        as_aux_lemma =>
         obtain rfl := Option.some.inj H
         go_wp2
         go_ret
         exact ⟨by first | rfl | (simp [errW_none, errW_some] <;> rfl) | (simp [*, errW_none, errW_some] <;> rfl), by repeat (first | (with_reducible first | exact HB.out | apply bA | apply bN | apply bD | refine bX ?_ (by assumption)) | exact HB.out)⟩
/-- THE ONE PURE STATEMENT of laws_FnHandsStandOfAll: yours. -/
def laws_FnHandsStandOfAll.Pure : Prop := ∀ (a0 : Int) (a1_0 : Int) (a1_1 : Int) (a2 : Int) (a3 : Int) (a4 : Int) (a5 : Int) (a6 : Int) (a7 : ByteArray), (Lit.int .i64 a0).wf = true → (Lit.int .i64 a1_0).wf = true → (Lit.int .i64 a1_1).wf = true → (Lit.int .i64 a2).wf = true → (Lit.int .i64 a3).wf = true → (Lit.int .i64 a4).wf = true → (Lit.int .i64 a5).wf = true → (Lit.int .i64 a6).wf = true → a7.size ≤ 140737488351232 → ∃ k, laws_FnHandsStandOfAll.f k a0 a1_0 a1_1 a2 a3 a4 a5 a6 a7 = some true
theorem laws_FnHandsStandOfAll.walk (P : laws_FnHandsStandOfAll.Pure) (a0 : Int) (a1_0 : Int) (a1_1 : Int) (a2 : Int) (a3 : Int) (a4 : Int) (a5 : Int) (a6 : Int) (a7 : ByteArray) (w : World) (htab_ : TabsAll w) (w0 : (Lit.int .i64 a0).wf = true) (w1_0 : (Lit.int .i64 a1_0).wf = true) (w1_1 : (Lit.int .i64 a1_1).wf = true) (w2 : (Lit.int .i64 a2).wf = true) (w3 : (Lit.int .i64 a3).wf = true) (w4 : (Lit.int .i64 a4).wf = true) (w5 : (Lit.int .i64 a5).wf = true) (w6 : (Lit.int .i64 a6).wf = true) (w7 : a7.size ≤ 140737488351232) :
  Calls Tryz.prog 3 #[.int .i64 a0, .agg #[.int .i64 a1_0, .int .i64 a1_1], .int .i64 a2, .int .i64 a3, .int .i64 a4, .int .i64 a5, .int .i64 a6, .string a7] w fun e w' => e = .returned (.bool true) ∧ Below w.heap.size w w' := by
 obtain ⟨k, h⟩ := P a0 a1_0 a1_1 a2 a3 a4 a5 a6 a7 w0 w1_0 w1_1 w2 w3 w4 w5 w6 w7
 refine (laws_FnHandsStandOfAll.calls k a0 a1_0 a1_1 a2 a3 a4 a5 a6 a7 true w ⟨rfl⟩ htab_ h).mono ?_
 rintro e w' ⟨rfl, hd⟩
 exact ⟨rfl, hd⟩

end Go.Proofs.YtchglfpiicaedaaGreatDoor.PFnHandsStandOfAll
