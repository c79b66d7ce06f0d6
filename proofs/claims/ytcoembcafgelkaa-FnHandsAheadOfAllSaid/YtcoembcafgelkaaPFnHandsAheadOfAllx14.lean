-- WRITTEN BY A PROGRAM OF THIS SESSION (wip/tools): its own text, not the kit's printed one.
import Derived.Test.YtcoembcafgelkaaPFnHandsAheadOfAllx0
import Derived.Test.YtcoembcafgelkaaPFnHandsAheadOfAllx1
import Derived.Test.YtcoembcafgelkaaPFnHandsAheadOfAllx2
import Derived.Test.YtcoembcafgelkaaPFnHandsAheadOfAllx6
import Derived.Test.YtcoembcafgelkaaPFnHandsAheadOfAllx8
import Derived.Test.YtcoembcafgelkaaPFnHandsAheadOfAllx9
import Derived.Test.YtcoembcafgelkaaPFnHandsAheadOfAllx10
import Derived.Test.YtcoembcafgelkaaPFnHandsAheadOfAllx11
import Derived.Test.YtcoembcafgelkaaPFnHandsAheadOfAllx12
import Derived.Test.YtcoembcafgelkaaPFnHandsAheadOfAllx13
import Derived.Test.YtcoembcafgelkaaPFnHandsAheadOfAllx14c
import Derived.Deep.CutRange
namespace Go.Proofs.Ytcoembcafgelkaa.PFnHandsAheadOfAll
open Go.RowKit Go.Proofs.YtcoembcafgelkaaW.PrintWords Go.Proofs.YtcoembcafgelkaaW.PrintLast Go.Proofs.YtcoembcafgelkaaW.PrintMore
attribute [local go_sem] max2_int min2_int max_two min_two max_three min_three max_four min_four   -- for this text's walks alone
set_option linter.unusedVariables false
set_option linter.unusedSimpArgs false

attribute [local go_sem high] eqA23 eqA25
set_option maxHeartbeats 8000000 in
set_option maxRecDepth 100000 in
theorem laws_FnHandsAheadOfAll.calls (k : Nat) (a0_0 : Int) (a0_1 : Int) (a0_2 : Int) (a1_0 : Int) (a1_1 : Int) (a1_2 : Int) (a2_0 : Int) (a2_1 : Int) (a3_0 : Int) (a3_1 : Int) (a3_2 : Int) (a4_0 : Int) (a4_1 : Int) (a4_2 : Int) (a5_0 : Int) (a5_1 : Int) (a5_2 : Int) (a6_0 : Int) (a6_1 : Int) (a6_2 : Int) (a7_0 : Int) (a7_1 : Int) (r : Bool) (w : World) (hlaw : Aside0 (r = true)) (h : laws_FnHandsAheadOfAll.f k a0_0 a0_1 a0_2 a1_0 a1_1 a1_2 a2_0 a2_1 a3_0 a3_1 a3_2 a4_0 a4_1 a4_2 a5_0 a5_1 a5_2 a6_0 a6_1 a6_2 a7_0 a7_1 = some r) :
  Calls Try.prog 3 #[.agg #[.int .i64 a0_0, .int .i64 a0_1, .int .i64 a0_2], .agg #[.int .i64 a1_0, .int .i64 a1_1, .int .i64 a1_2], .agg #[.int .i64 a2_0, .int .i64 a2_1], .agg #[.int .i64 a3_0, .int .i64 a3_1, .int .i64 a3_2], .agg #[.int .i64 a4_0, .int .i64 a4_1, .int .i64 a4_2], .agg #[.int .i64 a5_0, .int .i64 a5_1, .int .i64 a5_2], .agg #[.int .i64 a6_0, .int .i64 a6_1, .int .i64 a6_2], .agg #[.int .i64 a7_0, .int .i64 a7_1]] w fun e w' => e = .returned (.bool r) ∧ Below w.heap.size w w' := by
 have hu25 := Try.underlying25; have hu23 := Try.underlying23
 have HB := Am (Below.refl w.heap.size w)
 have H : ((impl_AheadTimes.f k a0_0 a0_1 a0_2 a1_0 a1_1 a1_2 a2_0 a2_1).bind fun bt451 => ((spec_AheadTimes.f k a0_0 a0_1 a0_2 a1_0 a1_1 a1_2 a2_0 a2_1).bind fun bt455 => ((impl_AheadAt.f k a0_0 a0_1 a0_2 a1_0 a1_1 a1_2 a2_0 a2_1).bind fun bt459 => ((spec_AheadAt.f k a0_0 a0_1 a0_2 a1_0 a1_1 a1_2 a2_0 a2_1).bind fun bt463 => ((impl_RelativeHand.f k a0_0 a0_1 a0_2 a1_0 a1_1 a1_2).bind fun bt467 => ((spec_RelativeHand.f k a0_0 a0_1 a0_2 a1_0 a1_1 a1_2).bind fun bt472 => ((impl_OppositeTimes.f k a0_0 a0_1 a0_2 a1_0 a1_1 a1_2).bind fun bt477 => ((spec_OppositeTimes.f k a0_0 a0_1 a0_2 a1_0 a1_1 a1_2).bind fun bt481 => (if (bt451.2 != bt455.2) = true then (laws_FnHandsAheadOfAll.j0 k bt451.1 bt451.2 bt459.2.2 bt467.2.2.2 bt477.1 bt477.2 true a0_0 a0_1 a0_2 a1_0 a1_1 a1_2 a2_0 a2_1 a3_0 a3_1 a3_2 a4_0 a4_1 a4_2 a5_0 a5_1 a5_2 a6_0 a6_1 a6_2 a7_0 a7_1 bt459.1 bt459.2.1 bt467.1 bt467.2.1 bt467.2.2.1) else ((laws_kTurns.f k bt451.1 bt455.1).bind fun t485 => (if t485 = true then (if (bt459.2.2 != bt463.2.2) = true then (laws_FnHandsAheadOfAll.j0 k bt451.1 bt451.2 bt459.2.2 bt467.2.2.2 bt477.1 bt477.2 true a0_0 a0_1 a0_2 a1_0 a1_1 a1_2 a2_0 a2_1 a3_0 a3_1 a3_2 a4_0 a4_1 a4_2 a5_0 a5_1 a5_2 a6_0 a6_1 a6_2 a7_0 a7_1 bt459.1 bt459.2.1 bt467.1 bt467.2.1 bt467.2.2.1) else (if (!(bt459.1 == bt463.1) || (!(bt459.2.1 == bt463.2.1))) = true then (laws_FnHandsAheadOfAll.j0 k bt451.1 bt451.2 bt459.2.2 bt467.2.2.2 bt477.1 bt477.2 true a0_0 a0_1 a0_2 a1_0 a1_1 a1_2 a2_0 a2_1 a3_0 a3_1 a3_2 a4_0 a4_1 a4_2 a5_0 a5_1 a5_2 a6_0 a6_1 a6_2 a7_0 a7_1 bt459.1 bt459.2.1 bt467.1 bt467.2.1 bt467.2.2.1) else (if (bt467.2.2.2 != bt472.2.2.2) = true then (laws_FnHandsAheadOfAll.j0 k bt451.1 bt451.2 bt459.2.2 bt467.2.2.2 bt477.1 bt477.2 true a0_0 a0_1 a0_2 a1_0 a1_1 a1_2 a2_0 a2_1 a3_0 a3_1 a3_2 a4_0 a4_1 a4_2 a5_0 a5_1 a5_2 a6_0 a6_1 a6_2 a7_0 a7_1 bt459.1 bt459.2.1 bt467.1 bt467.2.1 bt467.2.2.1) else (if ((!(bt467.1 == bt472.1) || (!(bt467.2.1 == bt472.2.1))) || (!(bt467.2.2.1 == bt472.2.2.1))) = true then (laws_FnHandsAheadOfAll.j0 k bt451.1 bt451.2 bt459.2.2 bt467.2.2.2 bt477.1 bt477.2 true a0_0 a0_1 a0_2 a1_0 a1_1 a1_2 a2_0 a2_1 a3_0 a3_1 a3_2 a4_0 a4_1 a4_2 a5_0 a5_1 a5_2 a6_0 a6_1 a6_2 a7_0 a7_1 bt459.1 bt459.2.1 bt467.1 bt467.2.1 bt467.2.2.1) else (if (bt477.2 != bt481.2) = true then (laws_FnHandsAheadOfAll.j0 k bt451.1 bt451.2 bt459.2.2 bt467.2.2.2 bt477.1 bt477.2 true a0_0 a0_1 a0_2 a1_0 a1_1 a1_2 a2_0 a2_1 a3_0 a3_1 a3_2 a4_0 a4_1 a4_2 a5_0 a5_1 a5_2 a6_0 a6_1 a6_2 a7_0 a7_1 bt459.1 bt459.2.1 bt467.1 bt467.2.1 bt467.2.2.1) else ((laws_kTurns.f k bt477.1 bt481.1).bind fun t486 => (laws_FnHandsAheadOfAll.j0 k bt451.1 bt451.2 bt459.2.2 bt467.2.2.2 bt477.1 bt477.2 (!t486) a0_0 a0_1 a0_2 a1_0 a1_1 a1_2 a2_0 a2_1 a3_0 a3_1 a3_2 a4_0 a4_1 a4_2 a5_0 a5_1 a5_2 a6_0 a6_1 a6_2 a7_0 a7_1 bt459.1 bt459.2.1 bt467.1 bt467.2.1 bt467.2.2.1))))))) else (laws_FnHandsAheadOfAll.j0 k bt451.1 bt451.2 bt459.2.2 bt467.2.2.2 bt477.1 bt477.2 true a0_0 a0_1 a0_2 a1_0 a1_1 a1_2 a2_0 a2_1 a3_0 a3_1 a3_2 a4_0 a4_1 a4_2 a5_0 a5_1 a5_2 a6_0 a6_1 a6_2 a7_0 a7_1 bt459.1 bt459.2.1 bt467.1 bt467.2.1 bt467.2.2.1)))))))))))) = some r := h
 clear h
 replace H := Option.bind_eq_some_iff.mp H
 obtain ⟨⟨t451, t454⟩, A90, H⟩ := H
 try dsimp only at H
 have A9 := Am A90
 clear A90
 replace H := Option.bind_eq_some_iff.mp H
 obtain ⟨⟨t455, t458⟩, A100, H⟩ := H
 try dsimp only at H
 have A10 := Am A100
 clear A100
 replace H := Option.bind_eq_some_iff.mp H
 obtain ⟨⟨t459, t460, t461⟩, A110, H⟩ := H
 try dsimp only at H
 have A11 := Am A110
 clear A110
 replace H := Option.bind_eq_some_iff.mp H
 obtain ⟨⟨t463, t464, t465⟩, A120, H⟩ := H
 try dsimp only at H
 have A12 := Am A120
 clear A120
 replace H := Option.bind_eq_some_iff.mp H
 obtain ⟨⟨t467, t468, t469, t470⟩, A130, H⟩ := H
 try dsimp only at H
 have A13 := Am A130
 clear A130
 replace H := Option.bind_eq_some_iff.mp H
 obtain ⟨⟨t472, t473, t474, t475⟩, A140, H⟩ := H
 try dsimp only at H
 have A14 := Am A140
 clear A140
 replace H := Option.bind_eq_some_iff.mp H
 obtain ⟨⟨t477, t480⟩, A150, H⟩ := H
 try dsimp only at H
 have A15 := Am A150
 clear A150
 replace H := Option.bind_eq_some_iff.mp H
 obtain ⟨⟨t481, t484⟩, A160, H⟩ := H
 try dsimp only at H
 have A16 := Am A160
 clear A160
 have HC17 := Am H
 clear H
 go_enter Try.func3, Try.ntmps3
 go_upto_region 9 with (first | ((with_reducible refine gate_dst (N := 8) rfl ?_); (try (refine gate_guard (by rfl) ?_; dsimp only)); refine bE 8 #[.int .i64 a0_0, .int .i64 a0_1, .int .i64 a0_2] 25 ?_; intro gb443 hg w18 hbox hb; have hv := vK HB hb; have n0_ := Am (bT hv hb); have n1_ := Am (hbox); have GE443 := kG hg hv; clear HB; have HB := n0_; have BK443 := n1_; clear n0_ n1_ hv; clear hb hbox hg) | ((with_reducible refine gate_dst (N := 9) rfl ?_); (try (refine gate_guard (by rfl) ?_; dsimp only)); refine bE 9 #[.int .i64 a1_0, .int .i64 a1_1, .int .i64 a1_2] 25 ?_; intro gb444 hg w19 hbox hb; have hp0 := pA BK443 hb; have hv := vK HB hb; have n1_ := Am (bT hv hb); have n2_ := Am (hbox); have GE444 := kG hg hv; have hp1 := pK BK443 hb; obtain ⟨NB443_444, NB444_443⟩ := kXY hg hp1 BK443; clear HB; replace BK443 := hp0 BK443; have HB := n1_; have BK444 := n2_; clear n1_ n2_ hp0 hp1 hv; clear hb hbox hg) | ((with_reducible refine gate_dst (N := 10) rfl ?_); (try (refine gate_guard (by rfl) ?_; dsimp only)); refine bE 10 #[.int .i64 a2_0, .int .i64 a2_1] 23 ?_; intro gb445 hg w20 hbox hb; have hp0 := pA BK443 hb; have hv := vK HB hb; have n2_ := Am (bT hv hb); have n3_ := Am (hbox); have GE445 := kG hg hv; have hp1 := pK BK443 hb; obtain ⟨NB443_445, NB445_443⟩ := kXY hg hp1 BK443; obtain ⟨NB444_445, NB445_444⟩ := kXY hg hp1 BK444; clear HB; replace BK443 := hp0 BK443; replace BK444 := hp0 BK444; have HB := n2_; have BK445 := n3_; clear n2_ n3_ hp0 hp1 hv; clear hb hbox hg) | ((with_reducible refine gate_dst (N := 11) rfl ?_); (try (refine gate_guard (by rfl) ?_; dsimp only)); refine bE 11 #[.int .i64 a3_0, .int .i64 a3_1, .int .i64 a3_2] 25 ?_; intro gb446 hg w21 hbox hb; have hp0 := pA BK443 hb; have hv := vK HB hb; have n3_ := Am (bT hv hb); have n4_ := Am (hbox); have GE446 := kG hg hv; have hp1 := pK BK443 hb; obtain ⟨NB443_446, NB446_443⟩ := kXY hg hp1 BK443; obtain ⟨NB444_446, NB446_444⟩ := kXY hg hp1 BK444; obtain ⟨NB445_446, NB446_445⟩ := kXY hg hp1 BK445; clear HB; replace BK443 := hp0 BK443; replace BK444 := hp0 BK444; replace BK445 := hp0 BK445; have HB := n3_; have BK446 := n4_; clear n3_ n4_ hp0 hp1 hv; clear hb hbox hg) | ((with_reducible refine gate_dst (N := 12) rfl ?_); (try (refine gate_guard (by rfl) ?_; dsimp only)); refine bE 12 #[.int .i64 a4_0, .int .i64 a4_1, .int .i64 a4_2] 25 ?_; intro gb447 hg w22 hbox hb; have hp0 := pA BK443 hb; have hv := vK HB hb; have n4_ := Am (bT hv hb); have n5_ := Am (hbox); have GE447 := kG hg hv; have hp1 := pK BK443 hb; obtain ⟨NB443_447, NB447_443⟩ := kXY hg hp1 BK443; obtain ⟨NB444_447, NB447_444⟩ := kXY hg hp1 BK444; obtain ⟨NB445_447, NB447_445⟩ := kXY hg hp1 BK445; obtain ⟨NB446_447, NB447_446⟩ := kXY hg hp1 BK446; clear HB; replace BK443 := hp0 BK443; replace BK444 := hp0 BK444; replace BK445 := hp0 BK445; replace BK446 := hp0 BK446; have HB := n4_; have BK447 := n5_; clear n4_ n5_ hp0 hp1 hv; clear hb hbox hg) | ((with_reducible refine gate_dst (N := 13) rfl ?_); (try (refine gate_guard (by rfl) ?_; dsimp only)); refine bE 13 #[.int .i64 a5_0, .int .i64 a5_1, .int .i64 a5_2] 25 ?_; intro gb448 hg w23 hbox hb; have hp0 := pA BK443 hb; have hv := vK HB hb; have n5_ := Am (bT hv hb); have n6_ := Am (hbox); have GE448 := kG hg hv; have hp1 := pK BK443 hb; obtain ⟨NB443_448, NB448_443⟩ := kXY hg hp1 BK443; obtain ⟨NB444_448, NB448_444⟩ := kXY hg hp1 BK444; obtain ⟨NB445_448, NB448_445⟩ := kXY hg hp1 BK445; obtain ⟨NB446_448, NB448_446⟩ := kXY hg hp1 BK446; obtain ⟨NB447_448, NB448_447⟩ := kXY hg hp1 BK447; clear HB; replace BK443 := hp0 BK443; replace BK444 := hp0 BK444; replace BK445 := hp0 BK445; replace BK446 := hp0 BK446; replace BK447 := hp0 BK447; have HB := n5_; have BK448 := n6_; clear n5_ n6_ hp0 hp1 hv; clear hb hbox hg) | ((with_reducible refine gate_dst (N := 14) rfl ?_); (try (refine gate_guard (by rfl) ?_; dsimp only)); refine bE 14 #[.int .i64 a6_0, .int .i64 a6_1, .int .i64 a6_2] 25 ?_; intro gb449 hg w24 hbox hb; have hp0 := pA BK443 hb; have hv := vK HB hb; have n6_ := Am (bT hv hb); have n7_ := Am (hbox); have GE449 := kG hg hv; have hp1 := pK BK443 hb; obtain ⟨NB443_449, NB449_443⟩ := kXY hg hp1 BK443; obtain ⟨NB444_449, NB449_444⟩ := kXY hg hp1 BK444; obtain ⟨NB445_449, NB449_445⟩ := kXY hg hp1 BK445; obtain ⟨NB446_449, NB449_446⟩ := kXY hg hp1 BK446; obtain ⟨NB447_449, NB449_447⟩ := kXY hg hp1 BK447; obtain ⟨NB448_449, NB449_448⟩ := kXY hg hp1 BK448; clear HB; replace BK443 := hp0 BK443; replace BK444 := hp0 BK444; replace BK445 := hp0 BK445; replace BK446 := hp0 BK446; replace BK447 := hp0 BK447; replace BK448 := hp0 BK448; have HB := n6_; have BK449 := n7_; clear n6_ n7_ hp0 hp1 hv; clear hb hbox hg) | ((with_reducible refine gate_dst (N := 15) rfl ?_); (try (refine gate_guard (by rfl) ?_; dsimp only)); refine bE 15 #[.int .i64 a7_0, .int .i64 a7_1] 23 ?_; intro gb450 hg w25 hbox hb; have hp0 := pA BK443 hb; have hv := vK HB hb; have n7_ := Am (bT hv hb); have n8_ := Am (hbox); have GE450 := kG hg hv; have hp1 := pK BK443 hb; obtain ⟨NB443_450, NB450_443⟩ := kXY hg hp1 BK443; obtain ⟨NB444_450, NB450_444⟩ := kXY hg hp1 BK444; obtain ⟨NB445_450, NB450_445⟩ := kXY hg hp1 BK445; obtain ⟨NB446_450, NB450_446⟩ := kXY hg hp1 BK446; obtain ⟨NB447_450, NB450_447⟩ := kXY hg hp1 BK447; obtain ⟨NB448_450, NB450_448⟩ := kXY hg hp1 BK448; obtain ⟨NB449_450, NB450_449⟩ := kXY hg hp1 BK449; clear HB; replace BK443 := hp0 BK443; replace BK444 := hp0 BK444; replace BK445 := hp0 BK445; replace BK446 := hp0 BK446; replace BK447 := hp0 BK447; replace BK448 := hp0 BK448; replace BK449 := hp0 BK449; have HB := n7_; have BK450 := n8_; clear n7_ n8_ hp0 hp1 hv; clear hb hbox hg; have nq26 := kO NB443_444; have nq27 := kO NB443_445; have nq28 := kO NB443_446; have nq29 := kO NB443_447; have nq30 := kO NB443_448; have nq31 := kO NB443_449; have nq32 := kO NB443_450; have zq33 := c3 BK443; have nq34 := kO NB444_445; have nq35 := kO NB444_446; have nq36 := kO NB444_447; have nq37 := kO NB444_448; have nq38 := kO NB444_449; have nq39 := kO NB444_450; have zq40 := c3 BK444; have nq41 := kO NB445_446; have nq42 := kO NB445_447; have nq43 := kO NB445_448; have nq44 := kO NB445_449; have nq45 := kO NB445_450; have zq46 := c2 BK445) | ((with_reducible refine gate_callee (f := 4) rfl ?_); refine gL (some 71) Try.func4 #[.agg #[.int .i64 a0_0, .int .i64 a0_1, .int .i64 a0_2], .agg #[.int .i64 a1_0, .int .i64 a1_1, .int .i64 a1_2], .agg #[.int .i64 a2_0, .int .i64 a2_1]] rfl ?_; (with_reducible refine (impl_AheadTimes.calls k a0_0 a0_1 a0_2 a1_0 a1_1 a1_2 a2_0 a2_1 t451 t454 _ A9.out).mono ?_); rintro e w47 ⟨v452, rfl, ho0, hb⟩; refine ⟨_, rfl, ?_⟩; have n0_ := Am (Kd.R_lower (Kd.R_newB (Kd.R_newB ho0 (g := gb445) (o := .cells #[.int .i64 a2_0, .int .i64 a2_1] 23 (0, 0)) (kU BK445)) (g := gb450) (o := .cells #[.int .i64 a7_0, .int .i64 a7_1] 23 (0, 0)) (kU BK450)) (bZ (by repeat (first | (with_reducible first | exact HB.out | apply bA | apply bN | apply bD | refine bX ?_ (by assumption)) | exact HB.out)))); have hp0 := pA BK443 hb; have hv := vK HB hb; have n9_ := Am (bT hv hb); clear HB; have HO453 := n0_; replace BK443 := hp0 BK443; replace BK444 := hp0 BK444; replace BK445 := hp0 BK445; replace BK446 := hp0 BK446; replace BK447 := hp0 BK447; replace BK448 := hp0 BK448; replace BK449 := hp0 BK449; replace BK450 := hp0 BK450; have HB := n9_; clear n0_ n9_ hp0 hv; (try clear hb); (try clear ho0); have zq48 := c3 BK443; have zq49 := c3 BK444; have zq50 := c2 BK445) | ((with_reducible refine gate_callee (f := 5) rfl ?_); refine gL (some 78) Try.func5 #[.agg #[.int .i64 a0_0, .int .i64 a0_1, .int .i64 a0_2], .agg #[.int .i64 a1_0, .int .i64 a1_1, .int .i64 a1_2], .agg #[.int .i64 a2_0, .int .i64 a2_1]] rfl ?_; (with_reducible refine (spec_AheadTimes.calls k a0_0 a0_1 a0_2 a1_0 a1_1 a1_2 a2_0 a2_1 t455 t458 _ A10.out).mono ?_); rintro e w51 ⟨v456, rfl, ho0, hb⟩; refine ⟨_, rfl, ?_⟩; have n0_ := Am (Kd.R_elder' (kW HO453) (Kd.R_base ho0) hb); have n1_ := Am (Kd.R_lower (Kd.R_newB (Kd.R_newB (Kd.R_new' ho0 (Kd.R_lt (kW HO453))) (g := gb445) (o := .cells #[.int .i64 a2_0, .int .i64 a2_1] 23 (0, 0)) (kU BK445)) (g := gb450) (o := .cells #[.int .i64 a7_0, .int .i64 a7_1] 23 (0, 0)) (kU BK450)) (bZ (by repeat (first | (with_reducible first | exact HB.out | apply bA | apply bN | apply bD | refine bX ?_ (by assumption)) | exact HB.out)))); have hp0 := pA BK443 hb; have hv := vK HB hb; have n10_ := Am (bT hv hb); clear HO453; clear HB; have HO453 := n0_; have HO457 := n1_; replace BK443 := hp0 BK443; replace BK444 := hp0 BK444; replace BK445 := hp0 BK445; replace BK446 := hp0 BK446; replace BK447 := hp0 BK447; replace BK448 := hp0 BK448; replace BK449 := hp0 BK449; replace BK450 := hp0 BK450; have HB := n10_; clear n0_ n1_ n10_ hp0 hv; (try clear hb); (try clear ho0); have zq52 := c3 BK443; have zq53 := c3 BK444; have zq54 := c2 BK445) | ((with_reducible refine gate_callee (f := 6) rfl ?_); refine gL (some 85) Try.func6 #[.agg #[.int .i64 a0_0, .int .i64 a0_1, .int .i64 a0_2], .agg #[.int .i64 a1_0, .int .i64 a1_1, .int .i64 a1_2], .agg #[.int .i64 a2_0, .int .i64 a2_1]] rfl ?_; (with_reducible refine (impl_AheadAt.calls k a0_0 a0_1 a0_2 a1_0 a1_1 a1_2 a2_0 a2_1 t459 t460 t461 _ A11.out).mono ?_); rintro e w55 ⟨rfl, hb⟩; refine ⟨_, rfl, ?_⟩; have n0_ := Am (Kd.R_below (kW HO453) hb); have n1_ := Am (Kd.R_below (kW HO457) hb); have hp0 := pA BK443 hb; have hv := vK HB hb; have n10_ := Am (bT hv hb); clear HO453; clear HO457; clear HB; have HO453 := n0_; have HO457 := n1_; replace BK443 := hp0 BK443; replace BK444 := hp0 BK444; replace BK445 := hp0 BK445; replace BK446 := hp0 BK446; replace BK447 := hp0 BK447; replace BK448 := hp0 BK448; replace BK449 := hp0 BK449; replace BK450 := hp0 BK450; have HB := n10_; clear n0_ n1_ n10_ hp0 hv; (try clear hb)) | ((with_reducible refine gate_dst (N := 21) rfl ?_); (try (refine gate_guard (by rfl) ?_; dsimp only)); refine bE 21 #[.int .i64 0, .int .i64 0] 23 ?_; intro gb462 hg w56 hbox hb; have n0_ := Am (Kd.R_below (Kd.R_elderB (kW HO453) gb462 (Nat.le_of_eq hg.symm)) hb); have n1_ := Am (Kd.R_below (Kd.R_elderB (kW HO457) gb462 (Nat.le_of_eq hg.symm)) hb); have hp0 := pA BK443 hb; have hv := vK HB hb; have n10_ := Am (bT hv hb); have n11_ := Am (hbox); have GE462 := kG hg hv; have hp1 := pK BK443 hb; obtain ⟨NB443_462, NB462_443⟩ := kXY hg hp1 BK443; obtain ⟨NB444_462, NB462_444⟩ := kXY hg hp1 BK444; obtain ⟨NB445_462, NB462_445⟩ := kXY hg hp1 BK445; obtain ⟨NB446_462, NB462_446⟩ := kXY hg hp1 BK446; obtain ⟨NB447_462, NB462_447⟩ := kXY hg hp1 BK447; obtain ⟨NB448_462, NB462_448⟩ := kXY hg hp1 BK448; obtain ⟨NB449_462, NB462_449⟩ := kXY hg hp1 BK449; obtain ⟨NB450_462, NB462_450⟩ := kXY hg hp1 BK450; clear HO453; clear HO457; clear HB; have HO453 := n0_; have HO457 := n1_; replace BK443 := hp0 BK443; replace BK444 := hp0 BK444; replace BK445 := hp0 BK445; replace BK446 := hp0 BK446; replace BK447 := hp0 BK447; replace BK448 := hp0 BK448; replace BK449 := hp0 BK449; replace BK450 := hp0 BK450; have HB := n10_; have BK462 := n11_; clear n0_ n1_ n10_ n11_ hp0 hp1 hv; clear hb hbox hg; have nq57 := kO NB462_443; have nq58 := kO NB462_444; have nq59 := kO NB462_445; have nq60 := kO NB462_446; have nq61 := kO NB462_447; have nq62 := kO NB462_448; have nq63 := kO NB462_449; have nq64 := kO NB462_450; have zq65 := c2 BK462; have zq66 := c3 BK443; have zq67 := c3 BK444; have zq68 := c2 BK445) | ((with_reducible refine gate_callee (f := 7) rfl ?_); refine gL (some 92) Try.func7 #[.agg #[.int .i64 a0_0, .int .i64 a0_1, .int .i64 a0_2], .agg #[.int .i64 a1_0, .int .i64 a1_1, .int .i64 a1_2], .agg #[.int .i64 a2_0, .int .i64 a2_1]] rfl ?_; (with_reducible refine (spec_AheadAt.calls k a0_0 a0_1 a0_2 a1_0 a1_1 a1_2 a2_0 a2_1 t463 t464 t465 _ A12.out).mono ?_); rintro e w69 ⟨rfl, hb⟩; refine ⟨_, rfl, ?_⟩; have n0_ := Am (Kd.R_below (by (with_reducible repeat (first | apply Kd.R_alloc | apply Kd.R_drewN | apply Kd.R_drew)); exact (Kd.R_mono (Kd.R_far (p := ⟨gb462, 1, none⟩) (Kd.R_far (p := ⟨gb462, 0, none⟩) (Kd.R_mono HO453.out (fun k_ hk => (⟨hk, hk.2⟩ : _ ∧ k_ ≠ gb462))) (fun _ hk => hk.2) (.int .i64 t459)) (fun _ hk => hk.2) (.int .i64 t460)) (fun _ h_ => h_.1))) hb); have n1_ := Am (Kd.R_below (by (with_reducible repeat (first | apply Kd.R_alloc | apply Kd.R_drewN | apply Kd.R_drew)); exact (Kd.R_mono (Kd.R_far (p := ⟨gb462, 1, none⟩) (Kd.R_far (p := ⟨gb462, 0, none⟩) (Kd.R_mono HO457.out (fun k_ hk => (⟨hk, hk.2⟩ : _ ∧ k_ ≠ gb462))) (fun _ hk => hk.2) (.int .i64 t459)) (fun _ hk => hk.2) (.int .i64 t460)) (fun _ h_ => h_.1))) hb); have hp0 := pB gb462 BK443 hb; have n10_ := Am (kB (g := gb462) (o := .cells #[.int .i64 t459, .int .i64 t460] 23 (0, 0)) (by (with_reducible repeat (first | refine kN ?_ _ | refine kD ?_ | refine kA ?_ _)); refine kP (cs := #[.int .i64 t459, .int .i64 0]) ?_ 1 _ rfl; (with_reducible repeat (first | refine kN ?_ _ | refine kD ?_ | refine kA ?_ _)); refine kP (cs := #[.int .i64 0, .int .i64 0]) ?_ 0 _ rfl; (with_reducible repeat (first | refine kN ?_ _ | refine kD ?_ | refine kA ?_ _)); exact BK462.out) hb); have hv := vK HB hb; have n11_ := Am (bT hv hb); clear HO453; clear HO457; clear BK462; clear HB; have HO453 := n0_; have HO457 := n1_; replace BK443 := hp0 NB443_462 BK443; replace BK444 := hp0 NB444_462 BK444; replace BK445 := hp0 NB445_462 BK445; replace BK446 := hp0 NB446_462 BK446; replace BK447 := hp0 NB447_462 BK447; replace BK448 := hp0 NB448_462 BK448; replace BK449 := hp0 NB449_462 BK449; replace BK450 := hp0 NB450_462 BK450; have BK462 := n10_; have HB := n11_; clear n0_ n1_ n10_ n11_ hp0 hv; (try clear hb); (try clear hk)) | ((with_reducible refine gate_dst (N := 23) rfl ?_); (try (refine gate_guard (by rfl) ?_; dsimp only)); refine bE 23 #[.int .i64 0, .int .i64 0] 23 ?_; intro gb466 hg w70 hbox hb; have n0_ := Am (Kd.R_below (Kd.R_elderB (kW HO453) gb466 (Nat.le_of_eq hg.symm)) hb); have n1_ := Am (Kd.R_below (Kd.R_elderB (kW HO457) gb466 (Nat.le_of_eq hg.symm)) hb); have hp0 := pA BK443 hb; have hv := vK HB hb; have n11_ := Am (bT hv hb); have n12_ := Am (hbox); have GE466 := kG hg hv; have hp1 := pK BK443 hb; obtain ⟨NB443_466, NB466_443⟩ := kXY hg hp1 BK443; obtain ⟨NB444_466, NB466_444⟩ := kXY hg hp1 BK444; obtain ⟨NB445_466, NB466_445⟩ := kXY hg hp1 BK445; obtain ⟨NB446_466, NB466_446⟩ := kXY hg hp1 BK446; obtain ⟨NB447_466, NB466_447⟩ := kXY hg hp1 BK447; obtain ⟨NB448_466, NB466_448⟩ := kXY hg hp1 BK448; obtain ⟨NB449_466, NB466_449⟩ := kXY hg hp1 BK449; obtain ⟨NB450_466, NB466_450⟩ := kXY hg hp1 BK450; obtain ⟨NB462_466, NB466_462⟩ := kXY hg hp1 BK462; clear HO453; clear HO457; clear HB; have HO453 := n0_; have HO457 := n1_; replace BK443 := hp0 BK443; replace BK444 := hp0 BK444; replace BK445 := hp0 BK445; replace BK446 := hp0 BK446; replace BK447 := hp0 BK447; replace BK448 := hp0 BK448; replace BK449 := hp0 BK449; replace BK450 := hp0 BK450; replace BK462 := hp0 BK462; have HB := n11_; have BK466 := n12_; clear n0_ n1_ n11_ n12_ hp0 hp1 hv; clear hb hbox hg; have nq71 := kO NB466_443; have nq72 := kO NB466_444; have nq73 := kO NB466_445; have nq74 := kO NB466_446; have nq75 := kO NB466_447; have nq76 := kO NB466_448; have nq77 := kO NB466_449; have nq78 := kO NB466_450; have nq79 := kO NB466_462; have zq80 := c2 BK466; have zq81 := c3 BK443; have zq82 := c3 BK444) | ((with_reducible refine gate_callee (f := 8) rfl ?_); refine gL (some 98) Try.func8 #[.agg #[.int .i64 a0_0, .int .i64 a0_1, .int .i64 a0_2], .agg #[.int .i64 a1_0, .int .i64 a1_1, .int .i64 a1_2]] rfl ?_; (with_reducible refine (impl_RelativeHand.calls k a0_0 a0_1 a0_2 a1_0 a1_1 a1_2 t467 t468 t469 t470 _ A13.out).mono ?_); rintro e w83 ⟨rfl, hb⟩; refine ⟨_, rfl, ?_⟩; have n0_ := Am (Kd.R_below (by (with_reducible repeat (first | apply Kd.R_alloc | apply Kd.R_drewN | apply Kd.R_drew)); exact (Kd.R_mono (Kd.R_far (p := ⟨gb466, 1, none⟩) (Kd.R_far (p := ⟨gb466, 0, none⟩) (Kd.R_mono HO453.out (fun k_ hk => (⟨hk, hk.2⟩ : _ ∧ k_ ≠ gb466))) (fun _ hk => hk.2) (.int .i64 t463)) (fun _ hk => hk.2) (.int .i64 t464)) (fun _ h_ => h_.1))) hb); have n1_ := Am (Kd.R_below (by (with_reducible repeat (first | apply Kd.R_alloc | apply Kd.R_drewN | apply Kd.R_drew)); exact (Kd.R_mono (Kd.R_far (p := ⟨gb466, 1, none⟩) (Kd.R_far (p := ⟨gb466, 0, none⟩) (Kd.R_mono HO457.out (fun k_ hk => (⟨hk, hk.2⟩ : _ ∧ k_ ≠ gb466))) (fun _ hk => hk.2) (.int .i64 t463)) (fun _ hk => hk.2) (.int .i64 t464)) (fun _ h_ => h_.1))) hb); have hp0 := pB gb466 BK443 hb; have n11_ := Am (kB (g := gb466) (o := .cells #[.int .i64 t463, .int .i64 t464] 23 (0, 0)) (by (with_reducible repeat (first | refine kN ?_ _ | refine kD ?_ | refine kA ?_ _)); refine kP (cs := #[.int .i64 t463, .int .i64 0]) ?_ 1 _ rfl; (with_reducible repeat (first | refine kN ?_ _ | refine kD ?_ | refine kA ?_ _)); refine kP (cs := #[.int .i64 0, .int .i64 0]) ?_ 0 _ rfl; (with_reducible repeat (first | refine kN ?_ _ | refine kD ?_ | refine kA ?_ _)); exact BK466.out) hb); have hv := vK HB hb; have n12_ := Am (bT hv hb); clear HO453; clear HO457; clear BK466; clear HB; have HO453 := n0_; have HO457 := n1_; replace BK443 := hp0 NB443_466 BK443; replace BK444 := hp0 NB444_466 BK444; replace BK445 := hp0 NB445_466 BK445; replace BK446 := hp0 NB446_466 BK446; replace BK447 := hp0 NB447_466 BK447; replace BK448 := hp0 NB448_466 BK448; replace BK449 := hp0 NB449_466 BK449; replace BK450 := hp0 NB450_466 BK450; replace BK462 := hp0 NB462_466 BK462; have BK466 := n11_; have HB := n12_; clear n0_ n1_ n11_ n12_ hp0 hv; (try clear hb); (try clear hk)) | ((with_reducible refine gate_dst (N := 25) rfl ?_); (try (refine gate_guard (by rfl) ?_; dsimp only)); refine bE 25 #[.int .i64 0, .int .i64 0, .int .i64 0] 25 ?_; intro gb471 hg w84 hbox hb; have n0_ := Am (Kd.R_below (kW HO453) hb); have n1_ := Am (Kd.R_below (kW HO457) hb); have hp0 := pA BK443 hb; have hv := vK HB hb; have n12_ := Am (bT hv hb); have n13_ := Am (hbox); have GE471 := kG hg hv; have hp1 := pK BK443 hb; obtain ⟨NB443_471, NB471_443⟩ := kXY hg hp1 BK443; obtain ⟨NB444_471, NB471_444⟩ := kXY hg hp1 BK444; obtain ⟨NB445_471, NB471_445⟩ := kXY hg hp1 BK445; obtain ⟨NB446_471, NB471_446⟩ := kXY hg hp1 BK446; obtain ⟨NB447_471, NB471_447⟩ := kXY hg hp1 BK447; obtain ⟨NB448_471, NB471_448⟩ := kXY hg hp1 BK448; obtain ⟨NB449_471, NB471_449⟩ := kXY hg hp1 BK449; obtain ⟨NB450_471, NB471_450⟩ := kXY hg hp1 BK450; obtain ⟨NB462_471, NB471_462⟩ := kXY hg hp1 BK462; obtain ⟨NB466_471, NB471_466⟩ := kXY hg hp1 BK466; clear HO453; clear HO457; clear HB; have HO453 := n0_; have HO457 := n1_; replace BK443 := hp0 BK443; replace BK444 := hp0 BK444; replace BK445 := hp0 BK445; replace BK446 := hp0 BK446; replace BK447 := hp0 BK447; replace BK448 := hp0 BK448; replace BK449 := hp0 BK449; replace BK450 := hp0 BK450; replace BK462 := hp0 BK462; replace BK466 := hp0 BK466; have HB := n12_; have BK471 := n13_; clear n0_ n1_ n12_ n13_ hp0 hp1 hv; clear hb hbox hg; have nq85 := kO NB471_443; have nq86 := kO NB471_444; have nq87 := kO NB471_445; have nq88 := kO NB471_446; have nq89 := kO NB471_447; have nq90 := kO NB471_448; have nq91 := kO NB471_449; have nq92 := kO NB471_450; have nq93 := kO NB471_462; have nq94 := kO NB471_466; have zq95 := c3 BK471; have zq96 := c3 BK443; have zq97 := c3 BK444) | ((with_reducible refine gate_callee (f := 9) rfl ?_); refine gL (some 104) Try.func9 #[.agg #[.int .i64 a0_0, .int .i64 a0_1, .int .i64 a0_2], .agg #[.int .i64 a1_0, .int .i64 a1_1, .int .i64 a1_2]] rfl ?_; (with_reducible refine (spec_RelativeHand.calls k a0_0 a0_1 a0_2 a1_0 a1_1 a1_2 t472 t473 t474 t475 _ A14.out).mono ?_); rintro e w98 ⟨rfl, hb⟩; refine ⟨_, rfl, ?_⟩; have n0_ := Am (Kd.R_below (by (with_reducible repeat (first | apply Kd.R_alloc | apply Kd.R_drewN | apply Kd.R_drew)); exact (Kd.R_mono (Kd.R_far (p := ⟨gb471, 2, none⟩) (Kd.R_far (p := ⟨gb471, 1, none⟩) (Kd.R_far (p := ⟨gb471, 0, none⟩) (Kd.R_types HO453.out BK471.out (by decide)) (fun _ hk => hk.2) (.int .i64 t467)) (fun _ hk => hk.2) (.int .i64 t468)) (fun _ hk => hk.2) (.int .i64 t469)) (fun _ h_ => h_.1))) hb); have n1_ := Am (Kd.R_below (by (with_reducible repeat (first | apply Kd.R_alloc | apply Kd.R_drewN | apply Kd.R_drew)); exact (Kd.R_mono (Kd.R_far (p := ⟨gb471, 2, none⟩) (Kd.R_far (p := ⟨gb471, 1, none⟩) (Kd.R_far (p := ⟨gb471, 0, none⟩) (Kd.R_types HO457.out BK471.out (by decide)) (fun _ hk => hk.2) (.int .i64 t467)) (fun _ hk => hk.2) (.int .i64 t468)) (fun _ hk => hk.2) (.int .i64 t469)) (fun _ h_ => h_.1))) hb); have hp0 := pB gb471 BK443 hb; have n12_ := Am (kB (g := gb471) (o := .cells #[.int .i64 t467, .int .i64 t468, .int .i64 t469] 25 (0, 0)) (by (with_reducible repeat (first | refine kN ?_ _ | refine kD ?_ | refine kA ?_ _)); refine kP (cs := #[.int .i64 t467, .int .i64 t468, .int .i64 0]) ?_ 2 _ rfl; (with_reducible repeat (first | refine kN ?_ _ | refine kD ?_ | refine kA ?_ _)); refine kP (cs := #[.int .i64 t467, .int .i64 0, .int .i64 0]) ?_ 1 _ rfl; (with_reducible repeat (first | refine kN ?_ _ | refine kD ?_ | refine kA ?_ _)); refine kP (cs := #[.int .i64 0, .int .i64 0, .int .i64 0]) ?_ 0 _ rfl; (with_reducible repeat (first | refine kN ?_ _ | refine kD ?_ | refine kA ?_ _)); exact BK471.out) hb); have hv := vK HB hb; have n13_ := Am (bT hv hb); clear HO453; clear HO457; clear BK471; clear HB; have HO453 := n0_; have HO457 := n1_; replace BK443 := hp0 NB443_471 BK443; replace BK444 := hp0 NB444_471 BK444; replace BK445 := hp0 NB445_471 BK445; replace BK446 := hp0 NB446_471 BK446; replace BK447 := hp0 NB447_471 BK447; replace BK448 := hp0 NB448_471 BK448; replace BK449 := hp0 NB449_471 BK449; replace BK450 := hp0 NB450_471 BK450; replace BK462 := hp0 NB462_471 BK462; replace BK466 := hp0 NB466_471 BK466; have BK471 := n12_; have HB := n13_; clear n0_ n1_ n12_ n13_ hp0 hv; (try clear hb); (try clear hk)) | ((with_reducible refine gate_dst (N := 27) rfl ?_); (try (refine gate_guard (by rfl) ?_; dsimp only)); refine bE 27 #[.int .i64 0, .int .i64 0, .int .i64 0] 25 ?_; intro gb476 hg w99 hbox hb; have n0_ := Am (Kd.R_below (kW HO453) hb); have n1_ := Am (Kd.R_below (kW HO457) hb); have hp0 := pA BK443 hb; have hv := vK HB hb; have n13_ := Am (bT hv hb); have n14_ := Am (hbox); have GE476 := kG hg hv; have hp1 := pK BK443 hb; obtain ⟨NB443_476, NB476_443⟩ := kXY hg hp1 BK443; obtain ⟨NB444_476, NB476_444⟩ := kXY hg hp1 BK444; obtain ⟨NB445_476, NB476_445⟩ := kXY hg hp1 BK445; obtain ⟨NB446_476, NB476_446⟩ := kXY hg hp1 BK446; obtain ⟨NB447_476, NB476_447⟩ := kXY hg hp1 BK447; obtain ⟨NB448_476, NB476_448⟩ := kXY hg hp1 BK448; obtain ⟨NB449_476, NB476_449⟩ := kXY hg hp1 BK449; obtain ⟨NB450_476, NB476_450⟩ := kXY hg hp1 BK450; obtain ⟨NB462_476, NB476_462⟩ := kXY hg hp1 BK462; obtain ⟨NB466_476, NB476_466⟩ := kXY hg hp1 BK466; obtain ⟨NB471_476, NB476_471⟩ := kXY hg hp1 BK471; clear HO453; clear HO457; clear HB; have HO453 := n0_; have HO457 := n1_; replace BK443 := hp0 BK443; replace BK444 := hp0 BK444; replace BK445 := hp0 BK445; replace BK446 := hp0 BK446; replace BK447 := hp0 BK447; replace BK448 := hp0 BK448; replace BK449 := hp0 BK449; replace BK450 := hp0 BK450; replace BK462 := hp0 BK462; replace BK466 := hp0 BK466; replace BK471 := hp0 BK471; have HB := n13_; have BK476 := n14_; clear n0_ n1_ n13_ n14_ hp0 hp1 hv; clear hb hbox hg; have nq100 := kO NB476_443; have nq101 := kO NB476_444; have nq102 := kO NB476_445; have nq103 := kO NB476_446; have nq104 := kO NB476_447; have nq105 := kO NB476_448; have nq106 := kO NB476_449; have nq107 := kO NB476_450; have nq108 := kO NB476_462; have nq109 := kO NB476_466; have nq110 := kO NB476_471; have zq111 := c3 BK476; have zq112 := c3 BK443; have zq113 := c3 BK444) | ((with_reducible refine gate_callee (f := 10) rfl ?_); refine gL (some 110) Try.func10 #[.agg #[.int .i64 a0_0, .int .i64 a0_1, .int .i64 a0_2], .agg #[.int .i64 a1_0, .int .i64 a1_1, .int .i64 a1_2]] rfl ?_; (with_reducible refine (impl_OppositeTimes.calls k a0_0 a0_1 a0_2 a1_0 a1_1 a1_2 t477 t480 _ A15.out).mono ?_); rintro e w114 ⟨v478, rfl, ho0, hb⟩; refine ⟨_, rfl, ?_⟩; have n0_ := Am (Kd.R_elder' (by (with_reducible repeat (first | apply Kd.R_alloc | apply Kd.R_drewN | apply Kd.R_drew)); exact (Kd.R_mono (Kd.R_far (p := ⟨gb476, 2, none⟩) (Kd.R_far (p := ⟨gb476, 1, none⟩) (Kd.R_far (p := ⟨gb476, 0, none⟩) (Kd.R_types HO453.out BK476.out (by decide)) (fun _ hk => hk.2) (.int .i64 t472)) (fun _ hk => hk.2) (.int .i64 t473)) (fun _ hk => hk.2) (.int .i64 t474)) (fun _ h_ => h_.1))) (Kd.R_base ho0) hb); have n1_ := Am (Kd.R_elder' (by (with_reducible repeat (first | apply Kd.R_alloc | apply Kd.R_drewN | apply Kd.R_drew)); exact (Kd.R_mono (Kd.R_far (p := ⟨gb476, 2, none⟩) (Kd.R_far (p := ⟨gb476, 1, none⟩) (Kd.R_far (p := ⟨gb476, 0, none⟩) (Kd.R_types HO457.out BK476.out (by decide)) (fun _ hk => hk.2) (.int .i64 t472)) (fun _ hk => hk.2) (.int .i64 t473)) (fun _ hk => hk.2) (.int .i64 t474)) (fun _ h_ => h_.1))) (Kd.R_base ho0) hb); have n2_ := Am (Kd.R_lower (Kd.R_newB (Kd.R_newB (Kd.R_newB (Kd.R_newB (Kd.R_new' (Kd.R_new' ho0 (Kd.R_lt (by (with_reducible repeat (first | apply Kd.R_alloc | apply Kd.R_drewN | apply Kd.R_drew)); exact (Kd.R_mono (Kd.R_far (p := ⟨gb476, 2, none⟩) (Kd.R_far (p := ⟨gb476, 1, none⟩) (Kd.R_far (p := ⟨gb476, 0, none⟩) (Kd.R_types HO453.out BK476.out (by decide)) (fun _ hk => hk.2) (.int .i64 t472)) (fun _ hk => hk.2) (.int .i64 t473)) (fun _ hk => hk.2) (.int .i64 t474)) (fun _ h_ => h_.1))))) (Kd.R_lt (by (with_reducible repeat (first | apply Kd.R_alloc | apply Kd.R_drewN | apply Kd.R_drew)); exact (Kd.R_mono (Kd.R_far (p := ⟨gb476, 2, none⟩) (Kd.R_far (p := ⟨gb476, 1, none⟩) (Kd.R_far (p := ⟨gb476, 0, none⟩) (Kd.R_types HO457.out BK476.out (by decide)) (fun _ hk => hk.2) (.int .i64 t472)) (fun _ hk => hk.2) (.int .i64 t473)) (fun _ hk => hk.2) (.int .i64 t474)) (fun _ h_ => h_.1))))) (g := gb445) (o := .cells #[.int .i64 a2_0, .int .i64 a2_1] 23 (0, 0)) (by (with_reducible repeat (first | refine kN ?_ _ | refine kD ?_ | refine kA ?_ _)); refine kR ?_ NB445_476.out _; (with_reducible repeat (first | refine kN ?_ _ | refine kD ?_ | refine kA ?_ _)); refine kR ?_ NB445_476.out _; (with_reducible repeat (first | refine kN ?_ _ | refine kD ?_ | refine kA ?_ _)); refine kR ?_ NB445_476.out _; (with_reducible repeat (first | refine kN ?_ _ | refine kD ?_ | refine kA ?_ _)); exact BK445.out)) (g := gb450) (o := .cells #[.int .i64 a7_0, .int .i64 a7_1] 23 (0, 0)) (by (with_reducible repeat (first | refine kN ?_ _ | refine kD ?_ | refine kA ?_ _)); refine kR ?_ NB450_476.out _; (with_reducible repeat (first | refine kN ?_ _ | refine kD ?_ | refine kA ?_ _)); refine kR ?_ NB450_476.out _; (with_reducible repeat (first | refine kN ?_ _ | refine kD ?_ | refine kA ?_ _)); refine kR ?_ NB450_476.out _; (with_reducible repeat (first | refine kN ?_ _ | refine kD ?_ | refine kA ?_ _)); exact BK450.out)) (g := gb462) (o := .cells #[.int .i64 t459, .int .i64 t460] 23 (0, 0)) (by (with_reducible repeat (first | refine kN ?_ _ | refine kD ?_ | refine kA ?_ _)); refine kR ?_ NB462_476.out _; (with_reducible repeat (first | refine kN ?_ _ | refine kD ?_ | refine kA ?_ _)); refine kR ?_ NB462_476.out _; (with_reducible repeat (first | refine kN ?_ _ | refine kD ?_ | refine kA ?_ _)); refine kR ?_ NB462_476.out _; (with_reducible repeat (first | refine kN ?_ _ | refine kD ?_ | refine kA ?_ _)); exact BK462.out)) (g := gb466) (o := .cells #[.int .i64 t463, .int .i64 t464] 23 (0, 0)) (by (with_reducible repeat (first | refine kN ?_ _ | refine kD ?_ | refine kA ?_ _)); refine kR ?_ NB466_476.out _; (with_reducible repeat (first | refine kN ?_ _ | refine kD ?_ | refine kA ?_ _)); refine kR ?_ NB466_476.out _; (with_reducible repeat (first | refine kN ?_ _ | refine kD ?_ | refine kA ?_ _)); refine kR ?_ NB466_476.out _; (with_reducible repeat (first | refine kN ?_ _ | refine kD ?_ | refine kA ?_ _)); exact BK466.out)) (bZ (by repeat (first | (with_reducible first | exact HB.out | apply bA | apply bN | apply bD | refine bX ?_ (by assumption)) | exact HB.out)))); have hp0 := pB gb476 BK443 hb; have n14_ := Am (kB (g := gb476) (o := .cells #[.int .i64 t472, .int .i64 t473, .int .i64 t474] 25 (0, 0)) (by (with_reducible repeat (first | refine kN ?_ _ | refine kD ?_ | refine kA ?_ _)); refine kP (cs := #[.int .i64 t472, .int .i64 t473, .int .i64 0]) ?_ 2 _ rfl; (with_reducible repeat (first | refine kN ?_ _ | refine kD ?_ | refine kA ?_ _)); refine kP (cs := #[.int .i64 t472, .int .i64 0, .int .i64 0]) ?_ 1 _ rfl; (with_reducible repeat (first | refine kN ?_ _ | refine kD ?_ | refine kA ?_ _)); refine kP (cs := #[.int .i64 0, .int .i64 0, .int .i64 0]) ?_ 0 _ rfl; (with_reducible repeat (first | refine kN ?_ _ | refine kD ?_ | refine kA ?_ _)); exact BK476.out) hb); have hv := vK HB hb; have n15_ := Am (bT hv hb); clear HO453; clear HO457; clear BK476; clear HB; have HO453 := n0_; have HO457 := n1_; have HO479 := n2_; replace BK443 := hp0 NB443_476 BK443; replace BK444 := hp0 NB444_476 BK444; replace BK445 := hp0 NB445_476 BK445; replace BK446 := hp0 NB446_476 BK446; replace BK447 := hp0 NB447_476 BK447; replace BK448 := hp0 NB448_476 BK448; replace BK449 := hp0 NB449_476 BK449; replace BK450 := hp0 NB450_476 BK450; replace BK462 := hp0 NB462_476 BK462; replace BK466 := hp0 NB466_476 BK466; replace BK471 := hp0 NB471_476 BK471; have BK476 := n14_; have HB := n15_; clear n0_ n1_ n2_ n14_ n15_ hp0 hv; (try clear hb); (try clear hk); (try clear ho0); have zq115 := c3 BK443; have zq116 := c3 BK444) | ((with_reducible refine gate_callee (f := 11) rfl ?_); refine gL (some 116) Try.func11 #[.agg #[.int .i64 a0_0, .int .i64 a0_1, .int .i64 a0_2], .agg #[.int .i64 a1_0, .int .i64 a1_1, .int .i64 a1_2]] rfl ?_; (with_reducible refine (spec_OppositeTimes.calls k a0_0 a0_1 a0_2 a1_0 a1_1 a1_2 t481 t484 _ A16.out).mono ?_); rintro e w117 ⟨v482, rfl, ho0, hb⟩; refine ⟨_, rfl, ?_⟩; have n0_ := Am (Kd.R_elder' (kW HO453) (Kd.R_base ho0) hb); have n1_ := Am (Kd.R_elder' (kW HO457) (Kd.R_base ho0) hb); have n2_ := Am (Kd.R_elder' (kW HO479) (Kd.R_base ho0) hb); have n3_ := Am (Kd.R_lower (Kd.R_newB (Kd.R_newB (Kd.R_newB (Kd.R_newB (Kd.R_new' (Kd.R_new' (Kd.R_new' ho0 (Kd.R_lt (kW HO453))) (Kd.R_lt (kW HO457))) (Kd.R_lt (kW HO479))) (g := gb445) (o := .cells #[.int .i64 a2_0, .int .i64 a2_1] 23 (0, 0)) (kU BK445)) (g := gb450) (o := .cells #[.int .i64 a7_0, .int .i64 a7_1] 23 (0, 0)) (kU BK450)) (g := gb462) (o := .cells #[.int .i64 t459, .int .i64 t460] 23 (0, 0)) (kU BK462)) (g := gb466) (o := .cells #[.int .i64 t463, .int .i64 t464] 23 (0, 0)) (kU BK466)) (bZ (by repeat (first | (with_reducible first | exact HB.out | apply bA | apply bN | apply bD | refine bX ?_ (by assumption)) | exact HB.out)))); have hp0 := pA BK443 hb; have hv := vK HB hb; have n16_ := Am (bT hv hb); clear HO453; clear HO457; clear HO479; clear HB; have HO453 := n0_; have HO457 := n1_; have HO479 := n2_; have HO483 := n3_; replace BK443 := hp0 BK443; replace BK444 := hp0 BK444; replace BK445 := hp0 BK445; replace BK446 := hp0 BK446; replace BK447 := hp0 BK447; replace BK448 := hp0 BK448; replace BK449 := hp0 BK449; replace BK450 := hp0 BK450; replace BK462 := hp0 BK462; replace BK466 := hp0 BK466; replace BK471 := hp0 BK471; replace BK476 := hp0 BK476; have HB := n16_; clear n0_ n1_ n2_ n3_ n16_ hp0 hv; (try clear hb); (try clear ho0)))
 (try simp only [Act.put, List.setIfInBounds_toArray, List.set_cons_zero, List.set_cons_succ])
 go_cut [158] from 67 to 157 (fun v158 wc => ∃ (kq : Nat) (x158_16 : Bool), v158 = .bool x158_16 ∧ Aside0 (laws_FnHandsAheadOfAll.j0 kq t451 t454 t461 t470 t477 t480 x158_16 a0_0 a0_1 a0_2 a1_0 a1_1 a1_2 a2_0 a2_1 a3_0 a3_1 a3_2 a4_0 a4_1 a4_2 a5_0 a5_1 a5_2 a6_0 a6_1 a6_2 a7_0 a7_1 t459 t460 t467 t468 t469 = some r) ∧ Aside0 (kq ≤ k) ∧ Aside0 (Kd.R k23 23 wc w.heap.size (fun k_ => some k_ ≠ (v478 : Value).ownBlock ∧ k_ ≠ gb445 ∧ k_ ≠ gb450 ∧ k_ ≠ gb462 ∧ k_ ≠ gb466) v452 t451) ∧ Aside0 (Kd.R k23 23 wc w.heap.size (fun k_ => some k_ ≠ (v452 : Value).ownBlock ∧ k_ ≠ gb445 ∧ k_ ≠ gb450 ∧ k_ ≠ gb462 ∧ k_ ≠ gb466) v478 t477) ∧ Aside0 (wc.heap[gb443]? = some (.cells #[.int .i64 a0_0, .int .i64 a0_1, .int .i64 a0_2] 25 (0, 0))) ∧ Aside0 (wc.heap[gb444]? = some (.cells #[.int .i64 a1_0, .int .i64 a1_1, .int .i64 a1_2] 25 (0, 0))) ∧ Aside0 (wc.heap[gb445]? = some (.cells #[.int .i64 a2_0, .int .i64 a2_1] 23 (0, 0))) ∧ Aside0 (wc.heap[gb446]? = some (.cells #[.int .i64 a3_0, .int .i64 a3_1, .int .i64 a3_2] 25 (0, 0))) ∧ Aside0 (wc.heap[gb447]? = some (.cells #[.int .i64 a4_0, .int .i64 a4_1, .int .i64 a4_2] 25 (0, 0))) ∧ Aside0 (wc.heap[gb448]? = some (.cells #[.int .i64 a5_0, .int .i64 a5_1, .int .i64 a5_2] 25 (0, 0))) ∧ Aside0 (wc.heap[gb449]? = some (.cells #[.int .i64 a6_0, .int .i64 a6_1, .int .i64 a6_2] 25 (0, 0))) ∧ Aside0 (wc.heap[gb450]? = some (.cells #[.int .i64 a7_0, .int .i64 a7_1] 23 (0, 0))) ∧ Aside0 (wc.heap[gb462]? = some (.cells #[.int .i64 t459, .int .i64 t460] 23 (0, 0))) ∧ Aside0 (wc.heap[gb466]? = some (.cells #[.int .i64 t463, .int .i64 t464] 23 (0, 0))) ∧ Aside0 (wc.heap[gb471]? = some (.cells #[.int .i64 t467, .int .i64 t468, .int .i64 t469] 25 (0, 0))) ∧ Aside0 (wc.heap[gb476]? = some (.cells #[.int .i64 t472, .int .i64 t473, .int .i64 t474] 25 (0, 0))) ∧ Aside0 (Below w.heap.size w wc))
 case first =>
  have H := HC17.out
  clear HC17
  by_cases c118 : (t454 != t458) = true
  ·rw [if_pos c118] at H
   have c118b0 : (t454 != t458) = true := c118
   (try (have c118b1 : decide (t454 = t458) = false := by simpa using c118))
   (try (have c118b2 : (t454 == t458) = false := by simpa using c118))
   (try (have c118b3 : ¬ (t454 = t458) := by simpa using c118))
   clear c118
   (first | rw [c118b0] | (simp only [i64_w, i32_w]; rw [c118b0]) | skip)
   as_aux_lemma =>
    exact absurd ((laws_FnHandsAheadOfAll.j0_no H).symm.trans hlaw.out) (by decide)
  rw [if_neg c118] at H
  have c118b0 : (t454 != t458) = false := by simpa using c118
  (try (have c118b1 : decide (t454 = t458) = true := by simpa using c118))
  (try (have c118b2 : (t454 == t458) = true := by simpa using c118))
  clear c118
  (first | rw [c118b0] | (simp only [i64_w, i32_w]; rw [c118b0]) | skip)
  replace H := Option.bind_eq_some_iff.mp H
  obtain ⟨t485, A1190, H⟩ := H
  try dsimp only at H
  have A119 := Am A1190
  clear A1190
  by_cases c120 : t485 = true
  ·subst c120
   have H1 : (if (t461 != t465) = true then (laws_FnHandsAheadOfAll.j0 k t451 t454 t461 t470 t477 t480 true a0_0 a0_1 a0_2 a1_0 a1_1 a1_2 a2_0 a2_1 a3_0 a3_1 a3_2 a4_0 a4_1 a4_2 a5_0 a5_1 a5_2 a6_0 a6_1 a6_2 a7_0 a7_1 t459 t460 t467 t468 t469) else (if (!(t459 == t463) || (!(t460 == t464))) = true then (laws_FnHandsAheadOfAll.j0 k t451 t454 t461 t470 t477 t480 true a0_0 a0_1 a0_2 a1_0 a1_1 a1_2 a2_0 a2_1 a3_0 a3_1 a3_2 a4_0 a4_1 a4_2 a5_0 a5_1 a5_2 a6_0 a6_1 a6_2 a7_0 a7_1 t459 t460 t467 t468 t469) else (if (t470 != t475) = true then (laws_FnHandsAheadOfAll.j0 k t451 t454 t461 t470 t477 t480 true a0_0 a0_1 a0_2 a1_0 a1_1 a1_2 a2_0 a2_1 a3_0 a3_1 a3_2 a4_0 a4_1 a4_2 a5_0 a5_1 a5_2 a6_0 a6_1 a6_2 a7_0 a7_1 t459 t460 t467 t468 t469) else (if ((!(t467 == t472) || (!(t468 == t473))) || (!(t469 == t474))) = true then (laws_FnHandsAheadOfAll.j0 k t451 t454 t461 t470 t477 t480 true a0_0 a0_1 a0_2 a1_0 a1_1 a1_2 a2_0 a2_1 a3_0 a3_1 a3_2 a4_0 a4_1 a4_2 a5_0 a5_1 a5_2 a6_0 a6_1 a6_2 a7_0 a7_1 t459 t460 t467 t468 t469) else (if (t480 != t484) = true then (laws_FnHandsAheadOfAll.j0 k t451 t454 t461 t470 t477 t480 true a0_0 a0_1 a0_2 a1_0 a1_1 a1_2 a2_0 a2_1 a3_0 a3_1 a3_2 a4_0 a4_1 a4_2 a5_0 a5_1 a5_2 a6_0 a6_1 a6_2 a7_0 a7_1 t459 t460 t467 t468 t469) else ((laws_kTurns.f k t477 t481).bind fun t486 => (laws_FnHandsAheadOfAll.j0 k t451 t454 t461 t470 t477 t480 (!t486) a0_0 a0_1 a0_2 a1_0 a1_1 a1_2 a2_0 a2_1 a3_0 a3_1 a3_2 a4_0 a4_1 a4_2 a5_0 a5_1 a5_2 a6_0 a6_1 a6_2 a7_0 a7_1 t459 t460 t467 t468 t469))))))) = some r := by rw [if_pos rfl] at H; exact H
   clear H
   have H := H1
   clear H1
   by_cases c121 : (t461 != t465) = true
   ·rw [if_pos c121] at H
    have c121b0 : (t461 != t465) = true := c121
    (try (have c121b1 : decide (t461 = t465) = false := by simpa using c121))
    (try (have c121b2 : (t461 == t465) = false := by simpa using c121))
    (try (have c121b3 : ¬ (t461 = t465) := by simpa using c121))
    clear c121
    as_aux_lemma =>
     exact absurd ((laws_FnHandsAheadOfAll.j0_no H).symm.trans hlaw.out) (by decide)
   rw [if_neg c121] at H
   have c121b0 : (t461 != t465) = false := by simpa using c121
   (try (have c121b1 : decide (t461 = t465) = true := by simpa using c121))
   (try (have c121b2 : (t461 == t465) = true := by simpa using c121))
   clear c121
   by_cases c122 : (!(t459 == t463) || (!(t460 == t464))) = true
   ·rw [if_pos c122] at H
    have c122b0 : (!(t459 == t463) || (!(t460 == t464))) = true := c122
    clear c122
    as_aux_lemma =>
     exact absurd ((laws_FnHandsAheadOfAll.j0_no H).symm.trans hlaw.out) (by decide)
   rw [if_neg c122] at H
   have c122b0 : (!(t459 == t463) || (!(t460 == t464))) = false := by simpa using c122
   clear c122
   by_cases c123 : (t470 != t475) = true
   ·rw [if_pos c123] at H
    have c123b0 : (t470 != t475) = true := c123
    (try (have c123b1 : decide (t470 = t475) = false := by simpa using c123))
    (try (have c123b2 : (t470 == t475) = false := by simpa using c123))
    (try (have c123b3 : ¬ (t470 = t475) := by simpa using c123))
    clear c123
    as_aux_lemma =>
     exact absurd ((laws_FnHandsAheadOfAll.j0_no H).symm.trans hlaw.out) (by decide)
   rw [if_neg c123] at H
   have c123b0 : (t470 != t475) = false := by simpa using c123
   (try (have c123b1 : decide (t470 = t475) = true := by simpa using c123))
   (try (have c123b2 : (t470 == t475) = true := by simpa using c123))
   clear c123
   by_cases c124 : ((!(t467 == t472) || (!(t468 == t473))) || (!(t469 == t474))) = true
   ·rw [if_pos c124] at H
    have c124b0 : ((!(t467 == t472) || (!(t468 == t473))) || (!(t469 == t474))) = true := c124
    clear c124
    as_aux_lemma =>
     exact absurd ((laws_FnHandsAheadOfAll.j0_no H).symm.trans hlaw.out) (by decide)
   rw [if_neg c124] at H
   have c124b0 : ((!(t467 == t472) || (!(t468 == t473))) || (!(t469 == t474))) = false := by simpa using c124
   clear c124
   by_cases c125 : (t480 != t484) = true
   ·rw [if_pos c125] at H
    have c125b0 : (t480 != t484) = true := c125
    (try (have c125b1 : decide (t480 = t484) = false := by simpa using c125))
    (try (have c125b2 : (t480 == t484) = false := by simpa using c125))
    (try (have c125b3 : ¬ (t480 = t484) := by simpa using c125))
    clear c125
    as_aux_lemma =>
     exact absurd ((laws_FnHandsAheadOfAll.j0_no H).symm.trans hlaw.out) (by decide)
   rw [if_neg c125] at H
   have c125b0 : (t480 != t484) = false := by simpa using c125
   (try (have c125b1 : decide (t480 = t484) = true := by simpa using c125))
   (try (have c125b2 : (t480 == t484) = true := by simpa using c125))
   clear c125
   replace H := Option.bind_eq_some_iff.mp H
   obtain ⟨t486, A1260, H⟩ := H
   try dsimp only at H
   have A126 := Am A1260
   clear A1260
   as_aux_lemma =>
    have H' := Am H
    clear H
    obtain ⟨Ao127, co127, eo127⟩ := Kd.R_slice HO453.out
    subst eo127
    obtain ⟨Ao128, co128, eo128⟩ := Kd.R_slice HO457.out
    subst eo128
    go_wp2_with (first | (go_at_call 12; (with_reducible refine (laws_kTurns.calls k _ _ t451 _ _ t455 true _ ?side1 ?side2 ?side3 ?side4 A119.out).mono ?_); (case side1 => repeat (first | exact (Kd.R_reads' HO453.out).2.2 | (with_reducible refine Kd.C_alloc ?_ _) | (with_reducible refine Kd.C_drewN ?_ _) | (with_reducible refine Kd.C_drew ?_))); (case side2 => exact (Kd.R_reads' HO453.out).2.1); (case side3 => repeat (first | exact (Kd.R_reads' HO457.out).2.2 | (with_reducible refine Kd.C_alloc ?_ _) | (with_reducible refine Kd.C_drewN ?_ _) | (with_reducible refine Kd.C_drew ?_))); (case side4 => exact (Kd.R_reads' HO457.out).2.1); rintro e w' ⟨rfl, ⟨nd, rfl⟩⟩; have nq129 := kO NB462_443; have nq130 := kO NB462_444; have nq131 := kO NB462_445; have nq132 := kO NB462_446; have nq133 := kO NB462_447; have nq134 := kO NB462_448; have nq135 := kO NB462_449; have nq136 := kO NB462_450; have nq137 := kO NB462_466; have nq138 := kO NB462_471; have nq139 := kO NB462_476; have zq140 := c2 BK462; have nq141 := kO NB466_443; have nq142 := kO NB466_444; have nq143 := kO NB466_445; have nq144 := kO NB466_446; have nq145 := kO NB466_447; have nq146 := kO NB466_448; have nq147 := kO NB466_449; have nq148 := kO NB466_450; have nq149 := kO NB466_471; have nq150 := kO NB466_476; have zq151 := c2 BK466; have nq152 := kO NB471_443; have nq153 := kO NB471_444; have nq154 := kO NB471_445; have nq155 := kO NB471_446; have nq156 := kO NB471_447; have nq157 := kO NB471_448; have nq158 := kO NB471_449; have nq159 := kO NB471_450; have nq160 := kO NB471_476; have zq161 := c3 BK471; have nq162 := kO NB476_443; have nq163 := kO NB476_444; have nq164 := kO NB476_445; have nq165 := kO NB476_446; have nq166 := kO NB476_447; have nq167 := kO NB476_448; have nq168 := kO NB476_449; have nq169 := kO NB476_450; have zq170 := c3 BK476; obtain ⟨Ao171, co171, eo171⟩ := Kd.R_slice HO479.out; subst eo171; obtain ⟨Ao172, co172, eo172⟩ := Kd.R_slice HO483.out; subst eo172) | (go_at_call 12; (with_reducible refine (laws_kTurns.calls k _ _ t477 _ _ t481 t486 _ ?side1 ?side2 ?side3 ?side4 A126.out).mono ?_); (case side1 => repeat (first | exact (Kd.R_reads' HO479.out).2.2 | (with_reducible refine Kd.C_alloc ?_ _) | (with_reducible refine Kd.C_drewN ?_ _) | (with_reducible refine Kd.C_drew ?_))); (case side2 => exact (Kd.R_reads' HO479.out).2.1); (case side3 => repeat (first | exact (Kd.R_reads' HO483.out).2.2 | (with_reducible refine Kd.C_alloc ?_ _) | (with_reducible refine Kd.C_drewN ?_ _) | (with_reducible refine Kd.C_drew ?_))); (case side4 => exact (Kd.R_reads' HO483.out).2.1); rintro e w' ⟨rfl, ⟨nd, rfl⟩⟩))
    go_meet
    case rel =>
     refine ⟨_, (!t486), (by first | rfl | (simp; done) | (simp [*]; done)), H', ⟨by first | omega | exact Nat.le_refl _⟩, ⟨by (with_reducible repeat (first | apply Kd.R_alloc | apply Kd.R_drewN | apply Kd.R_drew)); exact Kd.R_mono HO453.out (fun _ hk => ⟨hk.1.2, ⟨hk.1.1.1.1.1.1.2, ⟨hk.1.1.1.1.1.2, ⟨hk.1.1.1.2, hk.1.1.2⟩⟩⟩⟩)⟩, ⟨by (with_reducible repeat (first | apply Kd.R_alloc | apply Kd.R_drewN | apply Kd.R_drew)); exact Kd.R_mono HO479.out (fun _ hk => ⟨hk.1.1.1.1.1.1.2, ⟨hk.1.1.1.1.2, ⟨hk.1.1.1.2, ⟨hk.1.1.2, hk.1.2⟩⟩⟩⟩)⟩, ⟨?_⟩, ⟨?_⟩, ⟨?_⟩, ⟨?_⟩, ⟨?_⟩, ⟨?_⟩, ⟨?_⟩, ⟨?_⟩, ⟨?_⟩, ⟨?_⟩, ⟨?_⟩, ⟨?_⟩, ⟨by repeat (first | (with_reducible first | exact HB.out | apply bA | apply bN | apply bD | refine bX ?_ (by assumption)) | exact HB.out)⟩⟩
     all_goals ((with_reducible repeat (first | refine kN ?_ _ | refine kD ?_ | refine kA ?_ _)); exact Aside0.out (by assumption))
  replace c120 := Bool.eq_false_iff.mpr c120
  subst c120
  have H1 : (laws_FnHandsAheadOfAll.j0 k t451 t454 t461 t470 t477 t480 true a0_0 a0_1 a0_2 a1_0 a1_1 a1_2 a2_0 a2_1 a3_0 a3_1 a3_2 a4_0 a4_1 a4_2 a5_0 a5_1 a5_2 a6_0 a6_1 a6_2 a7_0 a7_1 t459 t460 t467 t468 t469) = some r := by rw [if_neg (show ¬ (false = true) by decide)] at H; exact H
  clear H
  have H := H1
  clear H1
  as_aux_lemma =>
   exact absurd ((laws_FnHandsAheadOfAll.j0_no H).symm.trans hlaw.out) (by decide)
 clear HC17
 (try clear c30); (try clear c31); (try clear c32); (try clear zq111); (try clear zq112); (try clear zq113); (try clear zq115); (try clear zq116); (try clear zq33); (try clear zq40); (try clear zq46); (try clear zq48); (try clear zq49); (try clear zq50); (try clear zq52); (try clear zq53); (try clear zq54); (try clear zq65); (try clear zq66); (try clear zq67); (try clear zq68); (try clear zq80); (try clear zq81); (try clear zq82); (try clear zq95); (try clear zq96); (try clear zq97)
 obtain ⟨kq, x158_16, rfl, HA, HJ16, HO_17, HO_29, BK443, BK444, BK445, BK446, BK447, BK448, BK449, BK450, BK462, BK466, BK471, BK476, HB⟩ := hcut
 cases kq with
 | zero => exact absurd HA.out (by simp [laws_FnHandsAheadOfAll.j0])
 | succ kj16 =>
  have H := HA.out
  clear HA
  simp only [laws_FnHandsAheadOfAll.j0] at H
  by_cases c173 : x158_16 = true
  ·subst c173
   have H1 : (some false) = some r := by rw [if_pos rfl] at H; exact H
   clear H
   have H := H1
   clear H1
   as_aux_lemma =>
    exact absurd ((Option.some.inj H).trans hlaw.out) (by decide)
  replace c173 := Bool.eq_false_iff.mpr c173
  subst c173
  have H1 : (if t454 = true then ((laws_kAbs.f (wrap64 (a0_2 - a1_2))).bind fun t487 => (if (t451.length : Int) = t487 then ((laws_kRises.f kj16 t451).bind fun t488 => (laws_FnHandsAheadOfAll.j1 kj16 t451 t461 t470 t477 t480 (!t488) a0_0 a0_1 a0_2 a1_0 a1_1 a1_2 a2_0 a2_1 a3_0 a3_1 a3_2 a4_0 a4_1 a4_2 a5_0 a5_1 a5_2 a6_0 a6_1 a6_2 a7_0 a7_1 t459 t460 t467 t468 t469)) else (laws_FnHandsAheadOfAll.j1 kj16 t451 t461 t470 t477 t480 true a0_0 a0_1 a0_2 a1_0 a1_1 a1_2 a2_0 a2_1 a3_0 a3_1 a3_2 a4_0 a4_1 a4_2 a5_0 a5_1 a5_2 a6_0 a6_1 a6_2 a7_0 a7_1 t459 t460 t467 t468 t469))) else (laws_FnHandsAheadOfAll.j3 kj16 t461 t470 t477 t480 a0_0 a0_1 a0_2 a1_0 a1_1 a1_2 a2_0 a2_1 a3_0 a3_1 a3_2 a4_0 a4_1 a4_2 a5_0 a5_1 a5_2 a6_0 a6_1 a6_2 a7_0 a7_1 t459 t460 t467 t468 t469)) = some r := by rw [if_neg (show ¬ (false = true) by decide)] at H; exact H
  clear H
  have H := H1
  clear H1
  have HC174 := Am H
  clear H
  go_upto_if 159 with (fail)
  go_cut [] from 159 to 159 (fun wc => ∃ (kq : Nat), Aside0 (laws_FnHandsAheadOfAll.j3 kq t461 t470 t477 t480 a0_0 a0_1 a0_2 a1_0 a1_1 a1_2 a2_0 a2_1 a3_0 a3_1 a3_2 a4_0 a4_1 a4_2 a5_0 a5_1 a5_2 a6_0 a6_1 a6_2 a7_0 a7_1 t459 t460 t467 t468 t469 = some r) ∧ Aside0 (kq ≤ kj16) ∧ Aside0 (Kd.R k23 23 wc w.heap.size (fun k_ => k_ ≠ gb445 ∧ k_ ≠ gb450 ∧ k_ ≠ gb462 ∧ k_ ≠ gb466) v478 t477) ∧ Aside0 (wc.heap[gb443]? = some (.cells #[.int .i64 a0_0, .int .i64 a0_1, .int .i64 a0_2] 25 (0, 0))) ∧ Aside0 (wc.heap[gb444]? = some (.cells #[.int .i64 a1_0, .int .i64 a1_1, .int .i64 a1_2] 25 (0, 0))) ∧ Aside0 (wc.heap[gb445]? = some (.cells #[.int .i64 a2_0, .int .i64 a2_1] 23 (0, 0))) ∧ Aside0 (wc.heap[gb446]? = some (.cells #[.int .i64 a3_0, .int .i64 a3_1, .int .i64 a3_2] 25 (0, 0))) ∧ Aside0 (wc.heap[gb447]? = some (.cells #[.int .i64 a4_0, .int .i64 a4_1, .int .i64 a4_2] 25 (0, 0))) ∧ Aside0 (wc.heap[gb448]? = some (.cells #[.int .i64 a5_0, .int .i64 a5_1, .int .i64 a5_2] 25 (0, 0))) ∧ Aside0 (wc.heap[gb449]? = some (.cells #[.int .i64 a6_0, .int .i64 a6_1, .int .i64 a6_2] 25 (0, 0))) ∧ Aside0 (wc.heap[gb450]? = some (.cells #[.int .i64 a7_0, .int .i64 a7_1] 23 (0, 0))) ∧ Aside0 (wc.heap[gb462]? = some (.cells #[.int .i64 t459, .int .i64 t460] 23 (0, 0))) ∧ Aside0 (wc.heap[gb466]? = some (.cells #[.int .i64 t463, .int .i64 t464] 23 (0, 0))) ∧ Aside0 (wc.heap[gb471]? = some (.cells #[.int .i64 t467, .int .i64 t468, .int .i64 t469] 25 (0, 0))) ∧ Aside0 (wc.heap[gb476]? = some (.cells #[.int .i64 t472, .int .i64 t473, .int .i64 t474] 25 (0, 0))) ∧ Aside0 (Below w.heap.size w wc))
  case first =>
   have H := HC174.out
   clear HC174
   by_cases c175 : t454 = true
   ·subst c175
    have H1 : ((laws_kAbs.f (wrap64 (a0_2 - a1_2))).bind fun t487 => (if (t451.length : Int) = t487 then ((laws_kRises.f kj16 t451).bind fun t488 => (laws_FnHandsAheadOfAll.j1 kj16 t451 t461 t470 t477 t480 (!t488) a0_0 a0_1 a0_2 a1_0 a1_1 a1_2 a2_0 a2_1 a3_0 a3_1 a3_2 a4_0 a4_1 a4_2 a5_0 a5_1 a5_2 a6_0 a6_1 a6_2 a7_0 a7_1 t459 t460 t467 t468 t469)) else (laws_FnHandsAheadOfAll.j1 kj16 t451 t461 t470 t477 t480 true a0_0 a0_1 a0_2 a1_0 a1_1 a1_2 a2_0 a2_1 a3_0 a3_1 a3_2 a4_0 a4_1 a4_2 a5_0 a5_1 a5_2 a6_0 a6_1 a6_2 a7_0 a7_1 t459 t460 t467 t468 t469))) = some r := by rw [if_pos rfl] at H; exact H
    clear H
    have H := H1
    clear H1
    have HC176 := Am H
    clear H
    go_upto_region 12 with (fail)
    go_cut [173] from 160 to 172 (fun v173 wc => ∃ (kq : Nat) (x173_175 : Bool), v173 = .bool x173_175 ∧ Aside0 (laws_FnHandsAheadOfAll.j1 kq t451 t461 t470 t477 t480 x173_175 a0_0 a0_1 a0_2 a1_0 a1_1 a1_2 a2_0 a2_1 a3_0 a3_1 a3_2 a4_0 a4_1 a4_2 a5_0 a5_1 a5_2 a6_0 a6_1 a6_2 a7_0 a7_1 t459 t460 t467 t468 t469 = some r) ∧ Aside0 (kq ≤ kj16) ∧ Aside0 (Kd.R k23 23 wc w.heap.size (fun k_ => some k_ ≠ (v478 : Value).ownBlock ∧ k_ ≠ gb445 ∧ k_ ≠ gb450 ∧ k_ ≠ gb462 ∧ k_ ≠ gb466) v452 t451) ∧ Aside0 (Kd.R k23 23 wc w.heap.size (fun k_ => some k_ ≠ (v452 : Value).ownBlock ∧ k_ ≠ gb445 ∧ k_ ≠ gb450 ∧ k_ ≠ gb462 ∧ k_ ≠ gb466) v478 t477) ∧ Aside0 (wc.heap[gb443]? = some (.cells #[.int .i64 a0_0, .int .i64 a0_1, .int .i64 a0_2] 25 (0, 0))) ∧ Aside0 (wc.heap[gb444]? = some (.cells #[.int .i64 a1_0, .int .i64 a1_1, .int .i64 a1_2] 25 (0, 0))) ∧ Aside0 (wc.heap[gb445]? = some (.cells #[.int .i64 a2_0, .int .i64 a2_1] 23 (0, 0))) ∧ Aside0 (wc.heap[gb446]? = some (.cells #[.int .i64 a3_0, .int .i64 a3_1, .int .i64 a3_2] 25 (0, 0))) ∧ Aside0 (wc.heap[gb447]? = some (.cells #[.int .i64 a4_0, .int .i64 a4_1, .int .i64 a4_2] 25 (0, 0))) ∧ Aside0 (wc.heap[gb448]? = some (.cells #[.int .i64 a5_0, .int .i64 a5_1, .int .i64 a5_2] 25 (0, 0))) ∧ Aside0 (wc.heap[gb449]? = some (.cells #[.int .i64 a6_0, .int .i64 a6_1, .int .i64 a6_2] 25 (0, 0))) ∧ Aside0 (wc.heap[gb450]? = some (.cells #[.int .i64 a7_0, .int .i64 a7_1] 23 (0, 0))) ∧ Aside0 (wc.heap[gb462]? = some (.cells #[.int .i64 t459, .int .i64 t460] 23 (0, 0))) ∧ Aside0 (wc.heap[gb466]? = some (.cells #[.int .i64 t463, .int .i64 t464] 23 (0, 0))) ∧ Aside0 (wc.heap[gb471]? = some (.cells #[.int .i64 t467, .int .i64 t468, .int .i64 t469] 25 (0, 0))) ∧ Aside0 (wc.heap[gb476]? = some (.cells #[.int .i64 t472, .int .i64 t473, .int .i64 t474] 25 (0, 0))) ∧ Aside0 (Below w.heap.size w wc))
    case first =>
     have H := HC176.out
     clear HC176
     replace H := Option.bind_eq_some_iff.mp H
     obtain ⟨t487, A1770, H⟩ := H
     try dsimp only at H
     have A177 := Am A1770
     clear A1770
     by_cases c178 : (t451.length : Int) = t487
     ·rw [if_pos c178] at H
      have c178b0 : ((t451.length : Int) == t487) = true := beq_iff_eq.mpr c178
      have c178b1 : ((t451.length : Int) != t487) = false := bne_eq_false_iff_eq.mpr c178
      clear c178
      (first | rw [c178b0] | (simp only [i64_w, i32_w]; rw [c178b0]) | skip)
      replace H := Option.bind_eq_some_iff.mp H
      obtain ⟨t488, A1790, H⟩ := H
      try dsimp only at H
      have A179 := Am A1790
      clear A1790
      as_aux_lemma =>
       have H' := Am H
       clear H
       obtain ⟨Ao180, co180, eo180⟩ := Kd.R_slice HO_17.out
       subst eo180
       have nq181 := kO NB443_444; have nq182 := kO NB443_445; have nq183 := kO NB443_446; have nq184 := kO NB443_447; have nq185 := kO NB443_448; have nq186 := kO NB443_449; have nq187 := kO NB443_450; have nq188 := kO NB443_462; have nq189 := kO NB443_466; have nq190 := kO NB443_471; have nq191 := kO NB443_476
       have zq192 := c3 BK443
       have nq193 := kO NB444_445; have nq194 := kO NB444_446; have nq195 := kO NB444_447; have nq196 := kO NB444_448; have nq197 := kO NB444_449; have nq198 := kO NB444_450; have nq199 := kO NB444_462; have nq200 := kO NB444_466; have nq201 := kO NB444_471; have nq202 := kO NB444_476
       have zq203 := c3 BK444
       go_wp2_with (first | ((with_reducible refine gate_callee (f := 13) rfl ?_); refine gL (some 167) Try.func13 #[.int .i64 (wrap64 (a0_2 - a1_2))] rfl ?_; (with_reducible refine (laws_kAbs.calls (wrap64 (a0_2 - a1_2)) t487 _ A177.out).mono ?_); rintro e w' ⟨rfl, ⟨nd, rfl⟩⟩; refine ⟨_, rfl, ?_⟩) | (go_at_call 14; (with_reducible refine (laws_kRises.calls kj16 _ _ t451 t488 _ ?side1 ?side2 A179.out).mono ?_); (case side1 => repeat (first | exact (Kd.R_reads' HO_17.out).2.2 | (with_reducible refine Kd.C_alloc ?_ _) | (with_reducible refine Kd.C_drewN ?_ _) | (with_reducible refine Kd.C_drew ?_))); (case side2 => exact (Kd.R_reads' HO_17.out).2.1); rintro e w' ⟨rfl, ⟨nd, rfl⟩⟩))
       go_meet
       case rel =>
        refine ⟨_, (!t488), (by first | rfl | (simp; done) | (simp [*]; done)), H', ⟨by have := HJ16.out; first | omega | exact Nat.le_refl _⟩, ⟨kW HO_17⟩, ⟨kW HO_29⟩, ⟨?_⟩, ⟨?_⟩, ⟨?_⟩, ⟨?_⟩, ⟨?_⟩, ⟨?_⟩, ⟨?_⟩, ⟨?_⟩, ⟨?_⟩, ⟨?_⟩, ⟨?_⟩, ⟨?_⟩, ⟨by repeat (first | (with_reducible first | exact HB.out | apply bA | apply bN | apply bD | refine bX ?_ (by assumption)) | exact HB.out)⟩⟩
        all_goals ((with_reducible repeat (first | refine kN ?_ _ | refine kD ?_ | refine kA ?_ _)); exact Aside0.out (by assumption))
     rw [if_neg c178] at H
     have c178b0 : ((t451.length : Int) == t487) = false := beq_eq_false_iff_ne.mpr c178
     have c178b1 : ((t451.length : Int) != t487) = true := bne_iff_ne.mpr c178
     (first | rw [c178b0] | (simp only [i64_w, i32_w]; rw [c178b0]) | skip)
     as_aux_lemma =>
      exact absurd ((laws_FnHandsAheadOfAll.j1_no H).symm.trans hlaw.out) (by decide)
    clear HC176
    (try clear c20); (try clear c30); (try clear c31); (try clear c32); (try clear c173); (try clear c175); (try clear zq111); (try clear zq112); (try clear zq113); (try clear zq115); (try clear zq116); (try clear zq33); (try clear zq40); (try clear zq46); (try clear zq48); (try clear zq49); (try clear zq50); (try clear zq52); (try clear zq53); (try clear zq54); (try clear zq65); (try clear zq66); (try clear zq67); (try clear zq68); (try clear zq80); (try clear zq81); (try clear zq82); (try clear zq95); (try clear zq96); (try clear zq97)
    obtain ⟨kq, x173_175, rfl, HA, HJ175, HO_17, HO_29, BK443, BK444, BK445, BK446, BK447, BK448, BK449, BK450, BK462, BK466, BK471, BK476, HB⟩ := hcut
    cases kq with
    | zero => exact absurd HA.out (by simp [laws_FnHandsAheadOfAll.j1])
    | succ kj175 =>
     have H := HA.out
     clear HA
     simp only [laws_FnHandsAheadOfAll.j1] at H
     by_cases c204 : x173_175 = true
     ·subst c204
      have H1 : (some false) = some r := by rw [if_pos rfl] at H; exact H
      clear H
      have H := H1
      clear H1
      as_aux_lemma =>
       exact absurd ((Option.some.inj H).trans hlaw.out) (by decide)
     replace c204 := Bool.eq_false_iff.mpr c204
     subst c204
     have H1 : (laws_FnHandsAheadOfAll.l0 kj175 t461 t470 t477 t480 t451 (t451.length : Int) 0 a0_0 a0_1 a0_2 a1_0 a1_1 a1_2 a2_0 a2_1 a3_0 a3_1 a3_2 a4_0 a4_1 a4_2 a5_0 a5_1 a5_2 a6_0 a6_1 a6_2 a7_0 a7_1 t459 t460 t467 t468 t469) = some r := by rw [if_neg (show ¬ (false = true) by decide)] at H; exact H
     clear H
     have H := H1
     clear H1
     have H' := Am H
     clear H
     obtain ⟨Ao205, co205, eo205⟩ := Kd.R_slice HO_17.out
     subst eo205
     go_wp2
     go_loopg [176] kj175 (fun kq v176 w' => ∃ (x176_3 : Int), v176 = .int .i64 x176_3 ∧ Aside0 (laws_FnHandsAheadOfAll.l0 kq t461 t470 t477 t480 t451 (t451.length : Int) x176_3 a0_0 a0_1 a0_2 a1_0 a1_1 a1_2 a2_0 a2_1 a3_0 a3_1 a3_2 a4_0 a4_1 a4_2 a5_0 a5_1 a5_2 a6_0 a6_1 a6_2 a7_0 a7_1 t459 t460 t467 t468 t469 = some r) ∧ Aside0 (kq ≤ kj175) ∧ Aside0 (Kd.R k23 23 w' w.heap.size (fun k_ => some k_ ≠ ((.slice Ao205 t451.length co205) : Value).ownBlock ∧ k_ ≠ gb445 ∧ k_ ≠ gb450 ∧ k_ ≠ gb462 ∧ k_ ≠ gb466) v478 t477) ∧ Aside0 (Kd.R k23 23 w' w.heap.size (fun k_ => some k_ ≠ (v478 : Value).ownBlock ∧ k_ ≠ gb445 ∧ k_ ≠ gb450 ∧ k_ ≠ gb462 ∧ k_ ≠ gb466) (.slice Ao205 t451.length co205) t451) ∧ Aside0 (w'.heap[gb443]? = some (.cells #[.int .i64 a0_0, .int .i64 a0_1, .int .i64 a0_2] 25 (0, 0))) ∧ Aside0 (w'.heap[gb444]? = some (.cells #[.int .i64 a1_0, .int .i64 a1_1, .int .i64 a1_2] 25 (0, 0))) ∧ Aside0 (w'.heap[gb445]? = some (.cells #[.int .i64 a2_0, .int .i64 a2_1] 23 (0, 0))) ∧ Aside0 (w'.heap[gb446]? = some (.cells #[.int .i64 a3_0, .int .i64 a3_1, .int .i64 a3_2] 25 (0, 0))) ∧ Aside0 (w'.heap[gb447]? = some (.cells #[.int .i64 a4_0, .int .i64 a4_1, .int .i64 a4_2] 25 (0, 0))) ∧ Aside0 (w'.heap[gb448]? = some (.cells #[.int .i64 a5_0, .int .i64 a5_1, .int .i64 a5_2] 25 (0, 0))) ∧ Aside0 (w'.heap[gb449]? = some (.cells #[.int .i64 a6_0, .int .i64 a6_1, .int .i64 a6_2] 25 (0, 0))) ∧ Aside0 (w'.heap[gb450]? = some (.cells #[.int .i64 a7_0, .int .i64 a7_1] 23 (0, 0))) ∧ Aside0 (w'.heap[gb462]? = some (.cells #[.int .i64 t459, .int .i64 t460] 23 (0, 0))) ∧ Aside0 (w'.heap[gb466]? = some (.cells #[.int .i64 t463, .int .i64 t464] 23 (0, 0))) ∧ Aside0 (w'.heap[gb471]? = some (.cells #[.int .i64 t467, .int .i64 t468, .int .i64 t469] 25 (0, 0))) ∧ Aside0 (w'.heap[gb476]? = some (.cells #[.int .i64 t472, .int .i64 t473, .int .i64 t474] 25 (0, 0))) ∧ Aside0 (Below w.heap.size w w'))
     case atStart => exact ⟨(0), (by first | rfl | (simp; done) | (simp [*]; done)), H', ⟨Nat.le_refl _⟩, ⟨kW HO_29⟩, ⟨kW HO_17⟩, kV BK443, kV BK444, kV BK445, kV BK446, kV BK447, kV BK448, kV BK449, kV BK450, kV BK462, kV BK466, kV BK471, kV BK476, ⟨by repeat (first | (with_reducible first | exact HB.out | apply bA | apply bN | apply bD | refine bX ?_ (by assumption)) | exact HB.out)⟩⟩
     case round =>
      clear H'
      (try clear c20); (try clear c30); (try clear c31); (try clear c32); (try clear c173); (try clear c175); (try clear c204); (try clear zq111); (try clear zq112); (try clear zq113); (try clear zq115); (try clear zq116); (try clear zq33); (try clear zq40); (try clear zq46); (try clear zq48); (try clear zq49); (try clear zq50); (try clear zq52); (try clear zq53); (try clear zq54); (try clear zq65); (try clear zq66); (try clear zq67); (try clear zq68); (try clear zq80); (try clear zq81); (try clear zq82); (try clear zq95); (try clear zq96); (try clear zq97)
      obtain ⟨x176_3, rfl, HA, HK3, HO_29, HO_174, BK443, BK444, BK445, BK446, BK447, BK448, BK449, BK450, BK462, BK466, BK471, BK476, HB⟩ := hrel
      cases gk with
      | zero => exact absurd HA.out (by simp [laws_FnHandsAheadOfAll.l0])
      | succ k3 =>
       have H := HA.out
       clear HA
       simp only [laws_FnHandsAheadOfAll.l0] at H
       by_cases c206 : x176_3 < (t451.length : Int)
       ·rw [if_pos c206] at H
        have c206b0 : decide (x176_3 < (t451.length : Int)) = true := decide_eq_true c206
        clear c206
        by_cases c207 : 0 ≤ x176_3
        ·rw [if_pos c207] at H
         have c207b0 : decide (0 ≤ x176_3) = true := decide_eq_true c207
         clear c207
         by_cases c208 : x176_3 < (t451.length : Int)
         ·rw [if_pos c208] at H
          have c208b0 : decide (x176_3 < (t451.length : Int)) = true := decide_eq_true c208
          clear c208
          replace H := Option.bind_eq_some_iff.mp H
          obtain ⟨⟨t491, t492, t493⟩, A2090, H⟩ := H
          try dsimp only at H
          have A209 := Am A2090
          clear A2090
          by_cases c210 : t493 = true
          ·subst c210
           have H1 : (if (!(t491 == a2_0) || (!(t492 == a2_1))) = true then (some false) else (laws_FnHandsAheadOfAll.l0 k3 t461 t470 t477 t480 t451 (t451.length : Int) (wrap64 (x176_3 + 1)) a0_0 a0_1 a0_2 a1_0 a1_1 a1_2 a2_0 a2_1 a3_0 a3_1 a3_2 a4_0 a4_1 a4_2 a5_0 a5_1 a5_2 a6_0 a6_1 a6_2 a7_0 a7_1 t459 t460 t467 t468 t469)) = some r := by rw [if_pos rfl] at H; exact H
           clear H
           have H := H1
           clear H1
           by_cases c211 : (!(t491 == a2_0) || (!(t492 == a2_1))) = true
           ·rw [if_pos c211] at H
            have c211b0 : (!(t491 == a2_0) || (!(t492 == a2_1))) = true := c211
            clear c211
            as_aux_lemma =>
             exact absurd ((Option.some.inj H).trans hlaw.out) (by decide)
           rw [if_neg c211] at H
           have c211b0 : (!(t491 == a2_0) || (!(t492 == a2_1))) = false := by simpa using c211
           clear c211
           as_aux_lemma =>
            have H' := Am H
            clear H
            have p489 : 0 ≤ (x176_3 : Int) := of_decide_eq_true (by first | (with_reducible assumption) | assumption)
            have q489 : x176_3 < (t451.length : Int) := of_decide_eq_true (by first | (with_reducible assumption) | assumption)
            obtain ⟨ad489, e489, hx489_0, hx489_1⟩ := at_T23 (Kd.R_reads' HO_174.out).2.2 x176_3 p489 q489
            cases e489
            replace p489 := eq_true p489
            replace q489 := eq_true q489
            go_wp2_with (first | ((with_reducible refine gate_dst (N := 34) rfl ?_); (try (refine gate_guard (by rfl) ?_; dsimp only)); refine bE 34 #[.int .i64 0, .int .i64 0] 23 ?_; intro gb490 hg w212 hbox hb; have n0_ := Am (Kd.R_below (Kd.R_elderB (kW HO_29) gb490 (Nat.le_of_eq hg.symm)) hb); have n1_ := Am (Kd.R_below (Kd.R_elderB (kW HO_174) gb490 (Nat.le_of_eq hg.symm)) hb); have hp0 := pA BK443 hb; have hv := vK HB hb; have n14_ := Am (bT hv hb); have n15_ := Am (hbox); have GE490 := kG hg hv; have hp1 := pK BK443 hb; obtain ⟨NB443_490, NB490_443⟩ := kXY hg hp1 BK443; obtain ⟨NB444_490, NB490_444⟩ := kXY hg hp1 BK444; obtain ⟨NB445_490, NB490_445⟩ := kXY hg hp1 BK445; obtain ⟨NB446_490, NB490_446⟩ := kXY hg hp1 BK446; obtain ⟨NB447_490, NB490_447⟩ := kXY hg hp1 BK447; obtain ⟨NB448_490, NB490_448⟩ := kXY hg hp1 BK448; obtain ⟨NB449_490, NB490_449⟩ := kXY hg hp1 BK449; obtain ⟨NB450_490, NB490_450⟩ := kXY hg hp1 BK450; obtain ⟨NB462_490, NB490_462⟩ := kXY hg hp1 BK462; obtain ⟨NB466_490, NB490_466⟩ := kXY hg hp1 BK466; obtain ⟨NB471_490, NB490_471⟩ := kXY hg hp1 BK471; obtain ⟨NB476_490, NB490_476⟩ := kXY hg hp1 BK476; clear HO_29; clear HO_174; clear HB; have HO_29 := n0_; have HO_174 := n1_; replace BK443 := hp0 BK443; replace BK444 := hp0 BK444; replace BK445 := hp0 BK445; replace BK446 := hp0 BK446; replace BK447 := hp0 BK447; replace BK448 := hp0 BK448; replace BK449 := hp0 BK449; replace BK450 := hp0 BK450; replace BK462 := hp0 BK462; replace BK466 := hp0 BK466; replace BK471 := hp0 BK471; replace BK476 := hp0 BK476; have HB := n14_; have BK490 := n15_; clear n0_ n1_ n14_ n15_ hp0 hp1 hv; clear hb hbox hg; have nq213 := kO NB490_443; have nq214 := kO NB490_444; have nq215 := kO NB490_445; have nq216 := kO NB490_446; have nq217 := kO NB490_447; have nq218 := kO NB490_448; have nq219 := kO NB490_449; have nq220 := kO NB490_450; have nq221 := kO NB490_462; have nq222 := kO NB490_466; have nq223 := kO NB490_471; have nq224 := kO NB490_476; have zq225 := c2 BK490; have nq226 := kO NB443_444; have nq227 := kO NB443_445; have nq228 := kO NB443_446; have nq229 := kO NB443_447; have nq230 := kO NB443_448; have nq231 := kO NB443_449; have nq232 := kO NB443_450; have nq233 := kO NB443_462; have nq234 := kO NB443_466; have nq235 := kO NB443_471; have nq236 := kO NB443_476; have zq237 := c3 BK443; have nq238 := kO NB444_445; have nq239 := kO NB444_446; have nq240 := kO NB444_447; have nq241 := kO NB444_448; have nq242 := kO NB444_449; have nq243 := kO NB444_450; have nq244 := kO NB444_462; have nq245 := kO NB444_466; have nq246 := kO NB444_471; have nq247 := kO NB444_476; have zq248 := c3 BK444) | ((with_reducible refine gate_callee (f := 6) rfl ?_); refine gL (some 184) Try.func6 #[.agg #[.int .i64 a0_0, .int .i64 a0_1, .int .i64 a0_2], .agg #[.int .i64 a1_0, .int .i64 a1_1, .int .i64 a1_2], .agg #[.int .i64 ((rd_T23 t451 x176_3).f0), .int .i64 ((rd_T23 t451 x176_3).f1)]] rfl ?_; (with_reducible refine (impl_AheadAt.calls k3 a0_0 a0_1 a0_2 a1_0 a1_1 a1_2 ((rd_T23 t451 x176_3).f0) ((rd_T23 t451 x176_3).f1) t491 t492 true _ A209.out).mono ?_); rintro e w249 ⟨rfl, hb⟩; refine ⟨_, rfl, ?_⟩; have n0_ := Am (Kd.R_below (by (with_reducible repeat (first | apply Kd.R_alloc | apply Kd.R_drewN | apply Kd.R_drew)); exact (Kd.R_mono (Kd.R_far (p := ⟨gb490, 1, none⟩) (Kd.R_far (p := ⟨gb490, 0, none⟩) (Kd.R_mono HO_29.out (fun k_ hk => (⟨hk, hk.2⟩ : _ ∧ k_ ≠ gb490))) (fun _ hk => hk.2) (.int .i64 ((rd_T23 t451 x176_3).f0))) (fun _ hk => hk.2) (.int .i64 ((rd_T23 t451 x176_3).f1))) (fun _ h_ => h_.1))) hb); have n1_ := Am (Kd.R_below (by (with_reducible repeat (first | apply Kd.R_alloc | apply Kd.R_drewN | apply Kd.R_drew)); exact (Kd.R_mono (Kd.R_far (p := ⟨gb490, 1, none⟩) (Kd.R_far (p := ⟨gb490, 0, none⟩) (Kd.R_mono HO_174.out (fun k_ hk => (⟨hk, hk.2⟩ : _ ∧ k_ ≠ gb490))) (fun _ hk => hk.2) (.int .i64 ((rd_T23 t451 x176_3).f0))) (fun _ hk => hk.2) (.int .i64 ((rd_T23 t451 x176_3).f1))) (fun _ h_ => h_.1))) hb); have hp0 := pB gb490 BK443 hb; have n14_ := Am (kB (g := gb490) (o := .cells #[.int .i64 ((rd_T23 t451 x176_3).f0), .int .i64 ((rd_T23 t451 x176_3).f1)] 23 (0, 0)) (by (with_reducible repeat (first | refine kN ?_ _ | refine kD ?_ | refine kA ?_ _)); refine kP (cs := #[.int .i64 ((rd_T23 t451 x176_3).f0), .int .i64 0]) ?_ 1 _ rfl; (with_reducible repeat (first | refine kN ?_ _ | refine kD ?_ | refine kA ?_ _)); refine kP (cs := #[.int .i64 0, .int .i64 0]) ?_ 0 _ rfl; (with_reducible repeat (first | refine kN ?_ _ | refine kD ?_ | refine kA ?_ _)); exact BK490.out) hb); have hv := vK HB hb; have n15_ := Am (bT hv hb); clear HO_29; clear HO_174; clear BK490; clear HB; have HO_29 := n0_; have HO_174 := n1_; replace BK443 := hp0 NB443_490 BK443; replace BK444 := hp0 NB444_490 BK444; replace BK445 := hp0 NB445_490 BK445; replace BK446 := hp0 NB446_490 BK446; replace BK447 := hp0 NB447_490 BK447; replace BK448 := hp0 NB448_490 BK448; replace BK449 := hp0 NB449_490 BK449; replace BK450 := hp0 NB450_490 BK450; replace BK462 := hp0 NB462_490 BK462; replace BK466 := hp0 NB466_490 BK466; replace BK471 := hp0 NB471_490 BK471; replace BK476 := hp0 NB476_490 BK476; have BK490 := n14_; have HB := n15_; clear n0_ n1_ n14_ n15_ hp0 hv; (try clear hb); (try clear hk)) | ((with_reducible refine gate_dst (N := 35) rfl ?_); (try (refine gate_guard (by rfl) ?_; dsimp only)); refine bE 35 #[.int .i64 0, .int .i64 0] 23 ?_; intro gb494 hg w250 hbox hb; have n0_ := Am (Kd.R_below (Kd.R_elderB (kW HO_29) gb494 (Nat.le_of_eq hg.symm)) hb); have n1_ := Am (Kd.R_below (Kd.R_elderB (kW HO_174) gb494 (Nat.le_of_eq hg.symm)) hb); have hp0 := pA BK443 hb; have hv := vK HB hb; have n15_ := Am (bT hv hb); have n16_ := Am (hbox); have GE494 := kG hg hv; have hp1 := pK BK443 hb; obtain ⟨NB443_494, NB494_443⟩ := kXY hg hp1 BK443; obtain ⟨NB444_494, NB494_444⟩ := kXY hg hp1 BK444; obtain ⟨NB445_494, NB494_445⟩ := kXY hg hp1 BK445; obtain ⟨NB446_494, NB494_446⟩ := kXY hg hp1 BK446; obtain ⟨NB447_494, NB494_447⟩ := kXY hg hp1 BK447; obtain ⟨NB448_494, NB494_448⟩ := kXY hg hp1 BK448; obtain ⟨NB449_494, NB494_449⟩ := kXY hg hp1 BK449; obtain ⟨NB450_494, NB494_450⟩ := kXY hg hp1 BK450; obtain ⟨NB462_494, NB494_462⟩ := kXY hg hp1 BK462; obtain ⟨NB466_494, NB494_466⟩ := kXY hg hp1 BK466; obtain ⟨NB471_494, NB494_471⟩ := kXY hg hp1 BK471; obtain ⟨NB476_494, NB494_476⟩ := kXY hg hp1 BK476; obtain ⟨NB490_494, NB494_490⟩ := kXY hg hp1 BK490; clear HO_29; clear HO_174; clear HB; have HO_29 := n0_; have HO_174 := n1_; replace BK443 := hp0 BK443; replace BK444 := hp0 BK444; replace BK445 := hp0 BK445; replace BK446 := hp0 BK446; replace BK447 := hp0 BK447; replace BK448 := hp0 BK448; replace BK449 := hp0 BK449; replace BK450 := hp0 BK450; replace BK462 := hp0 BK462; replace BK466 := hp0 BK466; replace BK471 := hp0 BK471; replace BK476 := hp0 BK476; replace BK490 := hp0 BK490; have HB := n15_; have BK494 := n16_; clear n0_ n1_ n15_ n16_ hp0 hp1 hv; clear hb hbox hg; have nq251 := kO NB494_443; have nq252 := kO NB494_444; have nq253 := kO NB494_445; have nq254 := kO NB494_446; have nq255 := kO NB494_447; have nq256 := kO NB494_448; have nq257 := kO NB494_449; have nq258 := kO NB494_450; have nq259 := kO NB494_462; have nq260 := kO NB494_466; have nq261 := kO NB494_471; have nq262 := kO NB494_476; have nq263 := kO NB494_490; have hcz264_0 : w250.cell? ⟨gb494, 0, none⟩ = some (.int .i64 0) := (kC BK494.out 0).trans rfl; have hcz264_1 : w250.cell? ⟨gb494, 1, none⟩ = some (.int .i64 0) := (kC BK494.out 1).trans rfl; have hfz264_0 := kF BK494.out 0; have hfz264_1 := kF BK494.out 1; have nq265 := kO NB445_446; have nq266 := kO NB445_447; have nq267 := kO NB445_448; have nq268 := kO NB445_449; have nq269 := kO NB445_450; have nq270 := kO NB445_462; have nq271 := kO NB445_466; have nq272 := kO NB445_471; have nq273 := kO NB445_476; have zq274 := c2 BK445))
            go_roundg k3
            case measure => have := HJ16.out; have := HJ175.out; have := HK3.out; omega
            case rel => exact ⟨(wrap64 (x176_3 + 1)), (by first | rfl | (simp; done) | (simp [*]; done)), H', ⟨by have := HJ16.out; have := HJ175.out; have := HK3.out; omega⟩, ⟨by (with_reducible repeat (first | apply Kd.R_alloc | apply Kd.R_drewN | apply Kd.R_drew)); exact Kd.R_mono (Kd.R_far (p := ⟨gb494, 1, none⟩) (Kd.R_far (p := ⟨gb494, 0, none⟩) (Kd.R_mono HO_29.out (fun k_ hk => (⟨hk, hk.2⟩ : _ ∧ k_ ≠ gb494))) (fun _ hk => hk.2) (.int .i64 t491)) (fun _ hk => hk.2) (.int .i64 t492)) (fun _ hk => ⟨hk.1.1.1.1, ⟨hk.1.1.1.2.1, ⟨hk.1.1.1.2.2.1, ⟨hk.1.1.1.2.2.2.1, hk.1.1.1.2.2.2.2⟩⟩⟩⟩)⟩, ⟨by (with_reducible repeat (first | apply Kd.R_alloc | apply Kd.R_drewN | apply Kd.R_drew)); exact Kd.R_mono (Kd.R_far (p := ⟨gb494, 1, none⟩) (Kd.R_far (p := ⟨gb494, 0, none⟩) (Kd.R_mono HO_174.out (fun k_ hk => (⟨hk, hk.2⟩ : _ ∧ k_ ≠ gb494))) (fun _ hk => hk.2) (.int .i64 t491)) (fun _ hk => hk.2) (.int .i64 t492)) (fun _ hk => ⟨hk.1.1.1.1, ⟨hk.1.1.1.2.1, ⟨hk.1.1.1.2.2.1, ⟨hk.1.1.1.2.2.2.1, hk.1.1.1.2.2.2.2⟩⟩⟩⟩)⟩, ⟨by (with_reducible repeat (first | refine kN ?_ _ | refine kD ?_ | refine kA ?_ _)); refine kR ?_ NB443_494.out _; (with_reducible repeat (first | refine kN ?_ _ | refine kD ?_ | refine kA ?_ _)); refine kR ?_ NB443_494.out _; (with_reducible repeat (first | refine kN ?_ _ | refine kD ?_ | refine kA ?_ _)); exact BK443.out⟩, ⟨by (with_reducible repeat (first | refine kN ?_ _ | refine kD ?_ | refine kA ?_ _)); refine kR ?_ NB444_494.out _; (with_reducible repeat (first | refine kN ?_ _ | refine kD ?_ | refine kA ?_ _)); refine kR ?_ NB444_494.out _; (with_reducible repeat (first | refine kN ?_ _ | refine kD ?_ | refine kA ?_ _)); exact BK444.out⟩, ⟨by (with_reducible repeat (first | refine kN ?_ _ | refine kD ?_ | refine kA ?_ _)); refine kR ?_ NB445_494.out _; (with_reducible repeat (first | refine kN ?_ _ | refine kD ?_ | refine kA ?_ _)); refine kR ?_ NB445_494.out _; (with_reducible repeat (first | refine kN ?_ _ | refine kD ?_ | refine kA ?_ _)); exact BK445.out⟩, ⟨by (with_reducible repeat (first | refine kN ?_ _ | refine kD ?_ | refine kA ?_ _)); refine kR ?_ NB446_494.out _; (with_reducible repeat (first | refine kN ?_ _ | refine kD ?_ | refine kA ?_ _)); refine kR ?_ NB446_494.out _; (with_reducible repeat (first | refine kN ?_ _ | refine kD ?_ | refine kA ?_ _)); exact BK446.out⟩, ⟨by (with_reducible repeat (first | refine kN ?_ _ | refine kD ?_ | refine kA ?_ _)); refine kR ?_ NB447_494.out _; (with_reducible repeat (first | refine kN ?_ _ | refine kD ?_ | refine kA ?_ _)); refine kR ?_ NB447_494.out _; (with_reducible repeat (first | refine kN ?_ _ | refine kD ?_ | refine kA ?_ _)); exact BK447.out⟩, ⟨by (with_reducible repeat (first | refine kN ?_ _ | refine kD ?_ | refine kA ?_ _)); refine kR ?_ NB448_494.out _; (with_reducible repeat (first | refine kN ?_ _ | refine kD ?_ | refine kA ?_ _)); refine kR ?_ NB448_494.out _; (with_reducible repeat (first | refine kN ?_ _ | refine kD ?_ | refine kA ?_ _)); exact BK448.out⟩, ⟨by (with_reducible repeat (first | refine kN ?_ _ | refine kD ?_ | refine kA ?_ _)); refine kR ?_ NB449_494.out _; (with_reducible repeat (first | refine kN ?_ _ | refine kD ?_ | refine kA ?_ _)); refine kR ?_ NB449_494.out _; (with_reducible repeat (first | refine kN ?_ _ | refine kD ?_ | refine kA ?_ _)); exact BK449.out⟩, ⟨by (with_reducible repeat (first | refine kN ?_ _ | refine kD ?_ | refine kA ?_ _)); refine kR ?_ NB450_494.out _; (with_reducible repeat (first | refine kN ?_ _ | refine kD ?_ | refine kA ?_ _)); refine kR ?_ NB450_494.out _; (with_reducible repeat (first | refine kN ?_ _ | refine kD ?_ | refine kA ?_ _)); exact BK450.out⟩, ⟨by (with_reducible repeat (first | refine kN ?_ _ | refine kD ?_ | refine kA ?_ _)); refine kR ?_ NB462_494.out _; (with_reducible repeat (first | refine kN ?_ _ | refine kD ?_ | refine kA ?_ _)); refine kR ?_ NB462_494.out _; (with_reducible repeat (first | refine kN ?_ _ | refine kD ?_ | refine kA ?_ _)); exact BK462.out⟩, ⟨by (with_reducible repeat (first | refine kN ?_ _ | refine kD ?_ | refine kA ?_ _)); refine kR ?_ NB466_494.out _; (with_reducible repeat (first | refine kN ?_ _ | refine kD ?_ | refine kA ?_ _)); refine kR ?_ NB466_494.out _; (with_reducible repeat (first | refine kN ?_ _ | refine kD ?_ | refine kA ?_ _)); exact BK466.out⟩, ⟨by (with_reducible repeat (first | refine kN ?_ _ | refine kD ?_ | refine kA ?_ _)); refine kR ?_ NB471_494.out _; (with_reducible repeat (first | refine kN ?_ _ | refine kD ?_ | refine kA ?_ _)); refine kR ?_ NB471_494.out _; (with_reducible repeat (first | refine kN ?_ _ | refine kD ?_ | refine kA ?_ _)); exact BK471.out⟩, ⟨by (with_reducible repeat (first | refine kN ?_ _ | refine kD ?_ | refine kA ?_ _)); refine kR ?_ NB476_494.out _; (with_reducible repeat (first | refine kN ?_ _ | refine kD ?_ | refine kA ?_ _)); refine kR ?_ NB476_494.out _; (with_reducible repeat (first | refine kN ?_ _ | refine kD ?_ | refine kA ?_ _)); exact BK476.out⟩, ⟨by repeat (first | (with_reducible first | exact HB.out | apply bA | apply bN | apply bD | refine bX ?_ (by assumption)) | exact HB.out)⟩⟩
          replace c210 := Bool.eq_false_iff.mpr c210
          subst c210
          have H1 : (some false) = some r := by rw [if_neg (show ¬ (false = true) by decide)] at H; exact H
          clear H
          have H := H1
          clear H1
          as_aux_lemma =>
           exact absurd ((Option.some.inj H).trans hlaw.out) (by decide)
         rw [if_neg c208] at H
         exact absurd H (by simp)
        rw [if_neg c207] at H
        exact absurd H (by simp)
       rw [if_neg c206] at H
       have c206b0 : decide (x176_3 < (t451.length : Int)) = false := decide_eq_false c206
       clear c206
       as_aux_lemma =>
        have H' := Am H
        clear H
        go_wp2
        go_meet
        case rel =>
         refine ⟨_, H', ⟨by have := HJ16.out; have := HJ175.out; have := HK3.out; first | omega | exact Nat.le_refl _⟩, ⟨by (with_reducible repeat (first | apply Kd.R_alloc | apply Kd.R_drewN | apply Kd.R_drew)); exact Kd.R_mono HO_29.out (fun _ hk => ⟨hk.2.1, ⟨hk.2.2.1, ⟨hk.2.2.2.1, hk.2.2.2.2⟩⟩⟩)⟩, ⟨?_⟩, ⟨?_⟩, ⟨?_⟩, ⟨?_⟩, ⟨?_⟩, ⟨?_⟩, ⟨?_⟩, ⟨?_⟩, ⟨?_⟩, ⟨?_⟩, ⟨?_⟩, ⟨?_⟩, ⟨by repeat (first | (with_reducible first | exact HB.out | apply bA | apply bN | apply bD | refine bX ?_ (by assumption)) | exact HB.out)⟩⟩
         all_goals ((with_reducible repeat (first | refine kN ?_ _ | refine kD ?_ | refine kA ?_ _)); exact Aside0.out (by assumption))
   replace c175 := Bool.eq_false_iff.mpr c175
   subst c175
   have H1 : (laws_FnHandsAheadOfAll.j3 kj16 t461 t470 t477 t480 a0_0 a0_1 a0_2 a1_0 a1_1 a1_2 a2_0 a2_1 a3_0 a3_1 a3_2 a4_0 a4_1 a4_2 a5_0 a5_1 a5_2 a6_0 a6_1 a6_2 a7_0 a7_1 t459 t460 t467 t468 t469) = some r := by rw [if_neg (show ¬ (false = true) by decide)] at H; exact H
   clear H
   have H := H1
   clear H1
   as_aux_lemma =>
    have H' := Am H
    clear H
    go_wp2
    go_meet
    case rel =>
     refine ⟨_, H', ⟨by have := HJ16.out; first | omega | exact Nat.le_refl _⟩, ⟨by (with_reducible repeat (first | apply Kd.R_alloc | apply Kd.R_drewN | apply Kd.R_drew)); exact Kd.R_mono HO_29.out (fun _ hk => ⟨hk.2.1, ⟨hk.2.2.1, ⟨hk.2.2.2.1, hk.2.2.2.2⟩⟩⟩)⟩, ⟨?_⟩, ⟨?_⟩, ⟨?_⟩, ⟨?_⟩, ⟨?_⟩, ⟨?_⟩, ⟨?_⟩, ⟨?_⟩, ⟨?_⟩, ⟨?_⟩, ⟨?_⟩, ⟨?_⟩, ⟨by repeat (first | (with_reducible first | exact HB.out | apply bA | apply bN | apply bD | refine bX ?_ (by assumption)) | exact HB.out)⟩⟩
     all_goals ((with_reducible repeat (first | refine kN ?_ _ | refine kD ?_ | refine kA ?_ _)); exact Aside0.out (by assumption))
  clear HC174
  (try clear c20); (try clear c21); (try clear c30); (try clear c31); (try clear c32); (try clear c173); (try clear zq111); (try clear zq112); (try clear zq113); (try clear zq115); (try clear zq116); (try clear zq33); (try clear zq40); (try clear zq46); (try clear zq48); (try clear zq49); (try clear zq50); (try clear zq52); (try clear zq53); (try clear zq54); (try clear zq65); (try clear zq66); (try clear zq67); (try clear zq68); (try clear zq80); (try clear zq81); (try clear zq82); (try clear zq95); (try clear zq96); (try clear zq97)
  obtain ⟨kq, HA, HJ173, HO_29, BK443, BK444, BK445, BK446, BK447, BK448, BK449, BK450, BK462, BK466, BK471, BK476, HB⟩ := hcut
  cases kq with
  | zero => exact absurd HA.out (by simp [laws_FnHandsAheadOfAll.j3])
  | succ kj173 =>
   have H := HA.out
   clear HA
   simp only [laws_FnHandsAheadOfAll.j3] at H
   have HC275 := Am H
   clear H
   go_upto_if 195 with (fail)
   go_cut [] from 174 to 195 (fun wc => ∃ (kq : Nat), Aside0 (laws_FnHandsAheadOfAll.j5 kq t461 t470 a0_0 a0_1 a0_2 a1_0 a1_1 a1_2 a2_0 a2_1 a3_0 a3_1 a3_2 a4_0 a4_1 a4_2 a5_0 a5_1 a5_2 a6_0 a6_1 a6_2 a7_0 a7_1 t459 t460 t467 t468 t469 = some r) ∧ Aside0 (kq ≤ kj173) ∧ Aside0 (wc.heap[gb443]? = some (.cells #[.int .i64 a0_0, .int .i64 a0_1, .int .i64 a0_2] 25 (0, 0))) ∧ Aside0 (wc.heap[gb444]? = some (.cells #[.int .i64 a1_0, .int .i64 a1_1, .int .i64 a1_2] 25 (0, 0))) ∧ Aside0 (wc.heap[gb445]? = some (.cells #[.int .i64 a2_0, .int .i64 a2_1] 23 (0, 0))) ∧ Aside0 (wc.heap[gb446]? = some (.cells #[.int .i64 a3_0, .int .i64 a3_1, .int .i64 a3_2] 25 (0, 0))) ∧ Aside0 (wc.heap[gb447]? = some (.cells #[.int .i64 a4_0, .int .i64 a4_1, .int .i64 a4_2] 25 (0, 0))) ∧ Aside0 (wc.heap[gb448]? = some (.cells #[.int .i64 a5_0, .int .i64 a5_1, .int .i64 a5_2] 25 (0, 0))) ∧ Aside0 (wc.heap[gb449]? = some (.cells #[.int .i64 a6_0, .int .i64 a6_1, .int .i64 a6_2] 25 (0, 0))) ∧ Aside0 (wc.heap[gb450]? = some (.cells #[.int .i64 a7_0, .int .i64 a7_1] 23 (0, 0))) ∧ Aside0 (wc.heap[gb462]? = some (.cells #[.int .i64 t459, .int .i64 t460] 23 (0, 0))) ∧ Aside0 (wc.heap[gb466]? = some (.cells #[.int .i64 t463, .int .i64 t464] 23 (0, 0))) ∧ Aside0 (wc.heap[gb471]? = some (.cells #[.int .i64 t467, .int .i64 t468, .int .i64 t469] 25 (0, 0))) ∧ Aside0 (wc.heap[gb476]? = some (.cells #[.int .i64 t472, .int .i64 t473, .int .i64 t474] 25 (0, 0))) ∧ Aside0 (Below w.heap.size w wc))
   case first =>
    have H := HC275.out
    clear HC275
    by_cases c276 : t480 = true
    ·subst c276
     have H1 : (laws_FnHandsAheadOfAll.l1 kj173 t461 t470 t477 (t477.length : Int) 0 a0_0 a0_1 a0_2 a1_0 a1_1 a1_2 a2_0 a2_1 a3_0 a3_1 a3_2 a4_0 a4_1 a4_2 a5_0 a5_1 a5_2 a6_0 a6_1 a6_2 a7_0 a7_1 t459 t460 t467 t468 t469) = some r := by rw [if_pos rfl] at H; exact H
     clear H
     have H := H1
     clear H1
     have H' := Am H
     clear H
     obtain ⟨Ao277, co277, eo277⟩ := Kd.R_slice HO_29.out
     subst eo277
     go_wp2
     go_loopg [198] kj173 (fun kq v198 w' => ∃ (x198_3 : Int), v198 = .int .i64 x198_3 ∧ Aside0 (laws_FnHandsAheadOfAll.l1 kq t461 t470 t477 (t477.length : Int) x198_3 a0_0 a0_1 a0_2 a1_0 a1_1 a1_2 a2_0 a2_1 a3_0 a3_1 a3_2 a4_0 a4_1 a4_2 a5_0 a5_1 a5_2 a6_0 a6_1 a6_2 a7_0 a7_1 t459 t460 t467 t468 t469 = some r) ∧ Aside0 (kq ≤ kj173) ∧ Aside0 (Kd.R k23 23 w' w.heap.size (fun k_ => k_ ≠ gb445 ∧ k_ ≠ gb450 ∧ k_ ≠ gb462 ∧ k_ ≠ gb466) (.slice Ao277 t477.length co277) t477) ∧ Aside0 (w'.heap[gb443]? = some (.cells #[.int .i64 a0_0, .int .i64 a0_1, .int .i64 a0_2] 25 (0, 0))) ∧ Aside0 (w'.heap[gb444]? = some (.cells #[.int .i64 a1_0, .int .i64 a1_1, .int .i64 a1_2] 25 (0, 0))) ∧ Aside0 (w'.heap[gb445]? = some (.cells #[.int .i64 a2_0, .int .i64 a2_1] 23 (0, 0))) ∧ Aside0 (w'.heap[gb446]? = some (.cells #[.int .i64 a3_0, .int .i64 a3_1, .int .i64 a3_2] 25 (0, 0))) ∧ Aside0 (w'.heap[gb447]? = some (.cells #[.int .i64 a4_0, .int .i64 a4_1, .int .i64 a4_2] 25 (0, 0))) ∧ Aside0 (w'.heap[gb448]? = some (.cells #[.int .i64 a5_0, .int .i64 a5_1, .int .i64 a5_2] 25 (0, 0))) ∧ Aside0 (w'.heap[gb449]? = some (.cells #[.int .i64 a6_0, .int .i64 a6_1, .int .i64 a6_2] 25 (0, 0))) ∧ Aside0 (w'.heap[gb450]? = some (.cells #[.int .i64 a7_0, .int .i64 a7_1] 23 (0, 0))) ∧ Aside0 (w'.heap[gb462]? = some (.cells #[.int .i64 t459, .int .i64 t460] 23 (0, 0))) ∧ Aside0 (w'.heap[gb466]? = some (.cells #[.int .i64 t463, .int .i64 t464] 23 (0, 0))) ∧ Aside0 (w'.heap[gb471]? = some (.cells #[.int .i64 t467, .int .i64 t468, .int .i64 t469] 25 (0, 0))) ∧ Aside0 (w'.heap[gb476]? = some (.cells #[.int .i64 t472, .int .i64 t473, .int .i64 t474] 25 (0, 0))) ∧ Aside0 (Below w.heap.size w w'))
     case atStart => exact ⟨(0), (by first | rfl | (simp; done) | (simp [*]; done)), H', ⟨Nat.le_refl _⟩, ⟨kW HO_29⟩, kV BK443, kV BK444, kV BK445, kV BK446, kV BK447, kV BK448, kV BK449, kV BK450, kV BK462, kV BK466, kV BK471, kV BK476, ⟨by repeat (first | (with_reducible first | exact HB.out | apply bA | apply bN | apply bD | refine bX ?_ (by assumption)) | exact HB.out)⟩⟩
     case round =>
      clear H'
      (try clear c20); (try clear c21); (try clear c30); (try clear c31); (try clear c32); (try clear c173); (try clear c276); (try clear zq111); (try clear zq112); (try clear zq113); (try clear zq115); (try clear zq116); (try clear zq33); (try clear zq40); (try clear zq46); (try clear zq48); (try clear zq49); (try clear zq50); (try clear zq52); (try clear zq53); (try clear zq54); (try clear zq65); (try clear zq66); (try clear zq67); (try clear zq68); (try clear zq80); (try clear zq81); (try clear zq82); (try clear zq95); (try clear zq96); (try clear zq97)
      obtain ⟨x198_3, rfl, HA, HK3, HO_196, BK443, BK444, BK445, BK446, BK447, BK448, BK449, BK450, BK462, BK466, BK471, BK476, HB⟩ := hrel
      cases gk with
      | zero => exact absurd HA.out (by simp [laws_FnHandsAheadOfAll.l1])
      | succ k3 =>
       have H := HA.out
       clear HA
       simp only [laws_FnHandsAheadOfAll.l1] at H
       by_cases c278 : x198_3 < (t477.length : Int)
       ·rw [if_pos c278] at H
        have c278b0 : decide (x198_3 < (t477.length : Int)) = true := decide_eq_true c278
        clear c278
        (first | rw [c278b0] | (simp only [i64_w, i32_w]; rw [c278b0]) | skip)
        by_cases c279 : 0 ≤ x198_3
        ·rw [if_pos c279] at H
         have c279b0 : decide (0 ≤ x198_3) = true := decide_eq_true c279
         clear c279
         by_cases c280 : x198_3 < (t477.length : Int)
         ·rw [if_pos c280] at H
          have c280b0 : decide (x198_3 < (t477.length : Int)) = true := decide_eq_true c280
          clear c280
          replace H := Option.bind_eq_some_iff.mp H
          obtain ⟨⟨t497, t498, t499⟩, A2810, H⟩ := H
          try dsimp only at H
          have A281 := Am A2810
          clear A2810
          replace H := Option.bind_eq_some_iff.mp H
          obtain ⟨⟨t501, t502, t503⟩, A2820, H⟩ := H
          try dsimp only at H
          have A282 := Am A2820
          clear A2820
          by_cases c283 : t499 = true
          ·subst c283
           have H1 : (if (!(t497 == 1) || (!(t498 == 2))) = true then (some false) else (if t503 = true then (if (!(t501 == t497) || (!(t502 == t498))) = true then (some false) else (laws_FnHandsAheadOfAll.l1 k3 t461 t470 t477 (t477.length : Int) (wrap64 (x198_3 + 1)) a0_0 a0_1 a0_2 a1_0 a1_1 a1_2 a2_0 a2_1 a3_0 a3_1 a3_2 a4_0 a4_1 a4_2 a5_0 a5_1 a5_2 a6_0 a6_1 a6_2 a7_0 a7_1 t459 t460 t467 t468 t469)) else (some false))) = some r := by rw [if_pos rfl] at H; exact H
           clear H
           have H := H1
           clear H1
           by_cases c284 : (!(t497 == 1) || (!(t498 == 2))) = true
           ·rw [if_pos c284] at H
            have c284b0 : (!(t497 == 1) || (!(t498 == 2))) = true := c284
            clear c284
            as_aux_lemma =>
             exact absurd ((Option.some.inj H).trans hlaw.out) (by decide)
           rw [if_neg c284] at H
           have c284b0 : (!(t497 == 1) || (!(t498 == 2))) = false := by simpa using c284
           clear c284
           by_cases c285 : t503 = true
           ·subst c285
            have H1 : (if (!(t501 == t497) || (!(t502 == t498))) = true then (some false) else (laws_FnHandsAheadOfAll.l1 k3 t461 t470 t477 (t477.length : Int) (wrap64 (x198_3 + 1)) a0_0 a0_1 a0_2 a1_0 a1_1 a1_2 a2_0 a2_1 a3_0 a3_1 a3_2 a4_0 a4_1 a4_2 a5_0 a5_1 a5_2 a6_0 a6_1 a6_2 a7_0 a7_1 t459 t460 t467 t468 t469)) = some r := by rw [if_pos rfl] at H; exact H
            clear H
            have H := H1
            clear H1
            by_cases c286 : (!(t501 == t497) || (!(t502 == t498))) = true
            ·rw [if_pos c286] at H
             have c286b0 : (!(t501 == t497) || (!(t502 == t498))) = true := c286
             clear c286
             as_aux_lemma =>
              exact absurd ((Option.some.inj H).trans hlaw.out) (by decide)
            rw [if_neg c286] at H
            have c286b0 : (!(t501 == t497) || (!(t502 == t498))) = false := by simpa using c286
            clear c286
            as_aux_lemma =>
             have H' := Am H
             clear H
             have p495 : 0 ≤ (x198_3 : Int) := of_decide_eq_true (by first | (with_reducible assumption) | assumption)
             have q495 : x198_3 < (t477.length : Int) := of_decide_eq_true (by first | (with_reducible assumption) | assumption)
             obtain ⟨ad495, e495, hx495_0, hx495_1⟩ := at_T23 (Kd.R_reads' HO_196.out).2.2 x198_3 p495 q495
             cases e495
             replace p495 := eq_true p495
             replace q495 := eq_true q495
             go_wp2_with (first | ((with_reducible refine gate_dst (N := 38) rfl ?_); (try (refine gate_guard (by rfl) ?_; dsimp only)); refine bE 38 #[.int .i64 0, .int .i64 0] 23 ?_; intro gb496 hg w287 hbox hb; have n0_ := Am (Kd.R_below (Kd.R_elderB (kW HO_196) gb496 (Nat.le_of_eq hg.symm)) hb); have hp0 := pA BK443 hb; have hv := vK HB hb; have n13_ := Am (bT hv hb); have n14_ := Am (hbox); have GE496 := kG hg hv; have hp1 := pK BK443 hb; obtain ⟨NB443_496, NB496_443⟩ := kXY hg hp1 BK443; obtain ⟨NB444_496, NB496_444⟩ := kXY hg hp1 BK444; obtain ⟨NB445_496, NB496_445⟩ := kXY hg hp1 BK445; obtain ⟨NB446_496, NB496_446⟩ := kXY hg hp1 BK446; obtain ⟨NB447_496, NB496_447⟩ := kXY hg hp1 BK447; obtain ⟨NB448_496, NB496_448⟩ := kXY hg hp1 BK448; obtain ⟨NB449_496, NB496_449⟩ := kXY hg hp1 BK449; obtain ⟨NB450_496, NB496_450⟩ := kXY hg hp1 BK450; obtain ⟨NB462_496, NB496_462⟩ := kXY hg hp1 BK462; obtain ⟨NB466_496, NB496_466⟩ := kXY hg hp1 BK466; obtain ⟨NB471_496, NB496_471⟩ := kXY hg hp1 BK471; obtain ⟨NB476_496, NB496_476⟩ := kXY hg hp1 BK476; clear HO_196; clear HB; have HO_196 := n0_; replace BK443 := hp0 BK443; replace BK444 := hp0 BK444; replace BK445 := hp0 BK445; replace BK446 := hp0 BK446; replace BK447 := hp0 BK447; replace BK448 := hp0 BK448; replace BK449 := hp0 BK449; replace BK450 := hp0 BK450; replace BK462 := hp0 BK462; replace BK466 := hp0 BK466; replace BK471 := hp0 BK471; replace BK476 := hp0 BK476; have HB := n13_; have BK496 := n14_; clear n0_ n13_ n14_ hp0 hp1 hv; clear hb hbox hg; have nq288 := kO NB496_443; have nq289 := kO NB496_444; have nq290 := kO NB496_445; have nq291 := kO NB496_446; have nq292 := kO NB496_447; have nq293 := kO NB496_448; have nq294 := kO NB496_449; have nq295 := kO NB496_450; have nq296 := kO NB496_462; have nq297 := kO NB496_466; have nq298 := kO NB496_471; have nq299 := kO NB496_476; have zq300 := c2 BK496; have nq301 := kO NB443_444; have nq302 := kO NB443_445; have nq303 := kO NB443_446; have nq304 := kO NB443_447; have nq305 := kO NB443_448; have nq306 := kO NB443_449; have nq307 := kO NB443_450; have nq308 := kO NB443_462; have nq309 := kO NB443_466; have nq310 := kO NB443_471; have nq311 := kO NB443_476; have zq312 := c3 BK443; have nq313 := kO NB444_445; have nq314 := kO NB444_446; have nq315 := kO NB444_447; have nq316 := kO NB444_448; have nq317 := kO NB444_449; have nq318 := kO NB444_450; have nq319 := kO NB444_462; have nq320 := kO NB444_466; have nq321 := kO NB444_471; have nq322 := kO NB444_476; have zq323 := c3 BK444) | ((with_reducible refine gate_callee (f := 6) rfl ?_); refine gL (some 206) Try.func6 #[.agg #[.int .i64 a0_0, .int .i64 a0_1, .int .i64 a0_2], .agg #[.int .i64 a1_0, .int .i64 a1_1, .int .i64 a1_2], .agg #[.int .i64 ((rd_T23 t477 x198_3).f0), .int .i64 ((rd_T23 t477 x198_3).f1)]] rfl ?_; (with_reducible refine (impl_AheadAt.calls k3 a0_0 a0_1 a0_2 a1_0 a1_1 a1_2 ((rd_T23 t477 x198_3).f0) ((rd_T23 t477 x198_3).f1) t497 t498 true _ A281.out).mono ?_); rintro e w324 ⟨rfl, hb⟩; refine ⟨_, rfl, ?_⟩; have n0_ := Am (Kd.R_below (by (with_reducible repeat (first | apply Kd.R_alloc | apply Kd.R_drewN | apply Kd.R_drew)); exact (Kd.R_mono (Kd.R_far (p := ⟨gb496, 1, none⟩) (Kd.R_far (p := ⟨gb496, 0, none⟩) (Kd.R_mono HO_196.out (fun k_ hk => (⟨hk, hk.2⟩ : _ ∧ k_ ≠ gb496))) (fun _ hk => hk.2) (.int .i64 ((rd_T23 t477 x198_3).f0))) (fun _ hk => hk.2) (.int .i64 ((rd_T23 t477 x198_3).f1))) (fun _ h_ => h_.1))) hb); have hp0 := pB gb496 BK443 hb; have n13_ := Am (kB (g := gb496) (o := .cells #[.int .i64 ((rd_T23 t477 x198_3).f0), .int .i64 ((rd_T23 t477 x198_3).f1)] 23 (0, 0)) (by (with_reducible repeat (first | refine kN ?_ _ | refine kD ?_ | refine kA ?_ _)); refine kP (cs := #[.int .i64 ((rd_T23 t477 x198_3).f0), .int .i64 0]) ?_ 1 _ rfl; (with_reducible repeat (first | refine kN ?_ _ | refine kD ?_ | refine kA ?_ _)); refine kP (cs := #[.int .i64 0, .int .i64 0]) ?_ 0 _ rfl; (with_reducible repeat (first | refine kN ?_ _ | refine kD ?_ | refine kA ?_ _)); exact BK496.out) hb); have hv := vK HB hb; have n14_ := Am (bT hv hb); clear HO_196; clear BK496; clear HB; have HO_196 := n0_; replace BK443 := hp0 NB443_496 BK443; replace BK444 := hp0 NB444_496 BK444; replace BK445 := hp0 NB445_496 BK445; replace BK446 := hp0 NB446_496 BK446; replace BK447 := hp0 NB447_496 BK447; replace BK448 := hp0 NB448_496 BK448; replace BK449 := hp0 NB449_496 BK449; replace BK450 := hp0 NB450_496 BK450; replace BK462 := hp0 NB462_496 BK462; replace BK466 := hp0 NB466_496 BK466; replace BK471 := hp0 NB471_496 BK471; replace BK476 := hp0 NB476_496 BK476; have BK496 := n13_; have HB := n14_; clear n0_ n13_ n14_ hp0 hv; (try clear hb); (try clear hk)) | ((with_reducible refine gate_dst (N := 39) rfl ?_); (try (refine gate_guard (by rfl) ?_; dsimp only)); refine bE 39 #[.int .i64 0, .int .i64 0] 23 ?_; intro gb500 hg w325 hbox hb; have n0_ := Am (Kd.R_below (Kd.R_elderB (kW HO_196) gb500 (Nat.le_of_eq hg.symm)) hb); have hp0 := pA BK443 hb; have hv := vK HB hb; have n14_ := Am (bT hv hb); have n15_ := Am (hbox); have GE500 := kG hg hv; have hp1 := pK BK443 hb; obtain ⟨NB443_500, NB500_443⟩ := kXY hg hp1 BK443; obtain ⟨NB444_500, NB500_444⟩ := kXY hg hp1 BK444; obtain ⟨NB445_500, NB500_445⟩ := kXY hg hp1 BK445; obtain ⟨NB446_500, NB500_446⟩ := kXY hg hp1 BK446; obtain ⟨NB447_500, NB500_447⟩ := kXY hg hp1 BK447; obtain ⟨NB448_500, NB500_448⟩ := kXY hg hp1 BK448; obtain ⟨NB449_500, NB500_449⟩ := kXY hg hp1 BK449; obtain ⟨NB450_500, NB500_450⟩ := kXY hg hp1 BK450; obtain ⟨NB462_500, NB500_462⟩ := kXY hg hp1 BK462; obtain ⟨NB466_500, NB500_466⟩ := kXY hg hp1 BK466; obtain ⟨NB471_500, NB500_471⟩ := kXY hg hp1 BK471; obtain ⟨NB476_500, NB500_476⟩ := kXY hg hp1 BK476; obtain ⟨NB496_500, NB500_496⟩ := kXY hg hp1 BK496; clear HO_196; clear HB; have HO_196 := n0_; replace BK443 := hp0 BK443; replace BK444 := hp0 BK444; replace BK445 := hp0 BK445; replace BK446 := hp0 BK446; replace BK447 := hp0 BK447; replace BK448 := hp0 BK448; replace BK449 := hp0 BK449; replace BK450 := hp0 BK450; replace BK462 := hp0 BK462; replace BK466 := hp0 BK466; replace BK471 := hp0 BK471; replace BK476 := hp0 BK476; replace BK496 := hp0 BK496; have HB := n14_; have BK500 := n15_; clear n0_ n14_ n15_ hp0 hp1 hv; clear hb hbox hg; have nq326 := kO NB500_443; have nq327 := kO NB500_444; have nq328 := kO NB500_445; have nq329 := kO NB500_446; have nq330 := kO NB500_447; have nq331 := kO NB500_448; have nq332 := kO NB500_449; have nq333 := kO NB500_450; have nq334 := kO NB500_462; have nq335 := kO NB500_466; have nq336 := kO NB500_471; have nq337 := kO NB500_476; have nq338 := kO NB500_496; have zq339 := c2 BK500; have zq340 := c3 BK444; have zq341 := c3 BK443; have zq342 := c2 BK496) | ((with_reducible refine gate_callee (f := 6) rfl ?_); refine gL (some 213) Try.func6 #[.agg #[.int .i64 a1_0, .int .i64 a1_1, .int .i64 a1_2], .agg #[.int .i64 a0_0, .int .i64 a0_1, .int .i64 a0_2], .agg #[.int .i64 ((rd_T23 t477 x198_3).f0), .int .i64 ((rd_T23 t477 x198_3).f1)]] rfl ?_; (with_reducible refine (impl_AheadAt.calls k3 a1_0 a1_1 a1_2 a0_0 a0_1 a0_2 ((rd_T23 t477 x198_3).f0) ((rd_T23 t477 x198_3).f1) t501 t502 true _ A282.out).mono ?_); rintro e w343 ⟨rfl, hb⟩; refine ⟨_, rfl, ?_⟩; have n0_ := Am (Kd.R_below (by (with_reducible repeat (first | apply Kd.R_alloc | apply Kd.R_drewN | apply Kd.R_drew)); exact (Kd.R_mono (Kd.R_far (p := ⟨gb500, 1, none⟩) (Kd.R_far (p := ⟨gb500, 0, none⟩) (Kd.R_mono HO_196.out (fun k_ hk => (⟨hk, hk.2⟩ : _ ∧ k_ ≠ gb500))) (fun _ hk => hk.2) (.int .i64 t497)) (fun _ hk => hk.2) (.int .i64 t498)) (fun _ h_ => h_.1))) hb); have hp0 := pB gb500 BK443 hb; have n14_ := Am (kB (g := gb500) (o := .cells #[.int .i64 t497, .int .i64 t498] 23 (0, 0)) (by (with_reducible repeat (first | refine kN ?_ _ | refine kD ?_ | refine kA ?_ _)); refine kP (cs := #[.int .i64 t497, .int .i64 0]) ?_ 1 _ rfl; (with_reducible repeat (first | refine kN ?_ _ | refine kD ?_ | refine kA ?_ _)); refine kP (cs := #[.int .i64 0, .int .i64 0]) ?_ 0 _ rfl; (with_reducible repeat (first | refine kN ?_ _ | refine kD ?_ | refine kA ?_ _)); exact BK500.out) hb); have hv := vK HB hb; have n15_ := Am (bT hv hb); clear HO_196; clear BK500; clear HB; have HO_196 := n0_; replace BK443 := hp0 NB443_500 BK443; replace BK444 := hp0 NB444_500 BK444; replace BK445 := hp0 NB445_500 BK445; replace BK446 := hp0 NB446_500 BK446; replace BK447 := hp0 NB447_500 BK447; replace BK448 := hp0 NB448_500 BK448; replace BK449 := hp0 NB449_500 BK449; replace BK450 := hp0 NB450_500 BK450; replace BK462 := hp0 NB462_500 BK462; replace BK466 := hp0 NB466_500 BK466; replace BK471 := hp0 NB471_500 BK471; replace BK476 := hp0 NB476_500 BK476; replace BK496 := hp0 NB496_500 BK496; have BK500 := n14_; have HB := n15_; clear n0_ n14_ n15_ hp0 hv; (try clear hb); (try clear hk)) | ((with_reducible refine gate_dst (N := 41) rfl ?_); (try (refine gate_guard (by rfl) ?_; dsimp only)); refine bE 41 #[.int .i64 0, .int .i64 0] 23 ?_; intro gb504 hg w344 hbox hb; have n0_ := Am (Kd.R_below (Kd.R_elderB (kW HO_196) gb504 (Nat.le_of_eq hg.symm)) hb); have hp0 := pA BK443 hb; have hv := vK HB hb; have n15_ := Am (bT hv hb); have n16_ := Am (hbox); have GE504 := kG hg hv; have hp1 := pK BK443 hb; obtain ⟨NB443_504, NB504_443⟩ := kXY hg hp1 BK443; obtain ⟨NB444_504, NB504_444⟩ := kXY hg hp1 BK444; obtain ⟨NB445_504, NB504_445⟩ := kXY hg hp1 BK445; obtain ⟨NB446_504, NB504_446⟩ := kXY hg hp1 BK446; obtain ⟨NB447_504, NB504_447⟩ := kXY hg hp1 BK447; obtain ⟨NB448_504, NB504_448⟩ := kXY hg hp1 BK448; obtain ⟨NB449_504, NB504_449⟩ := kXY hg hp1 BK449; obtain ⟨NB450_504, NB504_450⟩ := kXY hg hp1 BK450; obtain ⟨NB462_504, NB504_462⟩ := kXY hg hp1 BK462; obtain ⟨NB466_504, NB504_466⟩ := kXY hg hp1 BK466; obtain ⟨NB471_504, NB504_471⟩ := kXY hg hp1 BK471; obtain ⟨NB476_504, NB504_476⟩ := kXY hg hp1 BK476; obtain ⟨NB496_504, NB504_496⟩ := kXY hg hp1 BK496; obtain ⟨NB500_504, NB504_500⟩ := kXY hg hp1 BK500; clear HO_196; clear HB; have HO_196 := n0_; replace BK443 := hp0 BK443; replace BK444 := hp0 BK444; replace BK445 := hp0 BK445; replace BK446 := hp0 BK446; replace BK447 := hp0 BK447; replace BK448 := hp0 BK448; replace BK449 := hp0 BK449; replace BK450 := hp0 BK450; replace BK462 := hp0 BK462; replace BK466 := hp0 BK466; replace BK471 := hp0 BK471; replace BK476 := hp0 BK476; replace BK496 := hp0 BK496; replace BK500 := hp0 BK500; have HB := n15_; have BK504 := n16_; clear n0_ n15_ n16_ hp0 hp1 hv; clear hb hbox hg; have nq345 := kO NB504_443; have nq346 := kO NB504_444; have nq347 := kO NB504_445; have nq348 := kO NB504_446; have nq349 := kO NB504_447; have nq350 := kO NB504_448; have nq351 := kO NB504_449; have nq352 := kO NB504_450; have nq353 := kO NB504_462; have nq354 := kO NB504_466; have nq355 := kO NB504_471; have nq356 := kO NB504_476; have nq357 := kO NB504_496; have nq358 := kO NB504_500; have hcz359_0 : w344.cell? ⟨gb504, 0, none⟩ = some (.int .i64 0) := (kC BK504.out 0).trans rfl; have hcz359_1 : w344.cell? ⟨gb504, 1, none⟩ = some (.int .i64 0) := (kC BK504.out 1).trans rfl; have hfz359_0 := kF BK504.out 0; have hfz359_1 := kF BK504.out 1; have zq360 := c2 BK500))
             go_roundg k3
             case measure => have := HJ16.out; have := HJ173.out; have := HK3.out; omega
             case rel => exact ⟨(wrap64 (x198_3 + 1)), (by first | rfl | (simp; done) | (simp [*]; done)), H', ⟨by have := HJ16.out; have := HJ173.out; have := HK3.out; omega⟩, ⟨by (with_reducible repeat (first | apply Kd.R_alloc | apply Kd.R_drewN | apply Kd.R_drew)); exact Kd.R_mono (Kd.R_far (p := ⟨gb504, 1, none⟩) (Kd.R_far (p := ⟨gb504, 0, none⟩) (Kd.R_mono HO_196.out (fun k_ hk => (⟨hk, hk.2⟩ : _ ∧ k_ ≠ gb504))) (fun _ hk => hk.2) (.int .i64 t501)) (fun _ hk => hk.2) (.int .i64 t502)) (fun _ hk => ⟨hk.1.1.1.1.1, ⟨hk.1.1.1.1.2.1, ⟨hk.1.1.1.1.2.2.1, hk.1.1.1.1.2.2.2⟩⟩⟩)⟩, ⟨by (with_reducible repeat (first | refine kN ?_ _ | refine kD ?_ | refine kA ?_ _)); refine kR ?_ NB443_504.out _; (with_reducible repeat (first | refine kN ?_ _ | refine kD ?_ | refine kA ?_ _)); refine kR ?_ NB443_504.out _; (with_reducible repeat (first | refine kN ?_ _ | refine kD ?_ | refine kA ?_ _)); exact BK443.out⟩, ⟨by (with_reducible repeat (first | refine kN ?_ _ | refine kD ?_ | refine kA ?_ _)); refine kR ?_ NB444_504.out _; (with_reducible repeat (first | refine kN ?_ _ | refine kD ?_ | refine kA ?_ _)); refine kR ?_ NB444_504.out _; (with_reducible repeat (first | refine kN ?_ _ | refine kD ?_ | refine kA ?_ _)); exact BK444.out⟩, ⟨by (with_reducible repeat (first | refine kN ?_ _ | refine kD ?_ | refine kA ?_ _)); refine kR ?_ NB445_504.out _; (with_reducible repeat (first | refine kN ?_ _ | refine kD ?_ | refine kA ?_ _)); refine kR ?_ NB445_504.out _; (with_reducible repeat (first | refine kN ?_ _ | refine kD ?_ | refine kA ?_ _)); exact BK445.out⟩, ⟨by (with_reducible repeat (first | refine kN ?_ _ | refine kD ?_ | refine kA ?_ _)); refine kR ?_ NB446_504.out _; (with_reducible repeat (first | refine kN ?_ _ | refine kD ?_ | refine kA ?_ _)); refine kR ?_ NB446_504.out _; (with_reducible repeat (first | refine kN ?_ _ | refine kD ?_ | refine kA ?_ _)); exact BK446.out⟩, ⟨by (with_reducible repeat (first | refine kN ?_ _ | refine kD ?_ | refine kA ?_ _)); refine kR ?_ NB447_504.out _; (with_reducible repeat (first | refine kN ?_ _ | refine kD ?_ | refine kA ?_ _)); refine kR ?_ NB447_504.out _; (with_reducible repeat (first | refine kN ?_ _ | refine kD ?_ | refine kA ?_ _)); exact BK447.out⟩, ⟨by (with_reducible repeat (first | refine kN ?_ _ | refine kD ?_ | refine kA ?_ _)); refine kR ?_ NB448_504.out _; (with_reducible repeat (first | refine kN ?_ _ | refine kD ?_ | refine kA ?_ _)); refine kR ?_ NB448_504.out _; (with_reducible repeat (first | refine kN ?_ _ | refine kD ?_ | refine kA ?_ _)); exact BK448.out⟩, ⟨by (with_reducible repeat (first | refine kN ?_ _ | refine kD ?_ | refine kA ?_ _)); refine kR ?_ NB449_504.out _; (with_reducible repeat (first | refine kN ?_ _ | refine kD ?_ | refine kA ?_ _)); refine kR ?_ NB449_504.out _; (with_reducible repeat (first | refine kN ?_ _ | refine kD ?_ | refine kA ?_ _)); exact BK449.out⟩, ⟨by (with_reducible repeat (first | refine kN ?_ _ | refine kD ?_ | refine kA ?_ _)); refine kR ?_ NB450_504.out _; (with_reducible repeat (first | refine kN ?_ _ | refine kD ?_ | refine kA ?_ _)); refine kR ?_ NB450_504.out _; (with_reducible repeat (first | refine kN ?_ _ | refine kD ?_ | refine kA ?_ _)); exact BK450.out⟩, ⟨by (with_reducible repeat (first | refine kN ?_ _ | refine kD ?_ | refine kA ?_ _)); refine kR ?_ NB462_504.out _; (with_reducible repeat (first | refine kN ?_ _ | refine kD ?_ | refine kA ?_ _)); refine kR ?_ NB462_504.out _; (with_reducible repeat (first | refine kN ?_ _ | refine kD ?_ | refine kA ?_ _)); exact BK462.out⟩, ⟨by (with_reducible repeat (first | refine kN ?_ _ | refine kD ?_ | refine kA ?_ _)); refine kR ?_ NB466_504.out _; (with_reducible repeat (first | refine kN ?_ _ | refine kD ?_ | refine kA ?_ _)); refine kR ?_ NB466_504.out _; (with_reducible repeat (first | refine kN ?_ _ | refine kD ?_ | refine kA ?_ _)); exact BK466.out⟩, ⟨by (with_reducible repeat (first | refine kN ?_ _ | refine kD ?_ | refine kA ?_ _)); refine kR ?_ NB471_504.out _; (with_reducible repeat (first | refine kN ?_ _ | refine kD ?_ | refine kA ?_ _)); refine kR ?_ NB471_504.out _; (with_reducible repeat (first | refine kN ?_ _ | refine kD ?_ | refine kA ?_ _)); exact BK471.out⟩, ⟨by (with_reducible repeat (first | refine kN ?_ _ | refine kD ?_ | refine kA ?_ _)); refine kR ?_ NB476_504.out _; (with_reducible repeat (first | refine kN ?_ _ | refine kD ?_ | refine kA ?_ _)); refine kR ?_ NB476_504.out _; (with_reducible repeat (first | refine kN ?_ _ | refine kD ?_ | refine kA ?_ _)); exact BK476.out⟩, ⟨by repeat (first | (with_reducible first | exact HB.out | apply bA | apply bN | apply bD | refine bX ?_ (by assumption)) | exact HB.out)⟩⟩
           replace c285 := Bool.eq_false_iff.mpr c285
           subst c285
           have H1 : (some false) = some r := by rw [if_neg (show ¬ (false = true) by decide)] at H; exact H
           clear H
           have H := H1
           clear H1
           as_aux_lemma =>
            exact absurd ((Option.some.inj H).trans hlaw.out) (by decide)
          replace c283 := Bool.eq_false_iff.mpr c283
          subst c283
          have H1 : (some false) = some r := by rw [if_neg (show ¬ (false = true) by decide)] at H; exact H
          clear H
          have H := H1
          clear H1
          as_aux_lemma =>
           exact absurd ((Option.some.inj H).trans hlaw.out) (by decide)
         rw [if_neg c280] at H
         exact absurd H (by simp)
        rw [if_neg c279] at H
        exact absurd H (by simp)
       rw [if_neg c278] at H
       have c278b0 : decide (x198_3 < (t477.length : Int)) = false := decide_eq_false c278
       clear c278
       (first | rw [c278b0] | (simp only [i64_w, i32_w]; rw [c278b0]) | skip)
       as_aux_lemma =>
        have H' := Am H
        clear H
        go_wp2
        go_meet
        case rel =>
         refine ⟨_, H', ⟨by have := HJ16.out; have := HJ173.out; have := HK3.out; first | omega | exact Nat.le_refl _⟩, ⟨?_⟩, ⟨?_⟩, ⟨?_⟩, ⟨?_⟩, ⟨?_⟩, ⟨?_⟩, ⟨?_⟩, ⟨?_⟩, ⟨?_⟩, ⟨?_⟩, ⟨?_⟩, ⟨?_⟩, ⟨by repeat (first | (with_reducible first | exact HB.out | apply bA | apply bN | apply bD | refine bX ?_ (by assumption)) | exact HB.out)⟩⟩
         all_goals ((with_reducible repeat (first | refine kN ?_ _ | refine kD ?_ | refine kA ?_ _)); exact Aside0.out (by assumption))
    replace c276 := Bool.eq_false_iff.mpr c276
    subst c276
    have H1 : (laws_FnHandsAheadOfAll.j5 kj173 t461 t470 a0_0 a0_1 a0_2 a1_0 a1_1 a1_2 a2_0 a2_1 a3_0 a3_1 a3_2 a4_0 a4_1 a4_2 a5_0 a5_1 a5_2 a6_0 a6_1 a6_2 a7_0 a7_1 t459 t460 t467 t468 t469) = some r := by rw [if_neg (show ¬ (false = true) by decide)] at H; exact H
    clear H
    have H := H1
    clear H1
    as_aux_lemma =>
     have H' := Am H
     clear H
     go_wp2
     go_meet
     case rel =>
      refine ⟨_, H', ⟨by have := HJ16.out; have := HJ173.out; first | omega | exact Nat.le_refl _⟩, ⟨?_⟩, ⟨?_⟩, ⟨?_⟩, ⟨?_⟩, ⟨?_⟩, ⟨?_⟩, ⟨?_⟩, ⟨?_⟩, ⟨?_⟩, ⟨?_⟩, ⟨?_⟩, ⟨?_⟩, ⟨by repeat (first | (with_reducible first | exact HB.out | apply bA | apply bN | apply bD | refine bX ?_ (by assumption)) | exact HB.out)⟩⟩
      all_goals ((with_reducible repeat (first | refine kN ?_ _ | refine kD ?_ | refine kA ?_ _)); exact Aside0.out (by assumption))
   clear HC275
   (try clear c20); (try clear c21); (try clear c30); (try clear c31); (try clear c32); (try clear c173); (try clear zq111); (try clear zq112); (try clear zq113); (try clear zq115); (try clear zq116); (try clear zq33); (try clear zq40); (try clear zq46); (try clear zq48); (try clear zq49); (try clear zq50); (try clear zq52); (try clear zq53); (try clear zq54); (try clear zq65); (try clear zq66); (try clear zq67); (try clear zq68); (try clear zq80); (try clear zq81); (try clear zq82); (try clear zq95); (try clear zq96); (try clear zq97)
   obtain ⟨kq, HA, HJ274, BK443, BK444, BK445, BK446, BK447, BK448, BK449, BK450, BK462, BK466, BK471, BK476, HB⟩ := hcut
   cases kq with
   | zero => exact absurd HA.out (by simp [laws_FnHandsAheadOfAll.j5])
   | succ kj274 =>
    have H := HA.out
    clear HA
    simp only [laws_FnHandsAheadOfAll.j5] at H
    have HC361 := Am H
    clear H
    go_upto_if 233 with (fail)
    go_cut [] from 196 to 233 (fun wc => ∃ (kq : Nat), Aside0 (laws_FnHandsAheadOfAll.j6 kq a3_0 a3_1 a3_2 a4_0 a4_1 a4_2 a5_0 a5_1 a5_2 a6_0 a6_1 a6_2 a7_0 a7_1 = some r) ∧ Aside0 (kq ≤ kj274) ∧ Aside0 (wc.heap[gb443]? = some (.cells #[.int .i64 a0_0, .int .i64 a0_1, .int .i64 a0_2] 25 (0, 0))) ∧ Aside0 (wc.heap[gb444]? = some (.cells #[.int .i64 a1_0, .int .i64 a1_1, .int .i64 a1_2] 25 (0, 0))) ∧ Aside0 (wc.heap[gb445]? = some (.cells #[.int .i64 a2_0, .int .i64 a2_1] 23 (0, 0))) ∧ Aside0 (wc.heap[gb446]? = some (.cells #[.int .i64 a3_0, .int .i64 a3_1, .int .i64 a3_2] 25 (0, 0))) ∧ Aside0 (wc.heap[gb447]? = some (.cells #[.int .i64 a4_0, .int .i64 a4_1, .int .i64 a4_2] 25 (0, 0))) ∧ Aside0 (wc.heap[gb448]? = some (.cells #[.int .i64 a5_0, .int .i64 a5_1, .int .i64 a5_2] 25 (0, 0))) ∧ Aside0 (wc.heap[gb449]? = some (.cells #[.int .i64 a6_0, .int .i64 a6_1, .int .i64 a6_2] 25 (0, 0))) ∧ Aside0 (wc.heap[gb450]? = some (.cells #[.int .i64 a7_0, .int .i64 a7_1] 23 (0, 0))) ∧ Aside0 (wc.heap[gb462]? = some (.cells #[.int .i64 t459, .int .i64 t460] 23 (0, 0))) ∧ Aside0 (wc.heap[gb466]? = some (.cells #[.int .i64 t463, .int .i64 t464] 23 (0, 0))) ∧ Aside0 (wc.heap[gb471]? = some (.cells #[.int .i64 t467, .int .i64 t468, .int .i64 t469] 25 (0, 0))) ∧ Aside0 (wc.heap[gb476]? = some (.cells #[.int .i64 t472, .int .i64 t473, .int .i64 t474] 25 (0, 0))) ∧ Aside0 (Below w.heap.size w wc))
    case first =>
     have H := HC361.out
     clear HC361
     by_cases c362 : t470 = true
     ·subst c362
      have H1 : ((impl_HandAt.f kj274 t467 t468 t469 a2_0 a2_1).bind fun bt505 => (if (bt505.2.2 != t461) = true then (some false) else (if bt505.2.2 = true then (if (!(bt505.1 == t459) || (!(bt505.2.1 == t460))) = true then (some false) else (if t469 = (wrap64 (a0_2 - a1_2)) then (laws_FnHandsAheadOfAll.j6 kj274 a3_0 a3_1 a3_2 a4_0 a4_1 a4_2 a5_0 a5_1 a5_2 a6_0 a6_1 a6_2 a7_0 a7_1) else (some false))) else (if t469 = (wrap64 (a0_2 - a1_2)) then (laws_FnHandsAheadOfAll.j6 kj274 a3_0 a3_1 a3_2 a4_0 a4_1 a4_2 a5_0 a5_1 a5_2 a6_0 a6_1 a6_2 a7_0 a7_1) else (some false))))) = some r := by rw [if_pos rfl] at H; exact H
      clear H
      have H := H1
      clear H1
      replace H := Option.bind_eq_some_iff.mp H
      obtain ⟨⟨t505, t506, t507⟩, A3630, H⟩ := H
      try dsimp only at H
      have A363 := Am A3630
      clear A3630
      by_cases c364 : (t507 != t461) = true
      ·rw [if_pos c364] at H
       have c364b0 : (t507 != t461) = true := c364
       (try (have c364b1 : decide (t507 = t461) = false := by simpa using c364))
       (try (have c364b2 : (t507 == t461) = false := by simpa using c364))
       (try (have c364b3 : ¬ (t507 = t461) := by simpa using c364))
       clear c364
       (first | rw [c364b0] | (simp only [i64_w, i32_w]; rw [c364b0]) | skip)
       as_aux_lemma =>
        exact absurd ((Option.some.inj H).trans hlaw.out) (by decide)
      rw [if_neg c364] at H
      have c364b0 : (t507 != t461) = false := by simpa using c364
      (try (have c364b1 : decide (t507 = t461) = true := by simpa using c364))
      (try (have c364b2 : (t507 == t461) = true := by simpa using c364))
      clear c364
      (first | rw [c364b0] | (simp only [i64_w, i32_w]; rw [c364b0]) | skip)
      by_cases c365 : t507 = true
      ·subst c365
       have H1 : (if (!(t505 == t459) || (!(t506 == t460))) = true then (some false) else (if t469 = (wrap64 (a0_2 - a1_2)) then (laws_FnHandsAheadOfAll.j6 kj274 a3_0 a3_1 a3_2 a4_0 a4_1 a4_2 a5_0 a5_1 a5_2 a6_0 a6_1 a6_2 a7_0 a7_1) else (some false))) = some r := by rw [if_pos rfl] at H; exact H
       clear H
       have H := H1
       clear H1
       by_cases c366 : (!(t505 == t459) || (!(t506 == t460))) = true
       ·rw [if_pos c366] at H
        have c366b0 : (!(t505 == t459) || (!(t506 == t460))) = true := c366
        clear c366
        as_aux_lemma =>
         exact absurd ((Option.some.inj H).trans hlaw.out) (by decide)
       rw [if_neg c366] at H
       have c366b0 : (!(t505 == t459) || (!(t506 == t460))) = false := by simpa using c366
       clear c366
       by_cases c367 : t469 = (wrap64 (a0_2 - a1_2))
       ·rw [if_pos c367] at H
        have c367b0 : (t469 == (wrap64 (a0_2 - a1_2))) = true := beq_iff_eq.mpr c367
        have c367b1 : (t469 != (wrap64 (a0_2 - a1_2))) = false := bne_eq_false_iff_eq.mpr c367
        clear c367
        as_aux_lemma =>
         have H' := Am H
         clear H
         have nq368 := kO NB471_443; have nq369 := kO NB471_444; have nq370 := kO NB471_445; have nq371 := kO NB471_446; have nq372 := kO NB471_447; have nq373 := kO NB471_448; have nq374 := kO NB471_449; have nq375 := kO NB471_450; have nq376 := kO NB471_462; have nq377 := kO NB471_466; have nq378 := kO NB471_476
         have zq379 := c3 BK471
         have nq380 := kO NB445_443; have nq381 := kO NB445_444; have nq382 := kO NB445_446; have nq383 := kO NB445_447; have nq384 := kO NB445_448; have nq385 := kO NB445_449; have nq386 := kO NB445_450; have nq387 := kO NB445_462; have nq388 := kO NB445_466; have nq389 := kO NB445_476
         have zq390 := c2 BK445
         go_wp2_with (first | ((with_reducible refine gate_callee (f := 15) rfl ?_); refine gL (some 237) Try.func15 #[.agg #[.int .i64 t467, .int .i64 t468, .int .i64 t469], .agg #[.int .i64 a2_0, .int .i64 a2_1]] rfl ?_; (with_reducible refine (impl_HandAt.calls kj274 t467 t468 t469 a2_0 a2_1 t505 t506 true _ A363.out).mono ?_); rintro e w391 ⟨rfl, hb⟩; refine ⟨_, rfl, ?_⟩; have hp0 := pA BK443 hb; have hv := vK HB hb; have n12_ := Am (bT hv hb); clear HB; replace BK443 := hp0 BK443; replace BK444 := hp0 BK444; replace BK445 := hp0 BK445; replace BK446 := hp0 BK446; replace BK447 := hp0 BK447; replace BK448 := hp0 BK448; replace BK449 := hp0 BK449; replace BK450 := hp0 BK450; replace BK462 := hp0 BK462; replace BK466 := hp0 BK466; replace BK471 := hp0 BK471; replace BK476 := hp0 BK476; have HB := n12_; clear n12_ hp0 hv; (try clear hb)) | ((with_reducible refine gate_dst (N := 43) rfl ?_); (try (refine gate_guard (by rfl) ?_; dsimp only)); refine bE 43 #[.int .i64 0, .int .i64 0] 23 ?_; intro gb508 hg w392 hbox hb; have hp0 := pA BK443 hb; have hv := vK HB hb; have n12_ := Am (bT hv hb); have n13_ := Am (hbox); have GE508 := kG hg hv; have hp1 := pK BK443 hb; obtain ⟨NB443_508, NB508_443⟩ := kXY hg hp1 BK443; obtain ⟨NB444_508, NB508_444⟩ := kXY hg hp1 BK444; obtain ⟨NB445_508, NB508_445⟩ := kXY hg hp1 BK445; obtain ⟨NB446_508, NB508_446⟩ := kXY hg hp1 BK446; obtain ⟨NB447_508, NB508_447⟩ := kXY hg hp1 BK447; obtain ⟨NB448_508, NB508_448⟩ := kXY hg hp1 BK448; obtain ⟨NB449_508, NB508_449⟩ := kXY hg hp1 BK449; obtain ⟨NB450_508, NB508_450⟩ := kXY hg hp1 BK450; obtain ⟨NB462_508, NB508_462⟩ := kXY hg hp1 BK462; obtain ⟨NB466_508, NB508_466⟩ := kXY hg hp1 BK466; obtain ⟨NB471_508, NB508_471⟩ := kXY hg hp1 BK471; obtain ⟨NB476_508, NB508_476⟩ := kXY hg hp1 BK476; clear HB; replace BK443 := hp0 BK443; replace BK444 := hp0 BK444; replace BK445 := hp0 BK445; replace BK446 := hp0 BK446; replace BK447 := hp0 BK447; replace BK448 := hp0 BK448; replace BK449 := hp0 BK449; replace BK450 := hp0 BK450; replace BK462 := hp0 BK462; replace BK466 := hp0 BK466; replace BK471 := hp0 BK471; replace BK476 := hp0 BK476; have HB := n12_; have BK508 := n13_; clear n12_ n13_ hp0 hp1 hv; clear hb hbox hg; have nq393 := kO NB508_443; have nq394 := kO NB508_444; have nq395 := kO NB508_445; have nq396 := kO NB508_446; have nq397 := kO NB508_447; have nq398 := kO NB508_448; have nq399 := kO NB508_449; have nq400 := kO NB508_450; have nq401 := kO NB508_462; have nq402 := kO NB508_466; have nq403 := kO NB508_471; have nq404 := kO NB508_476; have hcz405_0 : w392.cell? ⟨gb508, 0, none⟩ = some (.int .i64 0) := (kC BK508.out 0).trans rfl; have hcz405_1 : w392.cell? ⟨gb508, 1, none⟩ = some (.int .i64 0) := (kC BK508.out 1).trans rfl; have hfz405_0 := kF BK508.out 0; have hfz405_1 := kF BK508.out 1; have nq406 := kO NB462_443; have nq407 := kO NB462_444; have nq408 := kO NB462_446; have nq409 := kO NB462_447; have nq410 := kO NB462_448; have nq411 := kO NB462_449; have nq412 := kO NB462_450; have nq413 := kO NB462_466; have nq414 := kO NB462_476; have zq415 := c2 BK462; have zq416 := c3 BK471; have nq417 := kO NB443_444; have nq418 := kO NB443_446; have nq419 := kO NB443_447; have nq420 := kO NB443_448; have nq421 := kO NB443_449; have nq422 := kO NB443_450; have nq423 := kO NB443_466; have nq424 := kO NB443_476; have zq425 := c3 BK443; have nq426 := kO NB444_446; have nq427 := kO NB444_447; have nq428 := kO NB444_448; have nq429 := kO NB444_449; have nq430 := kO NB444_450; have nq431 := kO NB444_466; have nq432 := kO NB444_476; have zq433 := c3 BK444))
         go_meet
         case rel => exact ⟨_, H', ⟨by have := HJ16.out; have := HJ173.out; have := HJ274.out; first | omega | exact Nat.le_refl _⟩, ⟨by (with_reducible repeat (first | refine kN ?_ _ | refine kD ?_ | refine kA ?_ _)); refine kR ?_ NB443_508.out _; (with_reducible repeat (first | refine kN ?_ _ | refine kD ?_ | refine kA ?_ _)); refine kR ?_ NB443_508.out _; (with_reducible repeat (first | refine kN ?_ _ | refine kD ?_ | refine kA ?_ _)); exact BK443.out⟩, ⟨by (with_reducible repeat (first | refine kN ?_ _ | refine kD ?_ | refine kA ?_ _)); refine kR ?_ NB444_508.out _; (with_reducible repeat (first | refine kN ?_ _ | refine kD ?_ | refine kA ?_ _)); refine kR ?_ NB444_508.out _; (with_reducible repeat (first | refine kN ?_ _ | refine kD ?_ | refine kA ?_ _)); exact BK444.out⟩, ⟨by (with_reducible repeat (first | refine kN ?_ _ | refine kD ?_ | refine kA ?_ _)); refine kR ?_ NB445_508.out _; (with_reducible repeat (first | refine kN ?_ _ | refine kD ?_ | refine kA ?_ _)); refine kR ?_ NB445_508.out _; (with_reducible repeat (first | refine kN ?_ _ | refine kD ?_ | refine kA ?_ _)); exact BK445.out⟩, ⟨by (with_reducible repeat (first | refine kN ?_ _ | refine kD ?_ | refine kA ?_ _)); refine kR ?_ NB446_508.out _; (with_reducible repeat (first | refine kN ?_ _ | refine kD ?_ | refine kA ?_ _)); refine kR ?_ NB446_508.out _; (with_reducible repeat (first | refine kN ?_ _ | refine kD ?_ | refine kA ?_ _)); exact BK446.out⟩, ⟨by (with_reducible repeat (first | refine kN ?_ _ | refine kD ?_ | refine kA ?_ _)); refine kR ?_ NB447_508.out _; (with_reducible repeat (first | refine kN ?_ _ | refine kD ?_ | refine kA ?_ _)); refine kR ?_ NB447_508.out _; (with_reducible repeat (first | refine kN ?_ _ | refine kD ?_ | refine kA ?_ _)); exact BK447.out⟩, ⟨by (with_reducible repeat (first | refine kN ?_ _ | refine kD ?_ | refine kA ?_ _)); refine kR ?_ NB448_508.out _; (with_reducible repeat (first | refine kN ?_ _ | refine kD ?_ | refine kA ?_ _)); refine kR ?_ NB448_508.out _; (with_reducible repeat (first | refine kN ?_ _ | refine kD ?_ | refine kA ?_ _)); exact BK448.out⟩, ⟨by (with_reducible repeat (first | refine kN ?_ _ | refine kD ?_ | refine kA ?_ _)); refine kR ?_ NB449_508.out _; (with_reducible repeat (first | refine kN ?_ _ | refine kD ?_ | refine kA ?_ _)); refine kR ?_ NB449_508.out _; (with_reducible repeat (first | refine kN ?_ _ | refine kD ?_ | refine kA ?_ _)); exact BK449.out⟩, ⟨by (with_reducible repeat (first | refine kN ?_ _ | refine kD ?_ | refine kA ?_ _)); refine kR ?_ NB450_508.out _; (with_reducible repeat (first | refine kN ?_ _ | refine kD ?_ | refine kA ?_ _)); refine kR ?_ NB450_508.out _; (with_reducible repeat (first | refine kN ?_ _ | refine kD ?_ | refine kA ?_ _)); exact BK450.out⟩, ⟨by (with_reducible repeat (first | refine kN ?_ _ | refine kD ?_ | refine kA ?_ _)); refine kR ?_ NB462_508.out _; (with_reducible repeat (first | refine kN ?_ _ | refine kD ?_ | refine kA ?_ _)); refine kR ?_ NB462_508.out _; (with_reducible repeat (first | refine kN ?_ _ | refine kD ?_ | refine kA ?_ _)); exact BK462.out⟩, ⟨by (with_reducible repeat (first | refine kN ?_ _ | refine kD ?_ | refine kA ?_ _)); refine kR ?_ NB466_508.out _; (with_reducible repeat (first | refine kN ?_ _ | refine kD ?_ | refine kA ?_ _)); refine kR ?_ NB466_508.out _; (with_reducible repeat (first | refine kN ?_ _ | refine kD ?_ | refine kA ?_ _)); exact BK466.out⟩, ⟨by (with_reducible repeat (first | refine kN ?_ _ | refine kD ?_ | refine kA ?_ _)); refine kR ?_ NB471_508.out _; (with_reducible repeat (first | refine kN ?_ _ | refine kD ?_ | refine kA ?_ _)); refine kR ?_ NB471_508.out _; (with_reducible repeat (first | refine kN ?_ _ | refine kD ?_ | refine kA ?_ _)); exact BK471.out⟩, ⟨by (with_reducible repeat (first | refine kN ?_ _ | refine kD ?_ | refine kA ?_ _)); refine kR ?_ NB476_508.out _; (with_reducible repeat (first | refine kN ?_ _ | refine kD ?_ | refine kA ?_ _)); refine kR ?_ NB476_508.out _; (with_reducible repeat (first | refine kN ?_ _ | refine kD ?_ | refine kA ?_ _)); exact BK476.out⟩, ⟨by repeat (first | (with_reducible first | exact HB.out | apply bA | apply bN | apply bD | refine bX ?_ (by assumption)) | exact HB.out)⟩⟩
       rw [if_neg c367] at H
       have c367b0 : (t469 == (wrap64 (a0_2 - a1_2))) = false := beq_eq_false_iff_ne.mpr c367
       have c367b1 : (t469 != (wrap64 (a0_2 - a1_2))) = true := bne_iff_ne.mpr c367
       as_aux_lemma =>
        exact absurd ((Option.some.inj H).trans hlaw.out) (by decide)
      replace c365 := Bool.eq_false_iff.mpr c365
      subst c365
      have H1 : (if t469 = (wrap64 (a0_2 - a1_2)) then (laws_FnHandsAheadOfAll.j6 kj274 a3_0 a3_1 a3_2 a4_0 a4_1 a4_2 a5_0 a5_1 a5_2 a6_0 a6_1 a6_2 a7_0 a7_1) else (some false)) = some r := by rw [if_neg (show ¬ (false = true) by decide)] at H; exact H
      clear H
      have H := H1
      clear H1
      by_cases c434 : t469 = (wrap64 (a0_2 - a1_2))
      ·rw [if_pos c434] at H
       have c434b0 : (t469 == (wrap64 (a0_2 - a1_2))) = true := beq_iff_eq.mpr c434
       have c434b1 : (t469 != (wrap64 (a0_2 - a1_2))) = false := bne_eq_false_iff_eq.mpr c434
       clear c434
       as_aux_lemma =>
        have H' := Am H
        clear H
        have nq435 := kO NB471_443; have nq436 := kO NB471_444; have nq437 := kO NB471_445; have nq438 := kO NB471_446; have nq439 := kO NB471_447; have nq440 := kO NB471_448; have nq441 := kO NB471_449; have nq442 := kO NB471_450; have nq443 := kO NB471_462; have nq444 := kO NB471_466; have nq445 := kO NB471_476
        have zq446 := c3 BK471
        have nq447 := kO NB445_443; have nq448 := kO NB445_444; have nq449 := kO NB445_446; have nq450 := kO NB445_447; have nq451 := kO NB445_448; have nq452 := kO NB445_449; have nq453 := kO NB445_450; have nq454 := kO NB445_462; have nq455 := kO NB445_466; have nq456 := kO NB445_476
        have zq457 := c2 BK445
        go_wp2_with (first | ((with_reducible refine gate_callee (f := 15) rfl ?_); refine gL (some 237) Try.func15 #[.agg #[.int .i64 t467, .int .i64 t468, .int .i64 t469], .agg #[.int .i64 a2_0, .int .i64 a2_1]] rfl ?_; (with_reducible refine (impl_HandAt.calls kj274 t467 t468 t469 a2_0 a2_1 t505 t506 false _ A363.out).mono ?_); rintro e w458 ⟨rfl, hb⟩; refine ⟨_, rfl, ?_⟩; have hp0 := pA BK443 hb; have hv := vK HB hb; have n12_ := Am (bT hv hb); clear HB; replace BK443 := hp0 BK443; replace BK444 := hp0 BK444; replace BK445 := hp0 BK445; replace BK446 := hp0 BK446; replace BK447 := hp0 BK447; replace BK448 := hp0 BK448; replace BK449 := hp0 BK449; replace BK450 := hp0 BK450; replace BK462 := hp0 BK462; replace BK466 := hp0 BK466; replace BK471 := hp0 BK471; replace BK476 := hp0 BK476; have HB := n12_; clear n12_ hp0 hv; (try clear hb)) | ((with_reducible refine gate_dst (N := 43) rfl ?_); (try (refine gate_guard (by rfl) ?_; dsimp only)); refine bE 43 #[.int .i64 0, .int .i64 0] 23 ?_; intro gb508 hg w459 hbox hb; have hp0 := pA BK443 hb; have hv := vK HB hb; have n12_ := Am (bT hv hb); have n13_ := Am (hbox); have GE508 := kG hg hv; have hp1 := pK BK443 hb; obtain ⟨NB443_508, NB508_443⟩ := kXY hg hp1 BK443; obtain ⟨NB444_508, NB508_444⟩ := kXY hg hp1 BK444; obtain ⟨NB445_508, NB508_445⟩ := kXY hg hp1 BK445; obtain ⟨NB446_508, NB508_446⟩ := kXY hg hp1 BK446; obtain ⟨NB447_508, NB508_447⟩ := kXY hg hp1 BK447; obtain ⟨NB448_508, NB508_448⟩ := kXY hg hp1 BK448; obtain ⟨NB449_508, NB508_449⟩ := kXY hg hp1 BK449; obtain ⟨NB450_508, NB508_450⟩ := kXY hg hp1 BK450; obtain ⟨NB462_508, NB508_462⟩ := kXY hg hp1 BK462; obtain ⟨NB466_508, NB508_466⟩ := kXY hg hp1 BK466; obtain ⟨NB471_508, NB508_471⟩ := kXY hg hp1 BK471; obtain ⟨NB476_508, NB508_476⟩ := kXY hg hp1 BK476; clear HB; replace BK443 := hp0 BK443; replace BK444 := hp0 BK444; replace BK445 := hp0 BK445; replace BK446 := hp0 BK446; replace BK447 := hp0 BK447; replace BK448 := hp0 BK448; replace BK449 := hp0 BK449; replace BK450 := hp0 BK450; replace BK462 := hp0 BK462; replace BK466 := hp0 BK466; replace BK471 := hp0 BK471; replace BK476 := hp0 BK476; have HB := n12_; have BK508 := n13_; clear n12_ n13_ hp0 hp1 hv; clear hb hbox hg; have nq460 := kO NB508_443; have nq461 := kO NB508_444; have nq462 := kO NB508_445; have nq463 := kO NB508_446; have nq464 := kO NB508_447; have nq465 := kO NB508_448; have nq466 := kO NB508_449; have nq467 := kO NB508_450; have nq468 := kO NB508_462; have nq469 := kO NB508_466; have nq470 := kO NB508_471; have nq471 := kO NB508_476; have hcz472_0 : w459.cell? ⟨gb508, 0, none⟩ = some (.int .i64 0) := (kC BK508.out 0).trans rfl; have hcz472_1 : w459.cell? ⟨gb508, 1, none⟩ = some (.int .i64 0) := (kC BK508.out 1).trans rfl; have hfz472_0 := kF BK508.out 0; have hfz472_1 := kF BK508.out 1; have zq473 := c3 BK471; have nq474 := kO NB443_444; have nq475 := kO NB443_446; have nq476 := kO NB443_447; have nq477 := kO NB443_448; have nq478 := kO NB443_449; have nq479 := kO NB443_450; have nq480 := kO NB443_462; have nq481 := kO NB443_466; have nq482 := kO NB443_476; have zq483 := c3 BK443; have nq484 := kO NB444_446; have nq485 := kO NB444_447; have nq486 := kO NB444_448; have nq487 := kO NB444_449; have nq488 := kO NB444_450; have nq489 := kO NB444_462; have nq490 := kO NB444_466; have nq491 := kO NB444_476; have zq492 := c3 BK444))
        go_meet
        case rel => exact ⟨_, H', ⟨by have := HJ16.out; have := HJ173.out; have := HJ274.out; first | omega | exact Nat.le_refl _⟩, ⟨by (with_reducible repeat (first | refine kN ?_ _ | refine kD ?_ | refine kA ?_ _)); refine kR ?_ NB443_508.out _; (with_reducible repeat (first | refine kN ?_ _ | refine kD ?_ | refine kA ?_ _)); refine kR ?_ NB443_508.out _; (with_reducible repeat (first | refine kN ?_ _ | refine kD ?_ | refine kA ?_ _)); exact BK443.out⟩, ⟨by (with_reducible repeat (first | refine kN ?_ _ | refine kD ?_ | refine kA ?_ _)); refine kR ?_ NB444_508.out _; (with_reducible repeat (first | refine kN ?_ _ | refine kD ?_ | refine kA ?_ _)); refine kR ?_ NB444_508.out _; (with_reducible repeat (first | refine kN ?_ _ | refine kD ?_ | refine kA ?_ _)); exact BK444.out⟩, ⟨by (with_reducible repeat (first | refine kN ?_ _ | refine kD ?_ | refine kA ?_ _)); refine kR ?_ NB445_508.out _; (with_reducible repeat (first | refine kN ?_ _ | refine kD ?_ | refine kA ?_ _)); refine kR ?_ NB445_508.out _; (with_reducible repeat (first | refine kN ?_ _ | refine kD ?_ | refine kA ?_ _)); exact BK445.out⟩, ⟨by (with_reducible repeat (first | refine kN ?_ _ | refine kD ?_ | refine kA ?_ _)); refine kR ?_ NB446_508.out _; (with_reducible repeat (first | refine kN ?_ _ | refine kD ?_ | refine kA ?_ _)); refine kR ?_ NB446_508.out _; (with_reducible repeat (first | refine kN ?_ _ | refine kD ?_ | refine kA ?_ _)); exact BK446.out⟩, ⟨by (with_reducible repeat (first | refine kN ?_ _ | refine kD ?_ | refine kA ?_ _)); refine kR ?_ NB447_508.out _; (with_reducible repeat (first | refine kN ?_ _ | refine kD ?_ | refine kA ?_ _)); refine kR ?_ NB447_508.out _; (with_reducible repeat (first | refine kN ?_ _ | refine kD ?_ | refine kA ?_ _)); exact BK447.out⟩, ⟨by (with_reducible repeat (first | refine kN ?_ _ | refine kD ?_ | refine kA ?_ _)); refine kR ?_ NB448_508.out _; (with_reducible repeat (first | refine kN ?_ _ | refine kD ?_ | refine kA ?_ _)); refine kR ?_ NB448_508.out _; (with_reducible repeat (first | refine kN ?_ _ | refine kD ?_ | refine kA ?_ _)); exact BK448.out⟩, ⟨by (with_reducible repeat (first | refine kN ?_ _ | refine kD ?_ | refine kA ?_ _)); refine kR ?_ NB449_508.out _; (with_reducible repeat (first | refine kN ?_ _ | refine kD ?_ | refine kA ?_ _)); refine kR ?_ NB449_508.out _; (with_reducible repeat (first | refine kN ?_ _ | refine kD ?_ | refine kA ?_ _)); exact BK449.out⟩, ⟨by (with_reducible repeat (first | refine kN ?_ _ | refine kD ?_ | refine kA ?_ _)); refine kR ?_ NB450_508.out _; (with_reducible repeat (first | refine kN ?_ _ | refine kD ?_ | refine kA ?_ _)); refine kR ?_ NB450_508.out _; (with_reducible repeat (first | refine kN ?_ _ | refine kD ?_ | refine kA ?_ _)); exact BK450.out⟩, ⟨by (with_reducible repeat (first | refine kN ?_ _ | refine kD ?_ | refine kA ?_ _)); refine kR ?_ NB462_508.out _; (with_reducible repeat (first | refine kN ?_ _ | refine kD ?_ | refine kA ?_ _)); refine kR ?_ NB462_508.out _; (with_reducible repeat (first | refine kN ?_ _ | refine kD ?_ | refine kA ?_ _)); exact BK462.out⟩, ⟨by (with_reducible repeat (first | refine kN ?_ _ | refine kD ?_ | refine kA ?_ _)); refine kR ?_ NB466_508.out _; (with_reducible repeat (first | refine kN ?_ _ | refine kD ?_ | refine kA ?_ _)); refine kR ?_ NB466_508.out _; (with_reducible repeat (first | refine kN ?_ _ | refine kD ?_ | refine kA ?_ _)); exact BK466.out⟩, ⟨by (with_reducible repeat (first | refine kN ?_ _ | refine kD ?_ | refine kA ?_ _)); refine kR ?_ NB471_508.out _; (with_reducible repeat (first | refine kN ?_ _ | refine kD ?_ | refine kA ?_ _)); refine kR ?_ NB471_508.out _; (with_reducible repeat (first | refine kN ?_ _ | refine kD ?_ | refine kA ?_ _)); exact BK471.out⟩, ⟨by (with_reducible repeat (first | refine kN ?_ _ | refine kD ?_ | refine kA ?_ _)); refine kR ?_ NB476_508.out _; (with_reducible repeat (first | refine kN ?_ _ | refine kD ?_ | refine kA ?_ _)); refine kR ?_ NB476_508.out _; (with_reducible repeat (first | refine kN ?_ _ | refine kD ?_ | refine kA ?_ _)); exact BK476.out⟩, ⟨by repeat (first | (with_reducible first | exact HB.out | apply bA | apply bN | apply bD | refine bX ?_ (by assumption)) | exact HB.out)⟩⟩
      rw [if_neg c434] at H
      have c434b0 : (t469 == (wrap64 (a0_2 - a1_2))) = false := beq_eq_false_iff_ne.mpr c434
      have c434b1 : (t469 != (wrap64 (a0_2 - a1_2))) = true := bne_iff_ne.mpr c434
      as_aux_lemma =>
       exact absurd ((Option.some.inj H).trans hlaw.out) (by decide)
     replace c362 := Bool.eq_false_iff.mpr c362
     subst c362
     have H1 : (laws_FnHandsAheadOfAll.j6 kj274 a3_0 a3_1 a3_2 a4_0 a4_1 a4_2 a5_0 a5_1 a5_2 a6_0 a6_1 a6_2 a7_0 a7_1) = some r := by rw [if_neg (show ¬ (false = true) by decide)] at H; exact H
     clear H
     have H := H1
     clear H1
     as_aux_lemma =>
      have H' := Am H
      clear H
      go_wp2
      go_meet
      case rel =>
       refine ⟨_, H', ⟨by have := HJ16.out; have := HJ173.out; have := HJ274.out; first | omega | exact Nat.le_refl _⟩, ⟨?_⟩, ⟨?_⟩, ⟨?_⟩, ⟨?_⟩, ⟨?_⟩, ⟨?_⟩, ⟨?_⟩, ⟨?_⟩, ⟨?_⟩, ⟨?_⟩, ⟨?_⟩, ⟨?_⟩, ⟨by repeat (first | (with_reducible first | exact HB.out | apply bA | apply bN | apply bD | refine bX ?_ (by assumption)) | exact HB.out)⟩⟩
       all_goals ((with_reducible repeat (first | refine kN ?_ _ | refine kD ?_ | refine kA ?_ _)); exact Aside0.out (by assumption))
    clear HC361
    (try clear c20); (try clear c21); (try clear c30); (try clear c31); (try clear c32); (try clear zq111); (try clear zq112); (try clear zq113); (try clear zq115); (try clear zq116); (try clear zq33); (try clear zq40); (try clear zq46); (try clear zq48); (try clear zq49); (try clear zq50); (try clear zq52); (try clear zq53); (try clear zq54); (try clear zq65); (try clear zq66); (try clear zq67); (try clear zq68); (try clear zq80); (try clear zq81); (try clear zq82); (try clear zq95); (try clear zq96); (try clear zq97)
    obtain ⟨kq, HA, HJ360, BK443, BK444, BK445, BK446, BK447, BK448, BK449, BK450, BK462, BK466, BK471, BK476, HB⟩ := hcut
    cases kq with
    | zero => exact absurd HA.out (by simp [laws_FnHandsAheadOfAll.j6])
    | succ kj360 =>
     have H := HA.out
     clear HA
     simp only [laws_FnHandsAheadOfAll.j6] at H
     replace H := Option.bind_eq_some_iff.mp H
     obtain ⟨⟨t509, t512⟩, A4930, H⟩ := H
     try dsimp only at H
     have A493 := Am A4930
     clear A4930
     replace H := Option.bind_eq_some_iff.mp H
     obtain ⟨⟨t513, t516⟩, A4940, H⟩ := H
     try dsimp only at H
     have A494 := Am A4940
     clear A4940
     have HC495 := Am H
     clear H
     have nq496 := kO NB446_443; have nq497 := kO NB446_444; have nq498 := kO NB446_445; have nq499 := kO NB446_447; have nq500 := kO NB446_448; have nq501 := kO NB446_449; have nq502 := kO NB446_450; have nq503 := kO NB446_462; have nq504 := kO NB446_466; have nq505 := kO NB446_471; have nq506 := kO NB446_476
     have zq507 := c3 BK446
     have nq508 := kO NB447_443; have nq509 := kO NB447_444; have nq510 := kO NB447_445; have nq511 := kO NB447_448; have nq512 := kO NB447_449; have nq513 := kO NB447_450; have nq514 := kO NB447_462; have nq515 := kO NB447_466; have nq516 := kO NB447_471; have nq517 := kO NB447_476
     have zq518 := c3 BK447
     have nq519 := kO NB448_443; have nq520 := kO NB448_444; have nq521 := kO NB448_445; have nq522 := kO NB448_449; have nq523 := kO NB448_450; have nq524 := kO NB448_462; have nq525 := kO NB448_466; have nq526 := kO NB448_471; have nq527 := kO NB448_476
     have zq528 := c3 BK448
     go_upto_region 36 with (first | ((with_reducible refine gate_callee (f := 16) rfl ?_); refine gL (some 265) Try.func16 #[.agg #[.int .i64 a3_0, .int .i64 a3_1, .int .i64 a3_2], .agg #[.int .i64 a4_0, .int .i64 a4_1, .int .i64 a4_2], .agg #[.int .i64 a5_0, .int .i64 a5_1, .int .i64 a5_2]] rfl ?_; (with_reducible refine (impl_ThreeMeet.calls kj360 a3_0 a3_1 a3_2 a4_0 a4_1 a4_2 a5_0 a5_1 a5_2 t509 t512 _ A493.out).mono ?_); rintro e w529 ⟨v510, rfl, ho0, hb⟩; refine ⟨_, rfl, ?_⟩; have n0_ := Am (Kd.R_lower (Kd.R_newB (Kd.R_newB (Kd.R_newB (Kd.R_newB ho0 (g := gb445) (o := .cells #[.int .i64 a2_0, .int .i64 a2_1] 23 (0, 0)) (kU BK445)) (g := gb450) (o := .cells #[.int .i64 a7_0, .int .i64 a7_1] 23 (0, 0)) (kU BK450)) (g := gb462) (o := .cells #[.int .i64 t459, .int .i64 t460] 23 (0, 0)) (kU BK462)) (g := gb466) (o := .cells #[.int .i64 t463, .int .i64 t464] 23 (0, 0)) (kU BK466)) (bZ (by repeat (first | (with_reducible first | exact HB.out | apply bA | apply bN | apply bD | refine bX ?_ (by assumption)) | exact HB.out)))); have hp0 := pA BK443 hb; have hv := vK HB hb; have n13_ := Am (bT hv hb); clear HB; have HO511 := n0_; replace BK443 := hp0 BK443; replace BK444 := hp0 BK444; replace BK445 := hp0 BK445; replace BK446 := hp0 BK446; replace BK447 := hp0 BK447; replace BK448 := hp0 BK448; replace BK449 := hp0 BK449; replace BK450 := hp0 BK450; replace BK462 := hp0 BK462; replace BK466 := hp0 BK466; replace BK471 := hp0 BK471; replace BK476 := hp0 BK476; have HB := n13_; clear n0_ n13_ hp0 hv; (try clear hb); (try clear ho0); have zq530 := c3 BK446; have zq531 := c3 BK447; have zq532 := c3 BK448) | ((with_reducible refine gate_callee (f := 17) rfl ?_); refine gL (some 272) Try.func17 #[.agg #[.int .i64 a3_0, .int .i64 a3_1, .int .i64 a3_2], .agg #[.int .i64 a4_0, .int .i64 a4_1, .int .i64 a4_2], .agg #[.int .i64 a5_0, .int .i64 a5_1, .int .i64 a5_2]] rfl ?_; (with_reducible refine (spec_ThreeMeet.calls kj360 a3_0 a3_1 a3_2 a4_0 a4_1 a4_2 a5_0 a5_1 a5_2 t513 t516 _ A494.out).mono ?_); rintro e w533 ⟨v514, rfl, ho0, hb⟩; refine ⟨_, rfl, ?_⟩; have n0_ := Am (Kd.R_elder' (kW HO511) (Kd.R_base ho0) hb); have n1_ := Am (Kd.R_lower (Kd.R_newB (Kd.R_newB (Kd.R_newB (Kd.R_newB (Kd.R_new' ho0 (Kd.R_lt (kW HO511))) (g := gb445) (o := .cells #[.int .i64 a2_0, .int .i64 a2_1] 23 (0, 0)) (kU BK445)) (g := gb450) (o := .cells #[.int .i64 a7_0, .int .i64 a7_1] 23 (0, 0)) (kU BK450)) (g := gb462) (o := .cells #[.int .i64 t459, .int .i64 t460] 23 (0, 0)) (kU BK462)) (g := gb466) (o := .cells #[.int .i64 t463, .int .i64 t464] 23 (0, 0)) (kU BK466)) (bZ (by repeat (first | (with_reducible first | exact HB.out | apply bA | apply bN | apply bD | refine bX ?_ (by assumption)) | exact HB.out)))); have hp0 := pA BK443 hb; have hv := vK HB hb; have n14_ := Am (bT hv hb); clear HO511; clear HB; have HO511 := n0_; have HO515 := n1_; replace BK443 := hp0 BK443; replace BK444 := hp0 BK444; replace BK445 := hp0 BK445; replace BK446 := hp0 BK446; replace BK447 := hp0 BK447; replace BK448 := hp0 BK448; replace BK449 := hp0 BK449; replace BK450 := hp0 BK450; replace BK462 := hp0 BK462; replace BK466 := hp0 BK466; replace BK471 := hp0 BK471; replace BK476 := hp0 BK476; have HB := n14_; clear n0_ n1_ n14_ hp0 hv; (try clear hb); (try clear ho0)))
     (try simp only [Act.put, List.setIfInBounds_toArray, List.set_cons_zero, List.set_cons_succ])
     go_cut [283] from 234 to 282 (fun v283 wc => ∃ (kq : Nat) (x283_494 : Bool), v283 = .bool x283_494 ∧ Aside0 (laws_FnHandsAheadOfAll.j7 kq t509 t512 x283_494 a3_0 a3_1 a3_2 a4_0 a4_1 a4_2 a5_0 a5_1 a5_2 a6_0 a6_1 a6_2 a7_0 a7_1 = some r) ∧ Aside0 (kq ≤ kj360) ∧ Aside0 (Kd.R k23 23 wc w.heap.size (fun k_ => k_ ≠ gb445 ∧ k_ ≠ gb450 ∧ k_ ≠ gb462 ∧ k_ ≠ gb466) v510 t509) ∧ Aside0 (wc.heap[gb443]? = some (.cells #[.int .i64 a0_0, .int .i64 a0_1, .int .i64 a0_2] 25 (0, 0))) ∧ Aside0 (wc.heap[gb444]? = some (.cells #[.int .i64 a1_0, .int .i64 a1_1, .int .i64 a1_2] 25 (0, 0))) ∧ Aside0 (wc.heap[gb445]? = some (.cells #[.int .i64 a2_0, .int .i64 a2_1] 23 (0, 0))) ∧ Aside0 (wc.heap[gb446]? = some (.cells #[.int .i64 a3_0, .int .i64 a3_1, .int .i64 a3_2] 25 (0, 0))) ∧ Aside0 (wc.heap[gb447]? = some (.cells #[.int .i64 a4_0, .int .i64 a4_1, .int .i64 a4_2] 25 (0, 0))) ∧ Aside0 (wc.heap[gb448]? = some (.cells #[.int .i64 a5_0, .int .i64 a5_1, .int .i64 a5_2] 25 (0, 0))) ∧ Aside0 (wc.heap[gb449]? = some (.cells #[.int .i64 a6_0, .int .i64 a6_1, .int .i64 a6_2] 25 (0, 0))) ∧ Aside0 (wc.heap[gb450]? = some (.cells #[.int .i64 a7_0, .int .i64 a7_1] 23 (0, 0))) ∧ Aside0 (wc.heap[gb462]? = some (.cells #[.int .i64 t459, .int .i64 t460] 23 (0, 0))) ∧ Aside0 (wc.heap[gb466]? = some (.cells #[.int .i64 t463, .int .i64 t464] 23 (0, 0))) ∧ Aside0 (wc.heap[gb471]? = some (.cells #[.int .i64 t467, .int .i64 t468, .int .i64 t469] 25 (0, 0))) ∧ Aside0 (wc.heap[gb476]? = some (.cells #[.int .i64 t472, .int .i64 t473, .int .i64 t474] 25 (0, 0))) ∧ Aside0 (Below w.heap.size w wc))
     case first =>
      have H := HC495.out
      clear HC495
      by_cases c534 : (t512 != t516) = true
      ·rw [if_pos c534] at H
       have c534b0 : (t512 != t516) = true := c534
       (try (have c534b1 : decide (t512 = t516) = false := by simpa using c534))
       (try (have c534b2 : (t512 == t516) = false := by simpa using c534))
       (try (have c534b3 : ¬ (t512 = t516) := by simpa using c534))
       clear c534
       (first | rw [c534b0] | (simp only [i64_w, i32_w]; rw [c534b0]) | skip)
       as_aux_lemma =>
        exact absurd ((laws_FnHandsAheadOfAll.j7_no H).symm.trans hlaw.out) (by decide)
      rw [if_neg c534] at H
      have c534b0 : (t512 != t516) = false := by simpa using c534
      (try (have c534b1 : decide (t512 = t516) = true := by simpa using c534))
      (try (have c534b2 : (t512 == t516) = true := by simpa using c534))
      clear c534
      (first | rw [c534b0] | (simp only [i64_w, i32_w]; rw [c534b0]) | skip)
      replace H := Option.bind_eq_some_iff.mp H
      obtain ⟨t517, A5350, H⟩ := H
      try dsimp only at H
      have A535 := Am A5350
      clear A5350
      as_aux_lemma =>
       have H' := Am H
       clear H
       obtain ⟨Ao536, co536, eo536⟩ := Kd.R_slice HO511.out
       subst eo536
       obtain ⟨Ao537, co537, eo537⟩ := Kd.R_slice HO515.out
       subst eo537
       go_wp2_with (first | (go_at_call 12; (with_reducible refine (laws_kTurns.calls kj360 _ _ t509 _ _ t513 t517 _ ?side1 ?side2 ?side3 ?side4 A535.out).mono ?_); (case side1 => repeat (first | exact (Kd.R_reads' HO511.out).2.2 | (with_reducible refine Kd.C_alloc ?_ _) | (with_reducible refine Kd.C_drewN ?_ _) | (with_reducible refine Kd.C_drew ?_))); (case side2 => exact (Kd.R_reads' HO511.out).2.1); (case side3 => repeat (first | exact (Kd.R_reads' HO515.out).2.2 | (with_reducible refine Kd.C_alloc ?_ _) | (with_reducible refine Kd.C_drewN ?_ _) | (with_reducible refine Kd.C_drew ?_))); (case side4 => exact (Kd.R_reads' HO515.out).2.1); rintro e w' ⟨rfl, ⟨nd, rfl⟩⟩))
       go_meet
       case rel =>
        refine ⟨_, (!t517), (by first | rfl | (simp; done) | (simp [*]; done)), H', ⟨by have := HJ16.out; have := HJ173.out; have := HJ274.out; have := HJ360.out; first | omega | exact Nat.le_refl _⟩, ⟨by (with_reducible repeat (first | apply Kd.R_alloc | apply Kd.R_drewN | apply Kd.R_drew)); exact Kd.R_mono HO511.out (fun _ hk => ⟨hk.1.1.1.1.2, ⟨hk.1.1.1.2, ⟨hk.1.1.2, hk.1.2⟩⟩⟩)⟩, ⟨?_⟩, ⟨?_⟩, ⟨?_⟩, ⟨?_⟩, ⟨?_⟩, ⟨?_⟩, ⟨?_⟩, ⟨?_⟩, ⟨?_⟩, ⟨?_⟩, ⟨?_⟩, ⟨?_⟩, ⟨by repeat (first | (with_reducible first | exact HB.out | apply bA | apply bN | apply bD | refine bX ?_ (by assumption)) | exact HB.out)⟩⟩
        all_goals ((with_reducible repeat (first | refine kN ?_ _ | refine kD ?_ | refine kA ?_ _)); exact Aside0.out (by assumption))
     clear HC495
     (try clear c32); (try clear zq111); (try clear zq112); (try clear zq113); (try clear zq115); (try clear zq116); (try clear zq33); (try clear zq40); (try clear zq46); (try clear zq48); (try clear zq49); (try clear zq507); (try clear zq50); (try clear zq518); (try clear zq528); (try clear zq52); (try clear zq530); (try clear zq531); (try clear zq532); (try clear zq53); (try clear zq54); (try clear zq65); (try clear zq66); (try clear zq67); (try clear zq68); (try clear zq80); (try clear zq81); (try clear zq82); (try clear zq95); (try clear zq96); (try clear zq97)
     obtain ⟨kq, x283_494, rfl, HA, HJ494, HO_45, BK443, BK444, BK445, BK446, BK447, BK448, BK449, BK450, BK462, BK466, BK471, BK476, HB⟩ := hcut
     cases kq with
     | zero => exact absurd HA.out (by simp [laws_FnHandsAheadOfAll.j7])
     | succ kj494 =>
      have H := HA.out
      clear HA
      simp only [laws_FnHandsAheadOfAll.j7] at H
      by_cases c538 : x283_494 = true
      ·subst c538
       have H1 : (some false) = some r := by rw [if_pos rfl] at H; exact H
       clear H
       have H := H1
       clear H1
       as_aux_lemma =>
        exact absurd ((Option.some.inj H).trans hlaw.out) (by decide)
      replace c538 := Bool.eq_false_iff.mpr c538
      subst c538
      have H1 : (if t512 = true then ((impl_MeetTimes.f kj494 a3_0 a3_1 a3_2 a4_0 a4_1 a4_2).bind fun bt518 => (if bt518.2 = true then (laws_FnHandsAheadOfAll.l2 kj494 t509 bt518.1 bt518.1 (bt518.1.length : Int) 0 a3_0 a3_1 a3_2 a5_0 a5_1 a5_2 a6_0 a6_1 a6_2 a7_0 a7_1) else (some false))) else (laws_FnHandsAheadOfAll.j9 kj494 a6_0 a6_1 a6_2 a7_0 a7_1)) = some r := by rw [if_neg (show ¬ (false = true) by decide)] at H; exact H
      clear H
      have H := H1
      clear H1
      have HC539 := Am H
      clear H
      go_upto_if 284 with (fail)
      go_cut [] from 284 to 284 (fun wc => ∃ (kq : Nat), Aside0 (laws_FnHandsAheadOfAll.j9 kq a6_0 a6_1 a6_2 a7_0 a7_1 = some r) ∧ Aside0 (kq ≤ kj494) ∧ Aside0 (wc.heap[gb443]? = some (.cells #[.int .i64 a0_0, .int .i64 a0_1, .int .i64 a0_2] 25 (0, 0))) ∧ Aside0 (wc.heap[gb444]? = some (.cells #[.int .i64 a1_0, .int .i64 a1_1, .int .i64 a1_2] 25 (0, 0))) ∧ Aside0 (wc.heap[gb445]? = some (.cells #[.int .i64 a2_0, .int .i64 a2_1] 23 (0, 0))) ∧ Aside0 (wc.heap[gb446]? = some (.cells #[.int .i64 a3_0, .int .i64 a3_1, .int .i64 a3_2] 25 (0, 0))) ∧ Aside0 (wc.heap[gb447]? = some (.cells #[.int .i64 a4_0, .int .i64 a4_1, .int .i64 a4_2] 25 (0, 0))) ∧ Aside0 (wc.heap[gb448]? = some (.cells #[.int .i64 a5_0, .int .i64 a5_1, .int .i64 a5_2] 25 (0, 0))) ∧ Aside0 (wc.heap[gb449]? = some (.cells #[.int .i64 a6_0, .int .i64 a6_1, .int .i64 a6_2] 25 (0, 0))) ∧ Aside0 (wc.heap[gb450]? = some (.cells #[.int .i64 a7_0, .int .i64 a7_1] 23 (0, 0))) ∧ Aside0 (wc.heap[gb462]? = some (.cells #[.int .i64 t459, .int .i64 t460] 23 (0, 0))) ∧ Aside0 (wc.heap[gb466]? = some (.cells #[.int .i64 t463, .int .i64 t464] 23 (0, 0))) ∧ Aside0 (wc.heap[gb471]? = some (.cells #[.int .i64 t467, .int .i64 t468, .int .i64 t469] 25 (0, 0))) ∧ Aside0 (wc.heap[gb476]? = some (.cells #[.int .i64 t472, .int .i64 t473, .int .i64 t474] 25 (0, 0))) ∧ Aside0 (Below w.heap.size w wc))
      case first =>
       have H := HC539.out
       clear HC539
       by_cases c540 : t512 = true
       ·subst c540
        have H1 : ((impl_MeetTimes.f kj494 a3_0 a3_1 a3_2 a4_0 a4_1 a4_2).bind fun bt518 => (if bt518.2 = true then (laws_FnHandsAheadOfAll.l2 kj494 t509 bt518.1 bt518.1 (bt518.1.length : Int) 0 a3_0 a3_1 a3_2 a5_0 a5_1 a5_2 a6_0 a6_1 a6_2 a7_0 a7_1) else (some false))) = some r := by rw [if_pos rfl] at H; exact H
        clear H
        have H := H1
        clear H1
        replace H := Option.bind_eq_some_iff.mp H
        obtain ⟨⟨t518, t521⟩, A5410, H⟩ := H
        try dsimp only at H
        have A541 := Am A5410
        clear A5410
        by_cases c542 : t521 = true
        ·subst c542
         have H1 : (laws_FnHandsAheadOfAll.l2 kj494 t509 t518 t518 (t518.length : Int) 0 a3_0 a3_1 a3_2 a5_0 a5_1 a5_2 a6_0 a6_1 a6_2 a7_0 a7_1) = some r := by rw [if_pos rfl] at H; exact H
         clear H
         have H := H1
         clear H1
         have H' := Am H
         clear H
         have nq543 := kO NB446_443; have nq544 := kO NB446_444; have nq545 := kO NB446_445; have nq546 := kO NB446_447; have nq547 := kO NB446_448; have nq548 := kO NB446_449; have nq549 := kO NB446_450; have nq550 := kO NB446_462; have nq551 := kO NB446_466; have nq552 := kO NB446_471; have nq553 := kO NB446_476
         have zq554 := c3 BK446
         have nq555 := kO NB447_443; have nq556 := kO NB447_444; have nq557 := kO NB447_445; have nq558 := kO NB447_448; have nq559 := kO NB447_449; have nq560 := kO NB447_450; have nq561 := kO NB447_462; have nq562 := kO NB447_466; have nq563 := kO NB447_471; have nq564 := kO NB447_476
         have zq565 := c3 BK447
         go_wp2_with (first | ((with_reducible refine gate_callee (f := 18) rfl ?_); refine gL (some 288) Try.func18 #[.agg #[.int .i64 a3_0, .int .i64 a3_1, .int .i64 a3_2], .agg #[.int .i64 a4_0, .int .i64 a4_1, .int .i64 a4_2]] rfl ?_; (with_reducible refine (impl_MeetTimes.calls kj494 a3_0 a3_1 a3_2 a4_0 a4_1 a4_2 t518 true _ A541.out).mono ?_); rintro e w566 ⟨v519, rfl, ho0, hb⟩; refine ⟨_, rfl, ?_⟩; have n0_ := Am (Kd.R_elder' (kW HO_45) (Kd.R_base ho0) hb); have n1_ := Am (Kd.R_lower (Kd.R_newB (Kd.R_newB (Kd.R_newB (Kd.R_newB (Kd.R_new' ho0 (Kd.R_lt (kW HO_45))) (g := gb445) (o := .cells #[.int .i64 a2_0, .int .i64 a2_1] 23 (0, 0)) (kU BK445)) (g := gb450) (o := .cells #[.int .i64 a7_0, .int .i64 a7_1] 23 (0, 0)) (kU BK450)) (g := gb462) (o := .cells #[.int .i64 t459, .int .i64 t460] 23 (0, 0)) (kU BK462)) (g := gb466) (o := .cells #[.int .i64 t463, .int .i64 t464] 23 (0, 0)) (kU BK466)) (bZ (by repeat (first | (with_reducible first | exact HB.out | apply bA | apply bN | apply bD | refine bX ?_ (by assumption)) | exact HB.out)))); have hp0 := pA BK443 hb; have hv := vK HB hb; have n14_ := Am (bT hv hb); clear HO_45; clear HB; have HO_45 := n0_; have HO520 := n1_; replace BK443 := hp0 BK443; replace BK444 := hp0 BK444; replace BK445 := hp0 BK445; replace BK446 := hp0 BK446; replace BK447 := hp0 BK447; replace BK448 := hp0 BK448; replace BK449 := hp0 BK449; replace BK450 := hp0 BK450; replace BK462 := hp0 BK462; replace BK466 := hp0 BK466; replace BK471 := hp0 BK471; replace BK476 := hp0 BK476; have HB := n14_; clear n0_ n1_ n14_ hp0 hv; (try clear hb); (try clear ho0); obtain ⟨Ao567, co567, eo567⟩ := Kd.R_slice HO520.out; subst eo567))
         go_loopg [295] kj494 (fun kq v295 w' => ∃ (x295_6 : Int), v295 = .int .i64 x295_6 ∧ Aside0 (laws_FnHandsAheadOfAll.l2 kq t509 t518 t518 (t518.length : Int) x295_6 a3_0 a3_1 a3_2 a5_0 a5_1 a5_2 a6_0 a6_1 a6_2 a7_0 a7_1 = some r) ∧ Aside0 (kq ≤ kj494) ∧ Aside0 (Kd.R k23 23 w' w.heap.size (fun k_ => some k_ ≠ ((.slice Ao567 t518.length co567) : Value).ownBlock ∧ some k_ ≠ ((.slice Ao567 t518.length co567) : Value).ownBlock ∧ k_ ≠ gb445 ∧ k_ ≠ gb450 ∧ k_ ≠ gb462 ∧ k_ ≠ gb466) v510 t509) ∧ Aside0 (Kd.R k23 23 w' w.heap.size (fun k_ => some k_ ≠ (v510 : Value).ownBlock ∧ k_ ≠ gb445 ∧ k_ ≠ gb450 ∧ k_ ≠ gb462 ∧ k_ ≠ gb466) (.slice Ao567 t518.length co567) t518) ∧ Aside0 (Kd.R k23 23 w' w.heap.size (fun k_ => some k_ ≠ (v510 : Value).ownBlock ∧ k_ ≠ gb445 ∧ k_ ≠ gb450 ∧ k_ ≠ gb462 ∧ k_ ≠ gb466) (.slice Ao567 t518.length co567) t518) ∧ Aside0 (w'.heap[gb443]? = some (.cells #[.int .i64 a0_0, .int .i64 a0_1, .int .i64 a0_2] 25 (0, 0))) ∧ Aside0 (w'.heap[gb444]? = some (.cells #[.int .i64 a1_0, .int .i64 a1_1, .int .i64 a1_2] 25 (0, 0))) ∧ Aside0 (w'.heap[gb445]? = some (.cells #[.int .i64 a2_0, .int .i64 a2_1] 23 (0, 0))) ∧ Aside0 (w'.heap[gb446]? = some (.cells #[.int .i64 a3_0, .int .i64 a3_1, .int .i64 a3_2] 25 (0, 0))) ∧ Aside0 (w'.heap[gb447]? = some (.cells #[.int .i64 a4_0, .int .i64 a4_1, .int .i64 a4_2] 25 (0, 0))) ∧ Aside0 (w'.heap[gb448]? = some (.cells #[.int .i64 a5_0, .int .i64 a5_1, .int .i64 a5_2] 25 (0, 0))) ∧ Aside0 (w'.heap[gb449]? = some (.cells #[.int .i64 a6_0, .int .i64 a6_1, .int .i64 a6_2] 25 (0, 0))) ∧ Aside0 (w'.heap[gb450]? = some (.cells #[.int .i64 a7_0, .int .i64 a7_1] 23 (0, 0))) ∧ Aside0 (w'.heap[gb462]? = some (.cells #[.int .i64 t459, .int .i64 t460] 23 (0, 0))) ∧ Aside0 (w'.heap[gb466]? = some (.cells #[.int .i64 t463, .int .i64 t464] 23 (0, 0))) ∧ Aside0 (w'.heap[gb471]? = some (.cells #[.int .i64 t467, .int .i64 t468, .int .i64 t469] 25 (0, 0))) ∧ Aside0 (w'.heap[gb476]? = some (.cells #[.int .i64 t472, .int .i64 t473, .int .i64 t474] 25 (0, 0))) ∧ Aside0 (Below w.heap.size w w'))
         case atStart => exact ⟨(0), (by first | rfl | (simp; done) | (simp [*]; done)), H', ⟨Nat.le_refl _⟩, ⟨by (with_reducible repeat (first | apply Kd.R_alloc | apply Kd.R_drewN | apply Kd.R_drew)); exact Kd.R_mono HO_45.out (fun _ hk => ⟨hk.2, ⟨hk.2, ⟨hk.1.1, ⟨hk.1.2.1, ⟨hk.1.2.2.1, hk.1.2.2.2⟩⟩⟩⟩⟩)⟩, ⟨by (with_reducible repeat (first | apply Kd.R_alloc | apply Kd.R_drewN | apply Kd.R_drew)); exact Kd.R_mono HO520.out (fun _ hk => ⟨hk.1.1.1.1.2, ⟨hk.1.1.1.2, ⟨hk.1.1.2, ⟨hk.1.2, hk.2⟩⟩⟩⟩)⟩, ⟨by (with_reducible repeat (first | apply Kd.R_alloc | apply Kd.R_drewN | apply Kd.R_drew)); exact Kd.R_mono HO520.out (fun _ hk => ⟨hk.1.1.1.1.2, ⟨hk.1.1.1.2, ⟨hk.1.1.2, ⟨hk.1.2, hk.2⟩⟩⟩⟩)⟩, kV BK443, kV BK444, kV BK445, kV BK446, kV BK447, kV BK448, kV BK449, kV BK450, kV BK462, kV BK466, kV BK471, kV BK476, ⟨by repeat (first | (with_reducible first | exact HB.out | apply bA | apply bN | apply bD | refine bX ?_ (by assumption)) | exact HB.out)⟩⟩
         case round =>
          clear H'
          (try clear c538); (try clear c540); (try clear c542); (try clear zq111); (try clear zq112); (try clear zq113); (try clear zq115); (try clear zq116); (try clear zq33); (try clear zq40); (try clear zq46); (try clear zq48); (try clear zq49); (try clear zq507); (try clear zq50); (try clear zq518); (try clear zq528); (try clear zq52); (try clear zq530); (try clear zq531); (try clear zq532); (try clear zq53); (try clear zq54); (try clear zq554); (try clear zq565); (try clear zq65); (try clear zq66); (try clear zq67); (try clear zq68); (try clear zq80); (try clear zq81); (try clear zq82); (try clear zq95); (try clear zq96); (try clear zq97)
          obtain ⟨x295_6, rfl, HA, HK6, HO_45, HO_49, HO_293, BK443, BK444, BK445, BK446, BK447, BK448, BK449, BK450, BK462, BK466, BK471, BK476, HB⟩ := hrel
          cases gk with
          | zero => exact absurd HA.out (by simp [laws_FnHandsAheadOfAll.l2])
          | succ k6 =>
           have H := HA.out
           clear HA
           simp only [laws_FnHandsAheadOfAll.l2] at H
           by_cases c568 : x295_6 < (t518.length : Int)
           ·rw [if_pos c568] at H
            have c568b0 : decide (x295_6 < (t518.length : Int)) = true := decide_eq_true c568
            clear c568
            (first | rw [c568b0] | (simp only [i64_w, i32_w]; rw [c568b0]) | skip)
            by_cases c569 : 0 ≤ x295_6
            ·rw [if_pos c569] at H
             have c569b0 : decide (0 ≤ x295_6) = true := decide_eq_true c569
             clear c569
             by_cases c570 : x295_6 < (t518.length : Int)
             ·rw [if_pos c570] at H
              have c570b0 : decide (x295_6 < (t518.length : Int)) = true := decide_eq_true c570
              clear c570
              replace H := Option.bind_eq_some_iff.mp H
              obtain ⟨⟨t525, t526, t527⟩, A5710, H⟩ := H
              try dsimp only at H
              have A571 := Am A5710
              clear A5710
              replace H := Option.bind_eq_some_iff.mp H
              obtain ⟨t529, A5720, H⟩ := H
              try dsimp only at H
              have A572 := Am A5720
              clear A5720
              by_cases c573 : t527 = true
              ·subst c573
               have H1 : (if (t529 != (t525 == 0)) = true then (some false) else (laws_FnHandsAheadOfAll.l2 k6 t509 t518 t518 (t518.length : Int) (wrap64 (x295_6 + 1)) a3_0 a3_1 a3_2 a5_0 a5_1 a5_2 a6_0 a6_1 a6_2 a7_0 a7_1)) = some r := by rw [if_pos rfl] at H; exact H
               clear H
               have H := H1
               clear H1
               by_cases c574 : (t529 != (t525 == 0)) = true
               ·rw [if_pos c574] at H
                have c574b0 : (t529 != (t525 == 0)) = true := c574
                (try (have c574b1 : decide (t529 = (t525 == 0)) = false := by simpa using c574))
                (try (have c574b2 : (t529 == (t525 == 0)) = false := by simpa using c574))
                (try (have c574b3 : ¬ (t529 = (t525 == 0)) := by simpa using c574))
                clear c574
                as_aux_lemma =>
                 exact absurd ((Option.some.inj H).trans hlaw.out) (by decide)
               rw [if_neg c574] at H
               have c574b0 : (t529 != (t525 == 0)) = false := by simpa using c574
               (try (have c574b1 : decide (t529 = (t525 == 0)) = true := by simpa using c574))
               (try (have c574b2 : (t529 == (t525 == 0)) = true := by simpa using c574))
               clear c574
               as_aux_lemma =>
                have H' := Am H
                clear H
                have p523 : 0 ≤ (x295_6 : Int) := of_decide_eq_true (by first | (with_reducible assumption) | assumption)
                have q523 : x295_6 < (t518.length : Int) := of_decide_eq_true (by first | (with_reducible assumption) | assumption)
                obtain ⟨ad523, e523, hx523_0, hx523_1⟩ := at_T23 (Kd.R_reads' HO_293.out).2.2 x295_6 p523 q523
                cases e523
                replace p523 := eq_true p523
                replace q523 := eq_true q523
                go_wp2_with (first | ((with_reducible refine gate_dst (N := 52) rfl ?_); (try (refine gate_guard (by rfl) ?_; dsimp only)); refine bE 52 #[.int .i64 0, .int .i64 0] 23 ?_; intro gb524 hg w575 hbox hb; have n0_ := Am (Kd.R_below (Kd.R_elderB (kW HO_45) gb524 (Nat.le_of_eq hg.symm)) hb); have n1_ := Am (Kd.R_below (Kd.R_elderB (kW HO_49) gb524 (Nat.le_of_eq hg.symm)) hb); have n2_ := Am (Kd.R_below (Kd.R_elderB (kW HO_293) gb524 (Nat.le_of_eq hg.symm)) hb); have hp0 := pA BK443 hb; have hv := vK HB hb; have n15_ := Am (bT hv hb); have n16_ := Am (hbox); have GE524 := kG hg hv; have hp1 := pK BK443 hb; obtain ⟨NB443_524, NB524_443⟩ := kXY hg hp1 BK443; obtain ⟨NB444_524, NB524_444⟩ := kXY hg hp1 BK444; obtain ⟨NB445_524, NB524_445⟩ := kXY hg hp1 BK445; obtain ⟨NB446_524, NB524_446⟩ := kXY hg hp1 BK446; obtain ⟨NB447_524, NB524_447⟩ := kXY hg hp1 BK447; obtain ⟨NB448_524, NB524_448⟩ := kXY hg hp1 BK448; obtain ⟨NB449_524, NB524_449⟩ := kXY hg hp1 BK449; obtain ⟨NB450_524, NB524_450⟩ := kXY hg hp1 BK450; obtain ⟨NB462_524, NB524_462⟩ := kXY hg hp1 BK462; obtain ⟨NB466_524, NB524_466⟩ := kXY hg hp1 BK466; obtain ⟨NB471_524, NB524_471⟩ := kXY hg hp1 BK471; obtain ⟨NB476_524, NB524_476⟩ := kXY hg hp1 BK476; clear HO_45; clear HO_49; clear HO_293; clear HB; have HO_45 := n0_; have HO_49 := n1_; have HO_293 := n2_; replace BK443 := hp0 BK443; replace BK444 := hp0 BK444; replace BK445 := hp0 BK445; replace BK446 := hp0 BK446; replace BK447 := hp0 BK447; replace BK448 := hp0 BK448; replace BK449 := hp0 BK449; replace BK450 := hp0 BK450; replace BK462 := hp0 BK462; replace BK466 := hp0 BK466; replace BK471 := hp0 BK471; replace BK476 := hp0 BK476; have HB := n15_; have BK524 := n16_; clear n0_ n1_ n2_ n15_ n16_ hp0 hp1 hv; clear hb hbox hg; have nq576 := kO NB524_443; have nq577 := kO NB524_444; have nq578 := kO NB524_445; have nq579 := kO NB524_446; have nq580 := kO NB524_447; have nq581 := kO NB524_448; have nq582 := kO NB524_449; have nq583 := kO NB524_450; have nq584 := kO NB524_462; have nq585 := kO NB524_466; have nq586 := kO NB524_471; have nq587 := kO NB524_476; have zq588 := c2 BK524; have nq589 := kO NB446_443; have nq590 := kO NB446_444; have nq591 := kO NB446_445; have nq592 := kO NB446_447; have nq593 := kO NB446_448; have nq594 := kO NB446_449; have nq595 := kO NB446_450; have nq596 := kO NB446_462; have nq597 := kO NB446_466; have nq598 := kO NB446_471; have nq599 := kO NB446_476; have zq600 := c3 BK446; have nq601 := kO NB448_443; have nq602 := kO NB448_444; have nq603 := kO NB448_445; have nq604 := kO NB448_447; have nq605 := kO NB448_449; have nq606 := kO NB448_450; have nq607 := kO NB448_462; have nq608 := kO NB448_466; have nq609 := kO NB448_471; have nq610 := kO NB448_476; have zq611 := c3 BK448) | ((with_reducible refine gate_callee (f := 6) rfl ?_); refine gL (some 303) Try.func6 #[.agg #[.int .i64 a3_0, .int .i64 a3_1, .int .i64 a3_2], .agg #[.int .i64 a5_0, .int .i64 a5_1, .int .i64 a5_2], .agg #[.int .i64 ((rd_T23 t518 x295_6).f0), .int .i64 ((rd_T23 t518 x295_6).f1)]] rfl ?_; (with_reducible refine (impl_AheadAt.calls k6 a3_0 a3_1 a3_2 a5_0 a5_1 a5_2 ((rd_T23 t518 x295_6).f0) ((rd_T23 t518 x295_6).f1) t525 t526 true _ A571.out).mono ?_); rintro e w612 ⟨rfl, hb⟩; refine ⟨_, rfl, ?_⟩; have n0_ := Am (Kd.R_below (by (with_reducible repeat (first | apply Kd.R_alloc | apply Kd.R_drewN | apply Kd.R_drew)); exact (Kd.R_mono (Kd.R_far (p := ⟨gb524, 1, none⟩) (Kd.R_far (p := ⟨gb524, 0, none⟩) (Kd.R_mono HO_45.out (fun k_ hk => (⟨hk, hk.2⟩ : _ ∧ k_ ≠ gb524))) (fun _ hk => hk.2) (.int .i64 ((rd_T23 t518 x295_6).f0))) (fun _ hk => hk.2) (.int .i64 ((rd_T23 t518 x295_6).f1))) (fun _ h_ => h_.1))) hb); have n1_ := Am (Kd.R_below (by (with_reducible repeat (first | apply Kd.R_alloc | apply Kd.R_drewN | apply Kd.R_drew)); exact (Kd.R_mono (Kd.R_far (p := ⟨gb524, 1, none⟩) (Kd.R_far (p := ⟨gb524, 0, none⟩) (Kd.R_mono HO_49.out (fun k_ hk => (⟨hk, hk.2⟩ : _ ∧ k_ ≠ gb524))) (fun _ hk => hk.2) (.int .i64 ((rd_T23 t518 x295_6).f0))) (fun _ hk => hk.2) (.int .i64 ((rd_T23 t518 x295_6).f1))) (fun _ h_ => h_.1))) hb); have n2_ := Am (Kd.R_below (by (with_reducible repeat (first | apply Kd.R_alloc | apply Kd.R_drewN | apply Kd.R_drew)); exact (Kd.R_mono (Kd.R_far (p := ⟨gb524, 1, none⟩) (Kd.R_far (p := ⟨gb524, 0, none⟩) (Kd.R_mono HO_293.out (fun k_ hk => (⟨hk, hk.2⟩ : _ ∧ k_ ≠ gb524))) (fun _ hk => hk.2) (.int .i64 ((rd_T23 t518 x295_6).f0))) (fun _ hk => hk.2) (.int .i64 ((rd_T23 t518 x295_6).f1))) (fun _ h_ => h_.1))) hb); have hp0 := pB gb524 BK443 hb; have n15_ := Am (kB (g := gb524) (o := .cells #[.int .i64 ((rd_T23 t518 x295_6).f0), .int .i64 ((rd_T23 t518 x295_6).f1)] 23 (0, 0)) (by (with_reducible repeat (first | refine kN ?_ _ | refine kD ?_ | refine kA ?_ _)); refine kP (cs := #[.int .i64 ((rd_T23 t518 x295_6).f0), .int .i64 0]) ?_ 1 _ rfl; (with_reducible repeat (first | refine kN ?_ _ | refine kD ?_ | refine kA ?_ _)); refine kP (cs := #[.int .i64 0, .int .i64 0]) ?_ 0 _ rfl; (with_reducible repeat (first | refine kN ?_ _ | refine kD ?_ | refine kA ?_ _)); exact BK524.out) hb); have hv := vK HB hb; have n16_ := Am (bT hv hb); clear HO_45; clear HO_49; clear HO_293; clear BK524; clear HB; have HO_45 := n0_; have HO_49 := n1_; have HO_293 := n2_; replace BK443 := hp0 NB443_524 BK443; replace BK444 := hp0 NB444_524 BK444; replace BK445 := hp0 NB445_524 BK445; replace BK446 := hp0 NB446_524 BK446; replace BK447 := hp0 NB447_524 BK447; replace BK448 := hp0 NB448_524 BK448; replace BK449 := hp0 NB449_524 BK449; replace BK450 := hp0 NB450_524 BK450; replace BK462 := hp0 NB462_524 BK462; replace BK466 := hp0 NB466_524 BK466; replace BK471 := hp0 NB471_524 BK471; replace BK476 := hp0 NB476_524 BK476; have BK524 := n15_; have HB := n16_; clear n0_ n1_ n2_ n15_ n16_ hp0 hv; (try clear hb); (try clear hk)) | ((with_reducible refine gate_dst (N := 53) rfl ?_); (try (refine gate_guard (by rfl) ?_; dsimp only)); refine bE 53 #[.int .i64 0, .int .i64 0] 23 ?_; intro gb528 hg w613 hbox hb; have n0_ := Am (Kd.R_below (Kd.R_elderB (kW HO_45) gb528 (Nat.le_of_eq hg.symm)) hb); have n1_ := Am (Kd.R_below (Kd.R_elderB (kW HO_49) gb528 (Nat.le_of_eq hg.symm)) hb); have n2_ := Am (Kd.R_below (Kd.R_elderB (kW HO_293) gb528 (Nat.le_of_eq hg.symm)) hb); have hp0 := pA BK443 hb; have hv := vK HB hb; have n16_ := Am (bT hv hb); have n17_ := Am (hbox); have GE528 := kG hg hv; have hp1 := pK BK443 hb; obtain ⟨NB443_528, NB528_443⟩ := kXY hg hp1 BK443; obtain ⟨NB444_528, NB528_444⟩ := kXY hg hp1 BK444; obtain ⟨NB445_528, NB528_445⟩ := kXY hg hp1 BK445; obtain ⟨NB446_528, NB528_446⟩ := kXY hg hp1 BK446; obtain ⟨NB447_528, NB528_447⟩ := kXY hg hp1 BK447; obtain ⟨NB448_528, NB528_448⟩ := kXY hg hp1 BK448; obtain ⟨NB449_528, NB528_449⟩ := kXY hg hp1 BK449; obtain ⟨NB450_528, NB528_450⟩ := kXY hg hp1 BK450; obtain ⟨NB462_528, NB528_462⟩ := kXY hg hp1 BK462; obtain ⟨NB466_528, NB528_466⟩ := kXY hg hp1 BK466; obtain ⟨NB471_528, NB528_471⟩ := kXY hg hp1 BK471; obtain ⟨NB476_528, NB528_476⟩ := kXY hg hp1 BK476; obtain ⟨NB524_528, NB528_524⟩ := kXY hg hp1 BK524; clear HO_45; clear HO_49; clear HO_293; clear HB; have HO_45 := n0_; have HO_49 := n1_; have HO_293 := n2_; replace BK443 := hp0 BK443; replace BK444 := hp0 BK444; replace BK445 := hp0 BK445; replace BK446 := hp0 BK446; replace BK447 := hp0 BK447; replace BK448 := hp0 BK448; replace BK449 := hp0 BK449; replace BK450 := hp0 BK450; replace BK462 := hp0 BK462; replace BK466 := hp0 BK466; replace BK471 := hp0 BK471; replace BK476 := hp0 BK476; replace BK524 := hp0 BK524; have HB := n16_; have BK528 := n17_; clear n0_ n1_ n2_ n16_ n17_ hp0 hp1 hv; clear hb hbox hg; have nq614 := kO NB528_443; have nq615 := kO NB528_444; have nq616 := kO NB528_445; have nq617 := kO NB528_446; have nq618 := kO NB528_447; have nq619 := kO NB528_448; have nq620 := kO NB528_449; have nq621 := kO NB528_450; have nq622 := kO NB528_462; have nq623 := kO NB528_466; have nq624 := kO NB528_471; have nq625 := kO NB528_476; have nq626 := kO NB528_524; have zq627 := c2 BK528; have zq628 := c2 BK524; obtain ⟨Ao629, co629, eo629⟩ := Kd.R_slice HO_45.out; subst eo629) | ((with_reducible refine gate_callee (f := 19) rfl ?_); refine gL (some 308) Try.func19 #[.slice Ao629 t509.length co629, .agg #[.int .i64 ((rd_T23 t518 x295_6).f0), .int .i64 ((rd_T23 t518 x295_6).f1)]] rfl ?_; (with_reducible refine (laws_kIn.calls k6 _ _ t509 ((rd_T23 t518 x295_6).f0) ((rd_T23 t518 x295_6).f1) t529 _ ?side1 ?side2 A572.out).mono ?_); (case side1 => refine (Kd.R_reads' (e := 23) (base := w.heap.size) (ok := fun k_ => (((some k_ ≠ (.slice (some ad523) t518.length co567 : Value).ownBlock ∧ (some k_ ≠ (.slice (some ad523) t518.length co567 : Value).ownBlock ∧ (k_ ≠ gb445 ∧ (k_ ≠ gb450 ∧ (k_ ≠ gb462 ∧ k_ ≠ gb466))))) ∧ k_ ≠ gb524) ∧ k_ ≠ gb528)) (n := t509.length) (c := co629) ?_).2.2; exact (by (with_reducible repeat (first | apply Kd.R_alloc | apply Kd.R_drewN | apply Kd.R_drew)); exact (Kd.R_mono (Kd.R_far (p := ⟨gb528, 1, none⟩) (Kd.R_far (p := ⟨gb528, 0, none⟩) (Kd.R_mono HO_45.out (fun k_ hk => (⟨hk, hk.2⟩ : _ ∧ k_ ≠ gb528))) (fun _ hk => hk.2) (.int .i64 t525)) (fun _ hk => hk.2) (.int .i64 t526)) (fun _ h_ => h_.1)))); (case side2 => exact (Kd.R_reads' HO_45.out).2.1); rintro e w630 ⟨rfl, hb⟩; refine ⟨_, rfl, ?_⟩; have n0_ := Am (Kd.R_below (by (with_reducible repeat (first | apply Kd.R_alloc | apply Kd.R_drewN | apply Kd.R_drew)); exact (Kd.R_mono (Kd.R_far (p := ⟨gb528, 1, none⟩) (Kd.R_far (p := ⟨gb528, 0, none⟩) (Kd.R_mono HO_45.out (fun k_ hk => (⟨hk, hk.2⟩ : _ ∧ k_ ≠ gb528))) (fun _ hk => hk.2) (.int .i64 t525)) (fun _ hk => hk.2) (.int .i64 t526)) (fun _ h_ => h_.1))) hb); have n1_ := Am (Kd.R_below (by (with_reducible repeat (first | apply Kd.R_alloc | apply Kd.R_drewN | apply Kd.R_drew)); exact (Kd.R_mono (Kd.R_far (p := ⟨gb528, 1, none⟩) (Kd.R_far (p := ⟨gb528, 0, none⟩) (Kd.R_mono HO_49.out (fun k_ hk => (⟨hk, hk.2⟩ : _ ∧ k_ ≠ gb528))) (fun _ hk => hk.2) (.int .i64 t525)) (fun _ hk => hk.2) (.int .i64 t526)) (fun _ h_ => h_.1))) hb); have n2_ := Am (Kd.R_below (by (with_reducible repeat (first | apply Kd.R_alloc | apply Kd.R_drewN | apply Kd.R_drew)); exact (Kd.R_mono (Kd.R_far (p := ⟨gb528, 1, none⟩) (Kd.R_far (p := ⟨gb528, 0, none⟩) (Kd.R_mono HO_293.out (fun k_ hk => (⟨hk, hk.2⟩ : _ ∧ k_ ≠ gb528))) (fun _ hk => hk.2) (.int .i64 t525)) (fun _ hk => hk.2) (.int .i64 t526)) (fun _ h_ => h_.1))) hb); have hp0 := pB gb528 BK443 hb; have n16_ := Am (kB (g := gb528) (o := .cells #[.int .i64 t525, .int .i64 t526] 23 (0, 0)) (by (with_reducible repeat (first | refine kN ?_ _ | refine kD ?_ | refine kA ?_ _)); refine kP (cs := #[.int .i64 t525, .int .i64 0]) ?_ 1 _ rfl; (with_reducible repeat (first | refine kN ?_ _ | refine kD ?_ | refine kA ?_ _)); refine kP (cs := #[.int .i64 0, .int .i64 0]) ?_ 0 _ rfl; (with_reducible repeat (first | refine kN ?_ _ | refine kD ?_ | refine kA ?_ _)); exact BK528.out) hb); have hv := vK HB hb; have n17_ := Am (bT hv hb); clear HO_45; clear HO_49; clear HO_293; clear BK528; clear HB; have HO_45 := n0_; have HO_49 := n1_; have HO_293 := n2_; replace BK443 := hp0 NB443_528 BK443; replace BK444 := hp0 NB444_528 BK444; replace BK445 := hp0 NB445_528 BK445; replace BK446 := hp0 NB446_528 BK446; replace BK447 := hp0 NB447_528 BK447; replace BK448 := hp0 NB448_528 BK448; replace BK449 := hp0 NB449_528 BK449; replace BK450 := hp0 NB450_528 BK450; replace BK462 := hp0 NB462_528 BK462; replace BK466 := hp0 NB466_528 BK466; replace BK471 := hp0 NB471_528 BK471; replace BK476 := hp0 NB476_528 BK476; replace BK524 := hp0 NB524_528 BK524; have BK528 := n16_; have HB := n17_; clear n0_ n1_ n2_ n16_ n17_ hp0 hv; (try clear hb); (try clear hk); have zq631 := c2 BK528))
                go_roundg k6
                case measure => have := HJ16.out; have := HJ173.out; have := HJ274.out; have := HJ360.out; have := HJ494.out; have := HK6.out; omega
                case rel =>
                 refine ⟨(wrap64 (x295_6 + 1)), (by first | rfl | (simp; done) | (simp [*]; done)), H', ⟨by have := HJ16.out; have := HJ173.out; have := HJ274.out; have := HJ360.out; have := HJ494.out; have := HK6.out; omega⟩, ⟨by (with_reducible repeat (first | apply Kd.R_alloc | apply Kd.R_drewN | apply Kd.R_drew)); exact Kd.R_mono HO_45.out (fun _ hk => ⟨hk.1.1.1, ⟨hk.1.1.2.1, ⟨hk.1.1.2.2.1, ⟨hk.1.1.2.2.2.1, ⟨hk.1.1.2.2.2.2.1, hk.1.1.2.2.2.2.2⟩⟩⟩⟩⟩)⟩, ⟨by (with_reducible repeat (first | apply Kd.R_alloc | apply Kd.R_drewN | apply Kd.R_drew)); exact Kd.R_mono HO_49.out (fun _ hk => ⟨hk.1.1.1, ⟨hk.1.1.2.1, ⟨hk.1.1.2.2.1, ⟨hk.1.1.2.2.2.1, hk.1.1.2.2.2.2⟩⟩⟩⟩)⟩, ⟨by (with_reducible repeat (first | apply Kd.R_alloc | apply Kd.R_drewN | apply Kd.R_drew)); exact Kd.R_mono HO_293.out (fun _ hk => ⟨hk.1.1.1, ⟨hk.1.1.2.1, ⟨hk.1.1.2.2.1, ⟨hk.1.1.2.2.2.1, hk.1.1.2.2.2.2⟩⟩⟩⟩)⟩, ⟨?_⟩, ⟨?_⟩, ⟨?_⟩, ⟨?_⟩, ⟨?_⟩, ⟨?_⟩, ⟨?_⟩, ⟨?_⟩, ⟨?_⟩, ⟨?_⟩, ⟨?_⟩, ⟨?_⟩, ⟨by repeat (first | (with_reducible first | exact HB.out | apply bA | apply bN | apply bD | refine bX ?_ (by assumption)) | exact HB.out)⟩⟩
                 all_goals ((with_reducible repeat (first | refine kN ?_ _ | refine kD ?_ | refine kA ?_ _)); exact Aside0.out (by assumption))
              replace c573 := Bool.eq_false_iff.mpr c573
              subst c573
              have H1 : (if (t529 != false) = true then (some false) else (laws_FnHandsAheadOfAll.l2 k6 t509 t518 t518 (t518.length : Int) (wrap64 (x295_6 + 1)) a3_0 a3_1 a3_2 a5_0 a5_1 a5_2 a6_0 a6_1 a6_2 a7_0 a7_1)) = some r := by rw [if_neg (show ¬ (false = true) by decide)] at H; exact H
              clear H
              have H := H1
              clear H1
              by_cases c632 : (t529 != false) = true
              ·rw [if_pos c632] at H
               have c632b0 : (t529 != false) = true := c632
               (try (have c632b1 : decide (t529 = false) = false := by simpa using c632))
               (try (have c632b2 : (t529 == false) = false := by simpa using c632))
               (try (have c632b3 : ¬ (t529 = false) := by simpa using c632))
               clear c632
               as_aux_lemma =>
                exact absurd ((Option.some.inj H).trans hlaw.out) (by decide)
              rw [if_neg c632] at H
              have c632b0 : (t529 != false) = false := by simpa using c632
              (try (have c632b1 : decide (t529 = false) = true := by simpa using c632))
              (try (have c632b2 : (t529 == false) = true := by simpa using c632))
              clear c632
              as_aux_lemma =>
               have H' := Am H
               clear H
               have p523 : 0 ≤ (x295_6 : Int) := of_decide_eq_true (by first | (with_reducible assumption) | assumption)
               have q523 : x295_6 < (t518.length : Int) := of_decide_eq_true (by first | (with_reducible assumption) | assumption)
               obtain ⟨ad523, e523, hx523_0, hx523_1⟩ := at_T23 (Kd.R_reads' HO_293.out).2.2 x295_6 p523 q523
               cases e523
               replace p523 := eq_true p523
               replace q523 := eq_true q523
               go_wp2_with (first | ((with_reducible refine gate_dst (N := 52) rfl ?_); (try (refine gate_guard (by rfl) ?_; dsimp only)); refine bE 52 #[.int .i64 0, .int .i64 0] 23 ?_; intro gb524 hg w633 hbox hb; have n0_ := Am (Kd.R_below (Kd.R_elderB (kW HO_45) gb524 (Nat.le_of_eq hg.symm)) hb); have n1_ := Am (Kd.R_below (Kd.R_elderB (kW HO_49) gb524 (Nat.le_of_eq hg.symm)) hb); have n2_ := Am (Kd.R_below (Kd.R_elderB (kW HO_293) gb524 (Nat.le_of_eq hg.symm)) hb); have hp0 := pA BK443 hb; have hv := vK HB hb; have n15_ := Am (bT hv hb); have n16_ := Am (hbox); have GE524 := kG hg hv; have hp1 := pK BK443 hb; obtain ⟨NB443_524, NB524_443⟩ := kXY hg hp1 BK443; obtain ⟨NB444_524, NB524_444⟩ := kXY hg hp1 BK444; obtain ⟨NB445_524, NB524_445⟩ := kXY hg hp1 BK445; obtain ⟨NB446_524, NB524_446⟩ := kXY hg hp1 BK446; obtain ⟨NB447_524, NB524_447⟩ := kXY hg hp1 BK447; obtain ⟨NB448_524, NB524_448⟩ := kXY hg hp1 BK448; obtain ⟨NB449_524, NB524_449⟩ := kXY hg hp1 BK449; obtain ⟨NB450_524, NB524_450⟩ := kXY hg hp1 BK450; obtain ⟨NB462_524, NB524_462⟩ := kXY hg hp1 BK462; obtain ⟨NB466_524, NB524_466⟩ := kXY hg hp1 BK466; obtain ⟨NB471_524, NB524_471⟩ := kXY hg hp1 BK471; obtain ⟨NB476_524, NB524_476⟩ := kXY hg hp1 BK476; clear HO_45; clear HO_49; clear HO_293; clear HB; have HO_45 := n0_; have HO_49 := n1_; have HO_293 := n2_; replace BK443 := hp0 BK443; replace BK444 := hp0 BK444; replace BK445 := hp0 BK445; replace BK446 := hp0 BK446; replace BK447 := hp0 BK447; replace BK448 := hp0 BK448; replace BK449 := hp0 BK449; replace BK450 := hp0 BK450; replace BK462 := hp0 BK462; replace BK466 := hp0 BK466; replace BK471 := hp0 BK471; replace BK476 := hp0 BK476; have HB := n15_; have BK524 := n16_; clear n0_ n1_ n2_ n15_ n16_ hp0 hp1 hv; clear hb hbox hg; have nq634 := kO NB524_443; have nq635 := kO NB524_444; have nq636 := kO NB524_445; have nq637 := kO NB524_446; have nq638 := kO NB524_447; have nq639 := kO NB524_448; have nq640 := kO NB524_449; have nq641 := kO NB524_450; have nq642 := kO NB524_462; have nq643 := kO NB524_466; have nq644 := kO NB524_471; have nq645 := kO NB524_476; have zq646 := c2 BK524; have nq647 := kO NB446_443; have nq648 := kO NB446_444; have nq649 := kO NB446_445; have nq650 := kO NB446_447; have nq651 := kO NB446_448; have nq652 := kO NB446_449; have nq653 := kO NB446_450; have nq654 := kO NB446_462; have nq655 := kO NB446_466; have nq656 := kO NB446_471; have nq657 := kO NB446_476; have zq658 := c3 BK446; have nq659 := kO NB448_443; have nq660 := kO NB448_444; have nq661 := kO NB448_445; have nq662 := kO NB448_447; have nq663 := kO NB448_449; have nq664 := kO NB448_450; have nq665 := kO NB448_462; have nq666 := kO NB448_466; have nq667 := kO NB448_471; have nq668 := kO NB448_476; have zq669 := c3 BK448) | ((with_reducible refine gate_callee (f := 6) rfl ?_); refine gL (some 303) Try.func6 #[.agg #[.int .i64 a3_0, .int .i64 a3_1, .int .i64 a3_2], .agg #[.int .i64 a5_0, .int .i64 a5_1, .int .i64 a5_2], .agg #[.int .i64 ((rd_T23 t518 x295_6).f0), .int .i64 ((rd_T23 t518 x295_6).f1)]] rfl ?_; (with_reducible refine (impl_AheadAt.calls k6 a3_0 a3_1 a3_2 a5_0 a5_1 a5_2 ((rd_T23 t518 x295_6).f0) ((rd_T23 t518 x295_6).f1) t525 t526 false _ A571.out).mono ?_); rintro e w670 ⟨rfl, hb⟩; refine ⟨_, rfl, ?_⟩; have n0_ := Am (Kd.R_below (by (with_reducible repeat (first | apply Kd.R_alloc | apply Kd.R_drewN | apply Kd.R_drew)); exact (Kd.R_mono (Kd.R_far (p := ⟨gb524, 1, none⟩) (Kd.R_far (p := ⟨gb524, 0, none⟩) (Kd.R_mono HO_45.out (fun k_ hk => (⟨hk, hk.2⟩ : _ ∧ k_ ≠ gb524))) (fun _ hk => hk.2) (.int .i64 ((rd_T23 t518 x295_6).f0))) (fun _ hk => hk.2) (.int .i64 ((rd_T23 t518 x295_6).f1))) (fun _ h_ => h_.1))) hb); have n1_ := Am (Kd.R_below (by (with_reducible repeat (first | apply Kd.R_alloc | apply Kd.R_drewN | apply Kd.R_drew)); exact (Kd.R_mono (Kd.R_far (p := ⟨gb524, 1, none⟩) (Kd.R_far (p := ⟨gb524, 0, none⟩) (Kd.R_mono HO_49.out (fun k_ hk => (⟨hk, hk.2⟩ : _ ∧ k_ ≠ gb524))) (fun _ hk => hk.2) (.int .i64 ((rd_T23 t518 x295_6).f0))) (fun _ hk => hk.2) (.int .i64 ((rd_T23 t518 x295_6).f1))) (fun _ h_ => h_.1))) hb); have n2_ := Am (Kd.R_below (by (with_reducible repeat (first | apply Kd.R_alloc | apply Kd.R_drewN | apply Kd.R_drew)); exact (Kd.R_mono (Kd.R_far (p := ⟨gb524, 1, none⟩) (Kd.R_far (p := ⟨gb524, 0, none⟩) (Kd.R_mono HO_293.out (fun k_ hk => (⟨hk, hk.2⟩ : _ ∧ k_ ≠ gb524))) (fun _ hk => hk.2) (.int .i64 ((rd_T23 t518 x295_6).f0))) (fun _ hk => hk.2) (.int .i64 ((rd_T23 t518 x295_6).f1))) (fun _ h_ => h_.1))) hb); have hp0 := pB gb524 BK443 hb; have n15_ := Am (kB (g := gb524) (o := .cells #[.int .i64 ((rd_T23 t518 x295_6).f0), .int .i64 ((rd_T23 t518 x295_6).f1)] 23 (0, 0)) (by (with_reducible repeat (first | refine kN ?_ _ | refine kD ?_ | refine kA ?_ _)); refine kP (cs := #[.int .i64 ((rd_T23 t518 x295_6).f0), .int .i64 0]) ?_ 1 _ rfl; (with_reducible repeat (first | refine kN ?_ _ | refine kD ?_ | refine kA ?_ _)); refine kP (cs := #[.int .i64 0, .int .i64 0]) ?_ 0 _ rfl; (with_reducible repeat (first | refine kN ?_ _ | refine kD ?_ | refine kA ?_ _)); exact BK524.out) hb); have hv := vK HB hb; have n16_ := Am (bT hv hb); clear HO_45; clear HO_49; clear HO_293; clear BK524; clear HB; have HO_45 := n0_; have HO_49 := n1_; have HO_293 := n2_; replace BK443 := hp0 NB443_524 BK443; replace BK444 := hp0 NB444_524 BK444; replace BK445 := hp0 NB445_524 BK445; replace BK446 := hp0 NB446_524 BK446; replace BK447 := hp0 NB447_524 BK447; replace BK448 := hp0 NB448_524 BK448; replace BK449 := hp0 NB449_524 BK449; replace BK450 := hp0 NB450_524 BK450; replace BK462 := hp0 NB462_524 BK462; replace BK466 := hp0 NB466_524 BK466; replace BK471 := hp0 NB471_524 BK471; replace BK476 := hp0 NB476_524 BK476; have BK524 := n15_; have HB := n16_; clear n0_ n1_ n2_ n15_ n16_ hp0 hv; (try clear hb); (try clear hk)) | ((with_reducible refine gate_dst (N := 53) rfl ?_); (try (refine gate_guard (by rfl) ?_; dsimp only)); refine bE 53 #[.int .i64 0, .int .i64 0] 23 ?_; intro gb528 hg w671 hbox hb; have n0_ := Am (Kd.R_below (Kd.R_elderB (kW HO_45) gb528 (Nat.le_of_eq hg.symm)) hb); have n1_ := Am (Kd.R_below (Kd.R_elderB (kW HO_49) gb528 (Nat.le_of_eq hg.symm)) hb); have n2_ := Am (Kd.R_below (Kd.R_elderB (kW HO_293) gb528 (Nat.le_of_eq hg.symm)) hb); have hp0 := pA BK443 hb; have hv := vK HB hb; have n16_ := Am (bT hv hb); have n17_ := Am (hbox); have GE528 := kG hg hv; have hp1 := pK BK443 hb; obtain ⟨NB443_528, NB528_443⟩ := kXY hg hp1 BK443; obtain ⟨NB444_528, NB528_444⟩ := kXY hg hp1 BK444; obtain ⟨NB445_528, NB528_445⟩ := kXY hg hp1 BK445; obtain ⟨NB446_528, NB528_446⟩ := kXY hg hp1 BK446; obtain ⟨NB447_528, NB528_447⟩ := kXY hg hp1 BK447; obtain ⟨NB448_528, NB528_448⟩ := kXY hg hp1 BK448; obtain ⟨NB449_528, NB528_449⟩ := kXY hg hp1 BK449; obtain ⟨NB450_528, NB528_450⟩ := kXY hg hp1 BK450; obtain ⟨NB462_528, NB528_462⟩ := kXY hg hp1 BK462; obtain ⟨NB466_528, NB528_466⟩ := kXY hg hp1 BK466; obtain ⟨NB471_528, NB528_471⟩ := kXY hg hp1 BK471; obtain ⟨NB476_528, NB528_476⟩ := kXY hg hp1 BK476; obtain ⟨NB524_528, NB528_524⟩ := kXY hg hp1 BK524; clear HO_45; clear HO_49; clear HO_293; clear HB; have HO_45 := n0_; have HO_49 := n1_; have HO_293 := n2_; replace BK443 := hp0 BK443; replace BK444 := hp0 BK444; replace BK445 := hp0 BK445; replace BK446 := hp0 BK446; replace BK447 := hp0 BK447; replace BK448 := hp0 BK448; replace BK449 := hp0 BK449; replace BK450 := hp0 BK450; replace BK462 := hp0 BK462; replace BK466 := hp0 BK466; replace BK471 := hp0 BK471; replace BK476 := hp0 BK476; replace BK524 := hp0 BK524; have HB := n16_; have BK528 := n17_; clear n0_ n1_ n2_ n16_ n17_ hp0 hp1 hv; clear hb hbox hg; have nq672 := kO NB528_443; have nq673 := kO NB528_444; have nq674 := kO NB528_445; have nq675 := kO NB528_446; have nq676 := kO NB528_447; have nq677 := kO NB528_448; have nq678 := kO NB528_449; have nq679 := kO NB528_450; have nq680 := kO NB528_462; have nq681 := kO NB528_466; have nq682 := kO NB528_471; have nq683 := kO NB528_476; have nq684 := kO NB528_524; have zq685 := c2 BK528; have zq686 := c2 BK524; obtain ⟨Ao687, co687, eo687⟩ := Kd.R_slice HO_45.out; subst eo687) | ((with_reducible refine gate_callee (f := 19) rfl ?_); refine gL (some 308) Try.func19 #[.slice Ao687 t509.length co687, .agg #[.int .i64 ((rd_T23 t518 x295_6).f0), .int .i64 ((rd_T23 t518 x295_6).f1)]] rfl ?_; (with_reducible refine (laws_kIn.calls k6 _ _ t509 ((rd_T23 t518 x295_6).f0) ((rd_T23 t518 x295_6).f1) t529 _ ?side1 ?side2 A572.out).mono ?_); (case side1 => refine (Kd.R_reads' (e := 23) (base := w.heap.size) (ok := fun k_ => (((some k_ ≠ (.slice (some ad523) t518.length co567 : Value).ownBlock ∧ (some k_ ≠ (.slice (some ad523) t518.length co567 : Value).ownBlock ∧ (k_ ≠ gb445 ∧ (k_ ≠ gb450 ∧ (k_ ≠ gb462 ∧ k_ ≠ gb466))))) ∧ k_ ≠ gb524) ∧ k_ ≠ gb528)) (n := t509.length) (c := co687) ?_).2.2; exact (by (with_reducible repeat (first | apply Kd.R_alloc | apply Kd.R_drewN | apply Kd.R_drew)); exact (Kd.R_mono (Kd.R_far (p := ⟨gb528, 1, none⟩) (Kd.R_far (p := ⟨gb528, 0, none⟩) (Kd.R_mono HO_45.out (fun k_ hk => (⟨hk, hk.2⟩ : _ ∧ k_ ≠ gb528))) (fun _ hk => hk.2) (.int .i64 t525)) (fun _ hk => hk.2) (.int .i64 t526)) (fun _ h_ => h_.1)))); (case side2 => exact (Kd.R_reads' HO_45.out).2.1); rintro e w688 ⟨rfl, hb⟩; refine ⟨_, rfl, ?_⟩; have n0_ := Am (Kd.R_below (by (with_reducible repeat (first | apply Kd.R_alloc | apply Kd.R_drewN | apply Kd.R_drew)); exact (Kd.R_mono (Kd.R_far (p := ⟨gb528, 1, none⟩) (Kd.R_far (p := ⟨gb528, 0, none⟩) (Kd.R_mono HO_45.out (fun k_ hk => (⟨hk, hk.2⟩ : _ ∧ k_ ≠ gb528))) (fun _ hk => hk.2) (.int .i64 t525)) (fun _ hk => hk.2) (.int .i64 t526)) (fun _ h_ => h_.1))) hb); have n1_ := Am (Kd.R_below (by (with_reducible repeat (first | apply Kd.R_alloc | apply Kd.R_drewN | apply Kd.R_drew)); exact (Kd.R_mono (Kd.R_far (p := ⟨gb528, 1, none⟩) (Kd.R_far (p := ⟨gb528, 0, none⟩) (Kd.R_mono HO_49.out (fun k_ hk => (⟨hk, hk.2⟩ : _ ∧ k_ ≠ gb528))) (fun _ hk => hk.2) (.int .i64 t525)) (fun _ hk => hk.2) (.int .i64 t526)) (fun _ h_ => h_.1))) hb); have n2_ := Am (Kd.R_below (by (with_reducible repeat (first | apply Kd.R_alloc | apply Kd.R_drewN | apply Kd.R_drew)); exact (Kd.R_mono (Kd.R_far (p := ⟨gb528, 1, none⟩) (Kd.R_far (p := ⟨gb528, 0, none⟩) (Kd.R_mono HO_293.out (fun k_ hk => (⟨hk, hk.2⟩ : _ ∧ k_ ≠ gb528))) (fun _ hk => hk.2) (.int .i64 t525)) (fun _ hk => hk.2) (.int .i64 t526)) (fun _ h_ => h_.1))) hb); have hp0 := pB gb528 BK443 hb; have n16_ := Am (kB (g := gb528) (o := .cells #[.int .i64 t525, .int .i64 t526] 23 (0, 0)) (by (with_reducible repeat (first | refine kN ?_ _ | refine kD ?_ | refine kA ?_ _)); refine kP (cs := #[.int .i64 t525, .int .i64 0]) ?_ 1 _ rfl; (with_reducible repeat (first | refine kN ?_ _ | refine kD ?_ | refine kA ?_ _)); refine kP (cs := #[.int .i64 0, .int .i64 0]) ?_ 0 _ rfl; (with_reducible repeat (first | refine kN ?_ _ | refine kD ?_ | refine kA ?_ _)); exact BK528.out) hb); have hv := vK HB hb; have n17_ := Am (bT hv hb); clear HO_45; clear HO_49; clear HO_293; clear BK528; clear HB; have HO_45 := n0_; have HO_49 := n1_; have HO_293 := n2_; replace BK443 := hp0 NB443_528 BK443; replace BK444 := hp0 NB444_528 BK444; replace BK445 := hp0 NB445_528 BK445; replace BK446 := hp0 NB446_528 BK446; replace BK447 := hp0 NB447_528 BK447; replace BK448 := hp0 NB448_528 BK448; replace BK449 := hp0 NB449_528 BK449; replace BK450 := hp0 NB450_528 BK450; replace BK462 := hp0 NB462_528 BK462; replace BK466 := hp0 NB466_528 BK466; replace BK471 := hp0 NB471_528 BK471; replace BK476 := hp0 NB476_528 BK476; replace BK524 := hp0 NB524_528 BK524; have BK528 := n16_; have HB := n17_; clear n0_ n1_ n2_ n16_ n17_ hp0 hv; (try clear hb); (try clear hk)))
               go_roundg k6
               case measure => have := HJ16.out; have := HJ173.out; have := HJ274.out; have := HJ360.out; have := HJ494.out; have := HK6.out; omega
               case rel =>
                refine ⟨(wrap64 (x295_6 + 1)), (by first | rfl | (simp; done) | (simp [*]; done)), H', ⟨by have := HJ16.out; have := HJ173.out; have := HJ274.out; have := HJ360.out; have := HJ494.out; have := HK6.out; omega⟩, ⟨by (with_reducible repeat (first | apply Kd.R_alloc | apply Kd.R_drewN | apply Kd.R_drew)); exact Kd.R_mono HO_45.out (fun _ hk => ⟨hk.1.1.1, ⟨hk.1.1.2.1, ⟨hk.1.1.2.2.1, ⟨hk.1.1.2.2.2.1, ⟨hk.1.1.2.2.2.2.1, hk.1.1.2.2.2.2.2⟩⟩⟩⟩⟩)⟩, ⟨by (with_reducible repeat (first | apply Kd.R_alloc | apply Kd.R_drewN | apply Kd.R_drew)); exact Kd.R_mono HO_49.out (fun _ hk => ⟨hk.1.1.1, ⟨hk.1.1.2.1, ⟨hk.1.1.2.2.1, ⟨hk.1.1.2.2.2.1, hk.1.1.2.2.2.2⟩⟩⟩⟩)⟩, ⟨by (with_reducible repeat (first | apply Kd.R_alloc | apply Kd.R_drewN | apply Kd.R_drew)); exact Kd.R_mono HO_293.out (fun _ hk => ⟨hk.1.1.1, ⟨hk.1.1.2.1, ⟨hk.1.1.2.2.1, ⟨hk.1.1.2.2.2.1, hk.1.1.2.2.2.2⟩⟩⟩⟩)⟩, ⟨?_⟩, ⟨?_⟩, ⟨?_⟩, ⟨?_⟩, ⟨?_⟩, ⟨?_⟩, ⟨?_⟩, ⟨?_⟩, ⟨?_⟩, ⟨?_⟩, ⟨?_⟩, ⟨?_⟩, ⟨by repeat (first | (with_reducible first | exact HB.out | apply bA | apply bN | apply bD | refine bX ?_ (by assumption)) | exact HB.out)⟩⟩
                all_goals ((with_reducible repeat (first | refine kN ?_ _ | refine kD ?_ | refine kA ?_ _)); exact Aside0.out (by assumption))
             rw [if_neg c570] at H
             exact absurd H (by simp)
            rw [if_neg c569] at H
            exact absurd H (by simp)
           rw [if_neg c568] at H
           have c568b0 : decide (x295_6 < (t518.length : Int)) = false := decide_eq_false c568
           clear c568
           (first | rw [c568b0] | (simp only [i64_w, i32_w]; rw [c568b0]) | skip)
           replace H := Option.bind_eq_some_iff.mp H
           obtain ⟨t522, A6890, H⟩ := H
           try dsimp only at H
           have A689 := Am A6890
           clear A6890
           by_cases c690 : t522 = true
           ·subst c690
            have H1 : (if (t509.length : Int) > (t518.length : Int) then (some false) else (laws_FnHandsAheadOfAll.j9 k6 a6_0 a6_1 a6_2 a7_0 a7_1)) = some r := by rw [if_pos rfl] at H; exact H
            clear H
            have H := H1
            clear H1
            by_cases c691 : (t509.length : Int) > (t518.length : Int)
            ·rw [if_pos c691] at H
             have c691b0 : decide ((t518.length : Int) < (t509.length : Int)) = true := decide_eq_true c691
             have c691b1 : decide (t518.length < t509.length) = true := decide_eq_true (Int.ofNat_lt.mp c691)
             clear c691
             as_aux_lemma =>
              exact absurd ((Option.some.inj H).trans hlaw.out) (by decide)
            rw [if_neg c691] at H
            have c691b0 : decide ((t518.length : Int) < (t509.length : Int)) = false := decide_eq_false c691
            have c691b1 : decide (t518.length < t509.length) = false := decide_eq_false (fun h => c691 (Int.ofNat_lt.mpr h))
            clear c691
            as_aux_lemma =>
             have H' := Am H
             clear H
             obtain ⟨Ao692, co692, eo692⟩ := Kd.R_slice HO_45.out
             subst eo692
             go_wp2_with (first | ((with_reducible refine gate_callee (f := 14) rfl ?_); refine gL (some 318) Try.func14 #[.slice Ao692 t509.length co692] rfl ?_; (with_reducible refine (laws_kRises.calls k6 _ _ t509 true _ ?side1 ?side2 A689.out).mono ?_); (case side1 => repeat (first | exact (Kd.R_reads' HO_45.out).2.2 | (with_reducible refine Kd.C_alloc ?_ _) | (with_reducible refine Kd.C_drewN ?_ _) | (with_reducible refine Kd.C_drew ?_))); (case side2 => exact (Kd.R_reads' HO_45.out).2.1); rintro e w' ⟨rfl, ⟨nd, rfl⟩⟩; refine ⟨_, rfl, ?_⟩))
             go_meet
             case rel =>
              refine ⟨_, H', ⟨by have := HJ16.out; have := HJ173.out; have := HJ274.out; have := HJ360.out; have := HJ494.out; have := HK6.out; first | omega | exact Nat.le_refl _⟩, ⟨?_⟩, ⟨?_⟩, ⟨?_⟩, ⟨?_⟩, ⟨?_⟩, ⟨?_⟩, ⟨?_⟩, ⟨?_⟩, ⟨?_⟩, ⟨?_⟩, ⟨?_⟩, ⟨?_⟩, ⟨by repeat (first | (with_reducible first | exact HB.out | apply bA | apply bN | apply bD | refine bX ?_ (by assumption)) | exact HB.out)⟩⟩
              all_goals ((with_reducible repeat (first | refine kN ?_ _ | refine kD ?_ | refine kA ?_ _)); exact Aside0.out (by assumption))
           replace c690 := Bool.eq_false_iff.mpr c690
           subst c690
           have H1 : (some false) = some r := by rw [if_neg (show ¬ (false = true) by decide)] at H; exact H
           clear H
           have H := H1
           clear H1
           as_aux_lemma =>
            exact absurd ((Option.some.inj H).trans hlaw.out) (by decide)
        replace c542 := Bool.eq_false_iff.mpr c542
        subst c542
        have H1 : (some false) = some r := by rw [if_neg (show ¬ (false = true) by decide)] at H; exact H
        clear H
        have H := H1
        clear H1
        as_aux_lemma =>
         exact absurd ((Option.some.inj H).trans hlaw.out) (by decide)
       replace c540 := Bool.eq_false_iff.mpr c540
       subst c540
       have H1 : (laws_FnHandsAheadOfAll.j9 kj494 a6_0 a6_1 a6_2 a7_0 a7_1) = some r := by rw [if_neg (show ¬ (false = true) by decide)] at H; exact H
       clear H
       have H := H1
       clear H1
       as_aux_lemma =>
        have H' := Am H
        clear H
        go_wp2
        go_meet
        case rel =>
         refine ⟨_, H', ⟨by have := HJ16.out; have := HJ173.out; have := HJ274.out; have := HJ360.out; have := HJ494.out; first | omega | exact Nat.le_refl _⟩, ⟨?_⟩, ⟨?_⟩, ⟨?_⟩, ⟨?_⟩, ⟨?_⟩, ⟨?_⟩, ⟨?_⟩, ⟨?_⟩, ⟨?_⟩, ⟨?_⟩, ⟨?_⟩, ⟨?_⟩, ⟨by repeat (first | (with_reducible first | exact HB.out | apply bA | apply bN | apply bD | refine bX ?_ (by assumption)) | exact HB.out)⟩⟩
         all_goals ((with_reducible repeat (first | refine kN ?_ _ | refine kD ?_ | refine kA ?_ _)); exact Aside0.out (by assumption))
      clear HC539
      (try clear c538); (try clear zq111); (try clear zq112); (try clear zq113); (try clear zq115); (try clear zq116); (try clear zq33); (try clear zq40); (try clear zq46); (try clear zq48); (try clear zq49); (try clear zq507); (try clear zq50); (try clear zq518); (try clear zq528); (try clear zq52); (try clear zq530); (try clear zq531); (try clear zq532); (try clear zq53); (try clear zq54); (try clear zq65); (try clear zq66); (try clear zq67); (try clear zq68); (try clear zq80); (try clear zq81); (try clear zq82); (try clear zq95); (try clear zq96); (try clear zq97)
      obtain ⟨kq, HA, HJ538, BK443, BK444, BK445, BK446, BK447, BK448, BK449, BK450, BK462, BK466, BK471, BK476, HB⟩ := hcut
      cases kq with
      | zero => exact absurd HA.out (by simp [laws_FnHandsAheadOfAll.j9])
      | succ kj538 =>
       have H := HA.out
       clear HA
       simp only [laws_FnHandsAheadOfAll.j9] at H
       replace H := Option.bind_eq_some_iff.mp H
       obtain ⟨⟨t530, t533⟩, A6930, H⟩ := H
       try dsimp only at H
       have A693 := Am A6930
       clear A6930
       replace H := Option.bind_eq_some_iff.mp H
       obtain ⟨⟨t534, t537⟩, A6940, H⟩ := H
       try dsimp only at H
       have A694 := Am A6940
       clear A6940
       replace H := Option.bind_eq_some_iff.mp H
       obtain ⟨⟨t538, t539, t540⟩, A6950, H⟩ := H
       try dsimp only at H
       have A695 := Am A6950
       clear A6950
       replace H := Option.bind_eq_some_iff.mp H
       obtain ⟨⟨t542, t543, t544⟩, A6960, H⟩ := H
       try dsimp only at H
       have A696 := Am A6960
       clear A6960
       have HC697 := Am H
       clear H
       have nq698 := kO NB449_443; have nq699 := kO NB449_444; have nq700 := kO NB449_445; have nq701 := kO NB449_446; have nq702 := kO NB449_447; have nq703 := kO NB449_448; have nq704 := kO NB449_450; have nq705 := kO NB449_462; have nq706 := kO NB449_466; have nq707 := kO NB449_471; have nq708 := kO NB449_476
       have zq709 := c3 BK449
       have nq710 := kO NB450_443; have nq711 := kO NB450_444; have nq712 := kO NB450_445; have nq713 := kO NB450_446; have nq714 := kO NB450_447; have nq715 := kO NB450_448; have nq716 := kO NB450_462; have nq717 := kO NB450_466; have nq718 := kO NB450_471; have nq719 := kO NB450_476
       have zq720 := c2 BK450
       go_upto_region 55 with (first | ((with_reducible refine gate_callee (f := 20) rfl ?_); refine gL (some 330) Try.func20 #[.agg #[.int .i64 a6_0, .int .i64 a6_1, .int .i64 a6_2], .agg #[.int .i64 a7_0, .int .i64 a7_1]] rfl ?_; (with_reducible refine (impl_TimesAtPlace.calls kj538 a6_0 a6_1 a6_2 a7_0 a7_1 t530 t533 _ A693.out).mono ?_); rintro e w721 ⟨v531, rfl, ho0, hb⟩; refine ⟨_, rfl, ?_⟩; have n0_ := Am (Kd.R_lower (Kd.R_newB (Kd.R_newB (Kd.R_newB (Kd.R_newB ho0 (g := gb445) (o := .cells #[.int .i64 a2_0, .int .i64 a2_1] 23 (0, 0)) (kU BK445)) (g := gb450) (o := .cells #[.int .i64 a7_0, .int .i64 a7_1] 23 (0, 0)) (kU BK450)) (g := gb462) (o := .cells #[.int .i64 t459, .int .i64 t460] 23 (0, 0)) (kU BK462)) (g := gb466) (o := .cells #[.int .i64 t463, .int .i64 t464] 23 (0, 0)) (kU BK466)) (bZ (by repeat (first | (with_reducible first | exact HB.out | apply bA | apply bN | apply bD | refine bX ?_ (by assumption)) | exact HB.out)))); have hp0 := pA BK443 hb; have hv := vK HB hb; have n13_ := Am (bT hv hb); clear HB; have HO532 := n0_; replace BK443 := hp0 BK443; replace BK444 := hp0 BK444; replace BK445 := hp0 BK445; replace BK446 := hp0 BK446; replace BK447 := hp0 BK447; replace BK448 := hp0 BK448; replace BK449 := hp0 BK449; replace BK450 := hp0 BK450; replace BK462 := hp0 BK462; replace BK466 := hp0 BK466; replace BK471 := hp0 BK471; replace BK476 := hp0 BK476; have HB := n13_; clear n0_ n13_ hp0 hv; (try clear hb); (try clear ho0); have zq722 := c3 BK449; have zq723 := c2 BK450) | ((with_reducible refine gate_callee (f := 21) rfl ?_); refine gL (some 336) Try.func21 #[.agg #[.int .i64 a6_0, .int .i64 a6_1, .int .i64 a6_2], .agg #[.int .i64 a7_0, .int .i64 a7_1]] rfl ?_; (with_reducible refine (spec_TimesAtPlace.calls kj538 a6_0 a6_1 a6_2 a7_0 a7_1 t534 t537 _ A694.out).mono ?_); rintro e w724 ⟨v535, rfl, ho0, hb⟩; refine ⟨_, rfl, ?_⟩; have n0_ := Am (Kd.R_elder' (kW HO532) (Kd.R_base ho0) hb); have n1_ := Am (Kd.R_lower (Kd.R_newB (Kd.R_newB (Kd.R_newB (Kd.R_newB (Kd.R_new' ho0 (Kd.R_lt (kW HO532))) (g := gb445) (o := .cells #[.int .i64 a2_0, .int .i64 a2_1] 23 (0, 0)) (kU BK445)) (g := gb450) (o := .cells #[.int .i64 a7_0, .int .i64 a7_1] 23 (0, 0)) (kU BK450)) (g := gb462) (o := .cells #[.int .i64 t459, .int .i64 t460] 23 (0, 0)) (kU BK462)) (g := gb466) (o := .cells #[.int .i64 t463, .int .i64 t464] 23 (0, 0)) (kU BK466)) (bZ (by repeat (first | (with_reducible first | exact HB.out | apply bA | apply bN | apply bD | refine bX ?_ (by assumption)) | exact HB.out)))); have hp0 := pA BK443 hb; have hv := vK HB hb; have n14_ := Am (bT hv hb); clear HO532; clear HB; have HO532 := n0_; have HO536 := n1_; replace BK443 := hp0 BK443; replace BK444 := hp0 BK444; replace BK445 := hp0 BK445; replace BK446 := hp0 BK446; replace BK447 := hp0 BK447; replace BK448 := hp0 BK448; replace BK449 := hp0 BK449; replace BK450 := hp0 BK450; replace BK462 := hp0 BK462; replace BK466 := hp0 BK466; replace BK471 := hp0 BK471; replace BK476 := hp0 BK476; have HB := n14_; clear n0_ n1_ n14_ hp0 hv; (try clear hb); (try clear ho0); have zq725 := c3 BK449; have zq726 := c2 BK450) | ((with_reducible refine gate_callee (f := 15) rfl ?_); refine gL (some 342) Try.func15 #[.agg #[.int .i64 a6_0, .int .i64 a6_1, .int .i64 a6_2], .agg #[.int .i64 a7_0, .int .i64 a7_1]] rfl ?_; (with_reducible refine (impl_HandAt.calls kj538 a6_0 a6_1 a6_2 a7_0 a7_1 t538 t539 t540 _ A695.out).mono ?_); rintro e w727 ⟨rfl, hb⟩; refine ⟨_, rfl, ?_⟩; have n0_ := Am (Kd.R_below (kW HO532) hb); have n1_ := Am (Kd.R_below (kW HO536) hb); have hp0 := pA BK443 hb; have hv := vK HB hb; have n14_ := Am (bT hv hb); clear HO532; clear HO536; clear HB; have HO532 := n0_; have HO536 := n1_; replace BK443 := hp0 BK443; replace BK444 := hp0 BK444; replace BK445 := hp0 BK445; replace BK446 := hp0 BK446; replace BK447 := hp0 BK447; replace BK448 := hp0 BK448; replace BK449 := hp0 BK449; replace BK450 := hp0 BK450; replace BK462 := hp0 BK462; replace BK466 := hp0 BK466; replace BK471 := hp0 BK471; replace BK476 := hp0 BK476; have HB := n14_; clear n0_ n1_ n14_ hp0 hv; (try clear hb)) | ((with_reducible refine gate_dst (N := 59) rfl ?_); (try (refine gate_guard (by rfl) ?_; dsimp only)); refine bE 59 #[.int .i64 0, .int .i64 0] 23 ?_; intro gb541 hg w728 hbox hb; have n0_ := Am (Kd.R_below (Kd.R_elderB (kW HO532) gb541 (Nat.le_of_eq hg.symm)) hb); have n1_ := Am (Kd.R_below (Kd.R_elderB (kW HO536) gb541 (Nat.le_of_eq hg.symm)) hb); have hp0 := pA BK443 hb; have hv := vK HB hb; have n14_ := Am (bT hv hb); have n15_ := Am (hbox); have GE541 := kG hg hv; have hp1 := pK BK443 hb; obtain ⟨NB443_541, NB541_443⟩ := kXY hg hp1 BK443; obtain ⟨NB444_541, NB541_444⟩ := kXY hg hp1 BK444; obtain ⟨NB445_541, NB541_445⟩ := kXY hg hp1 BK445; obtain ⟨NB446_541, NB541_446⟩ := kXY hg hp1 BK446; obtain ⟨NB447_541, NB541_447⟩ := kXY hg hp1 BK447; obtain ⟨NB448_541, NB541_448⟩ := kXY hg hp1 BK448; obtain ⟨NB449_541, NB541_449⟩ := kXY hg hp1 BK449; obtain ⟨NB450_541, NB541_450⟩ := kXY hg hp1 BK450; obtain ⟨NB462_541, NB541_462⟩ := kXY hg hp1 BK462; obtain ⟨NB466_541, NB541_466⟩ := kXY hg hp1 BK466; obtain ⟨NB471_541, NB541_471⟩ := kXY hg hp1 BK471; obtain ⟨NB476_541, NB541_476⟩ := kXY hg hp1 BK476; clear HO532; clear HO536; clear HB; have HO532 := n0_; have HO536 := n1_; replace BK443 := hp0 BK443; replace BK444 := hp0 BK444; replace BK445 := hp0 BK445; replace BK446 := hp0 BK446; replace BK447 := hp0 BK447; replace BK448 := hp0 BK448; replace BK449 := hp0 BK449; replace BK450 := hp0 BK450; replace BK462 := hp0 BK462; replace BK466 := hp0 BK466; replace BK471 := hp0 BK471; replace BK476 := hp0 BK476; have HB := n14_; have BK541 := n15_; clear n0_ n1_ n14_ n15_ hp0 hp1 hv; clear hb hbox hg; have nq729 := kO NB541_443; have nq730 := kO NB541_444; have nq731 := kO NB541_445; have nq732 := kO NB541_446; have nq733 := kO NB541_447; have nq734 := kO NB541_448; have nq735 := kO NB541_449; have nq736 := kO NB541_450; have nq737 := kO NB541_462; have nq738 := kO NB541_466; have nq739 := kO NB541_471; have nq740 := kO NB541_476; have zq741 := c2 BK541; have zq742 := c3 BK449; have zq743 := c2 BK450) | ((with_reducible refine gate_callee (f := 22) rfl ?_); refine gL (some 348) Try.func22 #[.agg #[.int .i64 a6_0, .int .i64 a6_1, .int .i64 a6_2], .agg #[.int .i64 a7_0, .int .i64 a7_1]] rfl ?_; (with_reducible refine (spec_HandAt.calls kj538 a6_0 a6_1 a6_2 a7_0 a7_1 t542 t543 t544 _ A696.out).mono ?_); rintro e w744 ⟨rfl, hb⟩; refine ⟨_, rfl, ?_⟩; have n0_ := Am (Kd.R_below (by (with_reducible repeat (first | apply Kd.R_alloc | apply Kd.R_drewN | apply Kd.R_drew)); exact (Kd.R_mono (Kd.R_far (p := ⟨gb541, 1, none⟩) (Kd.R_far (p := ⟨gb541, 0, none⟩) (Kd.R_mono HO532.out (fun k_ hk => (⟨hk, hk.2⟩ : _ ∧ k_ ≠ gb541))) (fun _ hk => hk.2) (.int .i64 t538)) (fun _ hk => hk.2) (.int .i64 t539)) (fun _ h_ => h_.1))) hb); have n1_ := Am (Kd.R_below (by (with_reducible repeat (first | apply Kd.R_alloc | apply Kd.R_drewN | apply Kd.R_drew)); exact (Kd.R_mono (Kd.R_far (p := ⟨gb541, 1, none⟩) (Kd.R_far (p := ⟨gb541, 0, none⟩) (Kd.R_mono HO536.out (fun k_ hk => (⟨hk, hk.2⟩ : _ ∧ k_ ≠ gb541))) (fun _ hk => hk.2) (.int .i64 t538)) (fun _ hk => hk.2) (.int .i64 t539)) (fun _ h_ => h_.1))) hb); have hp0 := pB gb541 BK443 hb; have n14_ := Am (kB (g := gb541) (o := .cells #[.int .i64 t538, .int .i64 t539] 23 (0, 0)) (by (with_reducible repeat (first | refine kN ?_ _ | refine kD ?_ | refine kA ?_ _)); refine kP (cs := #[.int .i64 t538, .int .i64 0]) ?_ 1 _ rfl; (with_reducible repeat (first | refine kN ?_ _ | refine kD ?_ | refine kA ?_ _)); refine kP (cs := #[.int .i64 0, .int .i64 0]) ?_ 0 _ rfl; (with_reducible repeat (first | refine kN ?_ _ | refine kD ?_ | refine kA ?_ _)); exact BK541.out) hb); have hv := vK HB hb; have n15_ := Am (bT hv hb); clear HO532; clear HO536; clear BK541; clear HB; have HO532 := n0_; have HO536 := n1_; replace BK443 := hp0 NB443_541 BK443; replace BK444 := hp0 NB444_541 BK444; replace BK445 := hp0 NB445_541 BK445; replace BK446 := hp0 NB446_541 BK446; replace BK447 := hp0 NB447_541 BK447; replace BK448 := hp0 NB448_541 BK448; replace BK449 := hp0 NB449_541 BK449; replace BK450 := hp0 NB450_541 BK450; replace BK462 := hp0 NB462_541 BK462; replace BK466 := hp0 NB466_541 BK466; replace BK471 := hp0 NB471_541 BK471; replace BK476 := hp0 NB476_541 BK476; have BK541 := n14_; have HB := n15_; clear n0_ n1_ n14_ n15_ hp0 hv; (try clear hb); (try clear hk)) | ((with_reducible refine gate_dst (N := 61) rfl ?_); (try (refine gate_guard (by rfl) ?_; dsimp only)); refine bE 61 #[.int .i64 0, .int .i64 0] 23 ?_; intro gb545 hg w745 hbox hb; have n0_ := Am (Kd.R_below (Kd.R_elderB (kW HO532) gb545 (Nat.le_of_eq hg.symm)) hb); have n1_ := Am (Kd.R_below (Kd.R_elderB (kW HO536) gb545 (Nat.le_of_eq hg.symm)) hb); have hp0 := pA BK443 hb; have hv := vK HB hb; have n15_ := Am (bT hv hb); have n16_ := Am (hbox); have GE545 := kG hg hv; have hp1 := pK BK443 hb; obtain ⟨NB443_545, NB545_443⟩ := kXY hg hp1 BK443; obtain ⟨NB444_545, NB545_444⟩ := kXY hg hp1 BK444; obtain ⟨NB445_545, NB545_445⟩ := kXY hg hp1 BK445; obtain ⟨NB446_545, NB545_446⟩ := kXY hg hp1 BK446; obtain ⟨NB447_545, NB545_447⟩ := kXY hg hp1 BK447; obtain ⟨NB448_545, NB545_448⟩ := kXY hg hp1 BK448; obtain ⟨NB449_545, NB545_449⟩ := kXY hg hp1 BK449; obtain ⟨NB450_545, NB545_450⟩ := kXY hg hp1 BK450; obtain ⟨NB462_545, NB545_462⟩ := kXY hg hp1 BK462; obtain ⟨NB466_545, NB545_466⟩ := kXY hg hp1 BK466; obtain ⟨NB471_545, NB545_471⟩ := kXY hg hp1 BK471; obtain ⟨NB476_545, NB545_476⟩ := kXY hg hp1 BK476; obtain ⟨NB541_545, NB545_541⟩ := kXY hg hp1 BK541; clear HO532; clear HO536; clear HB; have HO532 := n0_; have HO536 := n1_; replace BK443 := hp0 BK443; replace BK444 := hp0 BK444; replace BK445 := hp0 BK445; replace BK446 := hp0 BK446; replace BK447 := hp0 BK447; replace BK448 := hp0 BK448; replace BK449 := hp0 BK449; replace BK450 := hp0 BK450; replace BK462 := hp0 BK462; replace BK466 := hp0 BK466; replace BK471 := hp0 BK471; replace BK476 := hp0 BK476; replace BK541 := hp0 BK541; have HB := n15_; have BK545 := n16_; clear n0_ n1_ n15_ n16_ hp0 hp1 hv; clear hb hbox hg; have nq746 := kO NB545_443; have nq747 := kO NB545_444; have nq748 := kO NB545_445; have nq749 := kO NB545_446; have nq750 := kO NB545_447; have nq751 := kO NB545_448; have nq752 := kO NB545_449; have nq753 := kO NB545_450; have nq754 := kO NB545_462; have nq755 := kO NB545_466; have nq756 := kO NB545_471; have nq757 := kO NB545_476; have nq758 := kO NB545_541; have zq759 := c2 BK545))
       (try simp only [Act.put, List.setIfInBounds_toArray, List.set_cons_zero, List.set_cons_succ])
       go_cut [369] from 285 to 368 (fun v369 wc => ∃ (kq : Nat) (x369_696 : Bool), v369 = .bool x369_696 ∧ Aside0 (laws_FnHandsAheadOfAll.j10 kq t530 t533 x369_696 a6_0 a6_1 a6_2 a7_0 a7_1 = some r) ∧ Aside0 (kq ≤ kj538) ∧ Aside0 (Kd.R k23 23 wc w.heap.size (fun k_ => k_ ≠ gb445 ∧ k_ ≠ gb450 ∧ k_ ≠ gb462 ∧ k_ ≠ gb466 ∧ k_ ≠ gb541 ∧ k_ ≠ gb545) v531 t530) ∧ Aside0 (wc.heap[gb443]? = some (.cells #[.int .i64 a0_0, .int .i64 a0_1, .int .i64 a0_2] 25 (0, 0))) ∧ Aside0 (wc.heap[gb444]? = some (.cells #[.int .i64 a1_0, .int .i64 a1_1, .int .i64 a1_2] 25 (0, 0))) ∧ Aside0 (wc.heap[gb445]? = some (.cells #[.int .i64 a2_0, .int .i64 a2_1] 23 (0, 0))) ∧ Aside0 (wc.heap[gb446]? = some (.cells #[.int .i64 a3_0, .int .i64 a3_1, .int .i64 a3_2] 25 (0, 0))) ∧ Aside0 (wc.heap[gb447]? = some (.cells #[.int .i64 a4_0, .int .i64 a4_1, .int .i64 a4_2] 25 (0, 0))) ∧ Aside0 (wc.heap[gb448]? = some (.cells #[.int .i64 a5_0, .int .i64 a5_1, .int .i64 a5_2] 25 (0, 0))) ∧ Aside0 (wc.heap[gb449]? = some (.cells #[.int .i64 a6_0, .int .i64 a6_1, .int .i64 a6_2] 25 (0, 0))) ∧ Aside0 (wc.heap[gb450]? = some (.cells #[.int .i64 a7_0, .int .i64 a7_1] 23 (0, 0))) ∧ Aside0 (wc.heap[gb462]? = some (.cells #[.int .i64 t459, .int .i64 t460] 23 (0, 0))) ∧ Aside0 (wc.heap[gb466]? = some (.cells #[.int .i64 t463, .int .i64 t464] 23 (0, 0))) ∧ Aside0 (wc.heap[gb471]? = some (.cells #[.int .i64 t467, .int .i64 t468, .int .i64 t469] 25 (0, 0))) ∧ Aside0 (wc.heap[gb476]? = some (.cells #[.int .i64 t472, .int .i64 t473, .int .i64 t474] 25 (0, 0))) ∧ Aside0 (wc.heap[gb541]? = some (.cells #[.int .i64 t538, .int .i64 t539] 23 (0, 0))) ∧ Aside0 (wc.heap[gb545]? = some (.cells #[.int .i64 t542, .int .i64 t543] 23 (0, 0))) ∧ Aside0 (Below w.heap.size w wc))
       case first =>
        have H := HC697.out
        clear HC697
        by_cases c760 : (t533 != t537) = true
        ·rw [if_pos c760] at H
         have c760b0 : (t533 != t537) = true := c760
         (try (have c760b1 : decide (t533 = t537) = false := by simpa using c760))
         (try (have c760b2 : (t533 == t537) = false := by simpa using c760))
         (try (have c760b3 : ¬ (t533 = t537) := by simpa using c760))
         clear c760
         (first | rw [c760b0] | (simp only [i64_w, i32_w]; rw [c760b0]) | skip)
         as_aux_lemma =>
          exact absurd ((laws_FnHandsAheadOfAll.j10_no H).symm.trans hlaw.out) (by decide)
        rw [if_neg c760] at H
        have c760b0 : (t533 != t537) = false := by simpa using c760
        (try (have c760b1 : decide (t533 = t537) = true := by simpa using c760))
        (try (have c760b2 : (t533 == t537) = true := by simpa using c760))
        clear c760
        (first | rw [c760b0] | (simp only [i64_w, i32_w]; rw [c760b0]) | skip)
        replace H := Option.bind_eq_some_iff.mp H
        obtain ⟨t546, A7610, H⟩ := H
        try dsimp only at H
        have A761 := Am A7610
        clear A7610
        by_cases c762 : t546 = true
        ·subst c762
         have H1 : (if (t540 != t544) = true then (laws_FnHandsAheadOfAll.j10 kj538 t530 t533 true a6_0 a6_1 a6_2 a7_0 a7_1) else (laws_FnHandsAheadOfAll.j10 kj538 t530 t533 (!(t538 == t542) || (!(t539 == t543))) a6_0 a6_1 a6_2 a7_0 a7_1)) = some r := by rw [if_pos rfl] at H; exact H
         clear H
         have H := H1
         clear H1
         by_cases c763 : (t540 != t544) = true
         ·rw [if_pos c763] at H
          have c763b0 : (t540 != t544) = true := c763
          (try (have c763b1 : decide (t540 = t544) = false := by simpa using c763))
          (try (have c763b2 : (t540 == t544) = false := by simpa using c763))
          (try (have c763b3 : ¬ (t540 = t544) := by simpa using c763))
          clear c763
          as_aux_lemma =>
           exact absurd ((laws_FnHandsAheadOfAll.j10_no H).symm.trans hlaw.out) (by decide)
         rw [if_neg c763] at H
         have c763b0 : (t540 != t544) = false := by simpa using c763
         (try (have c763b1 : decide (t540 = t544) = true := by simpa using c763))
         (try (have c763b2 : (t540 == t544) = true := by simpa using c763))
         clear c763
         as_aux_lemma =>
          have H' := Am H
          clear H
          obtain ⟨Ao764, co764, eo764⟩ := Kd.R_slice HO532.out
          subst eo764
          obtain ⟨Ao765, co765, eo765⟩ := Kd.R_slice HO536.out
          subst eo765
          go_wp2_with (first | (go_at_call 12; (with_reducible refine (laws_kTurns.calls kj538 _ _ t530 _ _ t534 true _ ?side1 ?side2 ?side3 ?side4 A761.out).mono ?_); (case side1 => refine (Kd.R_reads' (e := 23) (base := w.heap.size) (ok := fun k_ => (((((((True ∧ k_ ≠ gb445) ∧ k_ ≠ gb450) ∧ k_ ≠ gb462) ∧ k_ ≠ gb466) ∧ some k_ ≠ (.slice Ao765 t534.length co765 : Value).ownBlock) ∧ k_ ≠ gb541) ∧ k_ ≠ gb545)) (n := t530.length) (c := co764) ?_).2.2; exact (by (with_reducible repeat (first | apply Kd.R_alloc | apply Kd.R_drewN | apply Kd.R_drew)); exact (Kd.R_mono (Kd.R_far (p := ⟨gb545, 1, none⟩) (Kd.R_far (p := ⟨gb545, 0, none⟩) (Kd.R_mono HO532.out (fun k_ hk => (⟨hk, hk.2⟩ : _ ∧ k_ ≠ gb545))) (fun _ hk => hk.2) (.int .i64 t542)) (fun _ hk => hk.2) (.int .i64 t543)) (fun _ h_ => h_.1)))); (case side2 => exact (Kd.R_reads' HO532.out).2.1); (case side3 => refine (Kd.R_reads' (e := 23) (base := w.heap.size) (ok := fun k_ => (((((((True ∧ some k_ ≠ (.slice Ao764 t530.length co764 : Value).ownBlock) ∧ k_ ≠ gb445) ∧ k_ ≠ gb450) ∧ k_ ≠ gb462) ∧ k_ ≠ gb466) ∧ k_ ≠ gb541) ∧ k_ ≠ gb545)) (n := t534.length) (c := co765) ?_).2.2; exact (by (with_reducible repeat (first | apply Kd.R_alloc | apply Kd.R_drewN | apply Kd.R_drew)); exact (Kd.R_mono (Kd.R_far (p := ⟨gb545, 1, none⟩) (Kd.R_far (p := ⟨gb545, 0, none⟩) (Kd.R_mono HO536.out (fun k_ hk => (⟨hk, hk.2⟩ : _ ∧ k_ ≠ gb545))) (fun _ hk => hk.2) (.int .i64 t542)) (fun _ hk => hk.2) (.int .i64 t543)) (fun _ h_ => h_.1)))); (case side4 => exact (Kd.R_reads' HO536.out).2.1); rintro e w' ⟨rfl, ⟨nd, rfl⟩⟩; have nq766 := kO NB541_443; have nq767 := kO NB541_444; have nq768 := kO NB541_445; have nq769 := kO NB541_446; have nq770 := kO NB541_447; have nq771 := kO NB541_448; have nq772 := kO NB541_449; have nq773 := kO NB541_450; have nq774 := kO NB541_462; have nq775 := kO NB541_466; have nq776 := kO NB541_471; have nq777 := kO NB541_476; have nq778 := kO NB541_545; have zq779 := c2 BK541; have nq780 := kO NB545_443; have nq781 := kO NB545_444; have nq782 := kO NB545_445; have nq783 := kO NB545_446; have nq784 := kO NB545_447; have nq785 := kO NB545_448; have nq786 := kO NB545_449; have nq787 := kO NB545_450; have nq788 := kO NB545_462; have nq789 := kO NB545_466; have nq790 := kO NB545_471; have nq791 := kO NB545_476; have zq792 := c2 BK545))
          go_meet
          case rel => exact ⟨_, ((!(t538 == t542) || (!(t539 == t543)))), (by first | rfl | (simp; done) | (simp [*]; done)), H', ⟨by have := HJ16.out; have := HJ173.out; have := HJ274.out; have := HJ360.out; have := HJ494.out; have := HJ538.out; first | omega | exact Nat.le_refl _⟩, ⟨by (with_reducible repeat (first | apply Kd.R_alloc | apply Kd.R_drewN | apply Kd.R_drew)); exact Kd.R_mono (Kd.R_far (p := ⟨gb545, 1, none⟩) (Kd.R_far (p := ⟨gb545, 0, none⟩) (Kd.R_mono HO532.out (fun k_ hk => (⟨hk, hk.2⟩ : _ ∧ k_ ≠ gb545))) (fun _ hk => hk.2) (.int .i64 t542)) (fun _ hk => hk.2) (.int .i64 t543)) (fun _ hk => ⟨hk.1.1.1.1.1.1.1.2, ⟨hk.1.1.1.1.1.1.2, ⟨hk.1.1.1.1.1.2, ⟨hk.1.1.1.1.2, ⟨hk.1.1.2, hk.1.2⟩⟩⟩⟩⟩)⟩, ⟨by (with_reducible repeat (first | refine kN ?_ _ | refine kD ?_ | refine kA ?_ _)); refine kR ?_ NB443_545.out _; (with_reducible repeat (first | refine kN ?_ _ | refine kD ?_ | refine kA ?_ _)); refine kR ?_ NB443_545.out _; (with_reducible repeat (first | refine kN ?_ _ | refine kD ?_ | refine kA ?_ _)); exact BK443.out⟩, ⟨by (with_reducible repeat (first | refine kN ?_ _ | refine kD ?_ | refine kA ?_ _)); refine kR ?_ NB444_545.out _; (with_reducible repeat (first | refine kN ?_ _ | refine kD ?_ | refine kA ?_ _)); refine kR ?_ NB444_545.out _; (with_reducible repeat (first | refine kN ?_ _ | refine kD ?_ | refine kA ?_ _)); exact BK444.out⟩, ⟨by (with_reducible repeat (first | refine kN ?_ _ | refine kD ?_ | refine kA ?_ _)); refine kR ?_ NB445_545.out _; (with_reducible repeat (first | refine kN ?_ _ | refine kD ?_ | refine kA ?_ _)); refine kR ?_ NB445_545.out _; (with_reducible repeat (first | refine kN ?_ _ | refine kD ?_ | refine kA ?_ _)); exact BK445.out⟩, ⟨by (with_reducible repeat (first | refine kN ?_ _ | refine kD ?_ | refine kA ?_ _)); refine kR ?_ NB446_545.out _; (with_reducible repeat (first | refine kN ?_ _ | refine kD ?_ | refine kA ?_ _)); refine kR ?_ NB446_545.out _; (with_reducible repeat (first | refine kN ?_ _ | refine kD ?_ | refine kA ?_ _)); exact BK446.out⟩, ⟨by (with_reducible repeat (first | refine kN ?_ _ | refine kD ?_ | refine kA ?_ _)); refine kR ?_ NB447_545.out _; (with_reducible repeat (first | refine kN ?_ _ | refine kD ?_ | refine kA ?_ _)); refine kR ?_ NB447_545.out _; (with_reducible repeat (first | refine kN ?_ _ | refine kD ?_ | refine kA ?_ _)); exact BK447.out⟩, ⟨by (with_reducible repeat (first | refine kN ?_ _ | refine kD ?_ | refine kA ?_ _)); refine kR ?_ NB448_545.out _; (with_reducible repeat (first | refine kN ?_ _ | refine kD ?_ | refine kA ?_ _)); refine kR ?_ NB448_545.out _; (with_reducible repeat (first | refine kN ?_ _ | refine kD ?_ | refine kA ?_ _)); exact BK448.out⟩, ⟨by (with_reducible repeat (first | refine kN ?_ _ | refine kD ?_ | refine kA ?_ _)); refine kR ?_ NB449_545.out _; (with_reducible repeat (first | refine kN ?_ _ | refine kD ?_ | refine kA ?_ _)); refine kR ?_ NB449_545.out _; (with_reducible repeat (first | refine kN ?_ _ | refine kD ?_ | refine kA ?_ _)); exact BK449.out⟩, ⟨by (with_reducible repeat (first | refine kN ?_ _ | refine kD ?_ | refine kA ?_ _)); refine kR ?_ NB450_545.out _; (with_reducible repeat (first | refine kN ?_ _ | refine kD ?_ | refine kA ?_ _)); refine kR ?_ NB450_545.out _; (with_reducible repeat (first | refine kN ?_ _ | refine kD ?_ | refine kA ?_ _)); exact BK450.out⟩, ⟨by (with_reducible repeat (first | refine kN ?_ _ | refine kD ?_ | refine kA ?_ _)); refine kR ?_ NB462_545.out _; (with_reducible repeat (first | refine kN ?_ _ | refine kD ?_ | refine kA ?_ _)); refine kR ?_ NB462_545.out _; (with_reducible repeat (first | refine kN ?_ _ | refine kD ?_ | refine kA ?_ _)); exact BK462.out⟩, ⟨by (with_reducible repeat (first | refine kN ?_ _ | refine kD ?_ | refine kA ?_ _)); refine kR ?_ NB466_545.out _; (with_reducible repeat (first | refine kN ?_ _ | refine kD ?_ | refine kA ?_ _)); refine kR ?_ NB466_545.out _; (with_reducible repeat (first | refine kN ?_ _ | refine kD ?_ | refine kA ?_ _)); exact BK466.out⟩, ⟨by (with_reducible repeat (first | refine kN ?_ _ | refine kD ?_ | refine kA ?_ _)); refine kR ?_ NB471_545.out _; (with_reducible repeat (first | refine kN ?_ _ | refine kD ?_ | refine kA ?_ _)); refine kR ?_ NB471_545.out _; (with_reducible repeat (first | refine kN ?_ _ | refine kD ?_ | refine kA ?_ _)); exact BK471.out⟩, ⟨by (with_reducible repeat (first | refine kN ?_ _ | refine kD ?_ | refine kA ?_ _)); refine kR ?_ NB476_545.out _; (with_reducible repeat (first | refine kN ?_ _ | refine kD ?_ | refine kA ?_ _)); refine kR ?_ NB476_545.out _; (with_reducible repeat (first | refine kN ?_ _ | refine kD ?_ | refine kA ?_ _)); exact BK476.out⟩, ⟨by (with_reducible repeat (first | refine kN ?_ _ | refine kD ?_ | refine kA ?_ _)); refine kR ?_ NB541_545.out _; (with_reducible repeat (first | refine kN ?_ _ | refine kD ?_ | refine kA ?_ _)); refine kR ?_ NB541_545.out _; (with_reducible repeat (first | refine kN ?_ _ | refine kD ?_ | refine kA ?_ _)); exact BK541.out⟩, ⟨by (with_reducible repeat (first | refine kN ?_ _ | refine kD ?_ | refine kA ?_ _)); refine kP (cs := #[.int .i64 t542, .int .i64 0]) ?_ 1 _ rfl; (with_reducible repeat (first | refine kN ?_ _ | refine kD ?_ | refine kA ?_ _)); refine kP (cs := #[.int .i64 0, .int .i64 0]) ?_ 0 _ rfl; (with_reducible repeat (first | refine kN ?_ _ | refine kD ?_ | refine kA ?_ _)); exact BK545.out⟩, ⟨by repeat (first | (with_reducible first | exact HB.out | apply bA | apply bN | apply bD | refine bX ?_ (by assumption)) | exact HB.out)⟩⟩
        replace c762 := Bool.eq_false_iff.mpr c762
        subst c762
        have H1 : (laws_FnHandsAheadOfAll.j10 kj538 t530 t533 true a6_0 a6_1 a6_2 a7_0 a7_1) = some r := by rw [if_neg (show ¬ (false = true) by decide)] at H; exact H
        clear H
        have H := H1
        clear H1
        as_aux_lemma =>
         exact absurd ((laws_FnHandsAheadOfAll.j10_no H).symm.trans hlaw.out) (by decide)
       clear HC697
       (try clear c20); (try clear c21); (try clear zq111); (try clear zq112); (try clear zq113); (try clear zq115); (try clear zq116); (try clear zq33); (try clear zq40); (try clear zq46); (try clear zq48); (try clear zq49); (try clear zq507); (try clear zq50); (try clear zq518); (try clear zq528); (try clear zq52); (try clear zq530); (try clear zq531); (try clear zq532); (try clear zq53); (try clear zq54); (try clear zq65); (try clear zq66); (try clear zq67); (try clear zq68); (try clear zq709); (try clear zq720); (try clear zq722); (try clear zq723); (try clear zq725); (try clear zq726); (try clear zq741); (try clear zq742); (try clear zq743); (try clear zq759); (try clear zq80); (try clear zq81); (try clear zq82); (try clear zq95); (try clear zq96); (try clear zq97)
       obtain ⟨kq, x369_696, rfl, HA, HJ696, HO_55, BK443, BK444, BK445, BK446, BK447, BK448, BK449, BK450, BK462, BK466, BK471, BK476, BK541, BK545, HB⟩ := hcut
       cases kq with
       | zero => exact absurd HA.out (by simp [laws_FnHandsAheadOfAll.j10])
       | succ kj696 =>
        have H := HA.out
        clear HA
        simp only [laws_FnHandsAheadOfAll.j10] at H
        by_cases c793 : x369_696 = true
        ·subst c793
         have H1 : (some false) = some r := by rw [if_pos rfl] at H; exact H
         clear H
         have H := H1
         clear H1
         as_aux_lemma =>
          exact absurd ((Option.some.inj H).trans hlaw.out) (by decide)
        replace c793 := Bool.eq_false_iff.mpr c793
        subst c793
        have H1 : (if t533 = true then ((laws_kAbs.f a6_2).bind fun t547 => (if (t530.length : Int) = t547 then ((laws_kRises.f kj696 t530).bind fun t548 => (laws_FnHandsAheadOfAll.j11 kj696 t530 (!t548) a6_0 a6_1 a6_2 a7_0 a7_1)) else (laws_FnHandsAheadOfAll.j11 kj696 t530 true a6_0 a6_1 a6_2 a7_0 a7_1))) else (some true)) = some r := by rw [if_neg (show ¬ (false = true) by decide)] at H; exact H
        clear H
        have H := H1
        clear H1
        by_cases c794 : t533 = true
        ·subst c794
         have H1 : ((laws_kAbs.f a6_2).bind fun t547 => (if (t530.length : Int) = t547 then ((laws_kRises.f kj696 t530).bind fun t548 => (laws_FnHandsAheadOfAll.j11 kj696 t530 (!t548) a6_0 a6_1 a6_2 a7_0 a7_1)) else (laws_FnHandsAheadOfAll.j11 kj696 t530 true a6_0 a6_1 a6_2 a7_0 a7_1))) = some r := by rw [if_pos rfl] at H; exact H
         clear H
         have H := H1
         clear H1
         have HC795 := Am H
         clear H
         go_upto_region 58 with (fail)
         go_cut [381] from 370 to 380 (fun v381 wc => ∃ (kq : Nat) (x381_794 : Bool), v381 = .bool x381_794 ∧ Aside0 (laws_FnHandsAheadOfAll.j11 kq t530 x381_794 a6_0 a6_1 a6_2 a7_0 a7_1 = some r) ∧ Aside0 (kq ≤ kj696) ∧ Aside0 (Kd.R k23 23 wc w.heap.size (fun k_ => k_ ≠ gb445 ∧ k_ ≠ gb450 ∧ k_ ≠ gb462 ∧ k_ ≠ gb466 ∧ k_ ≠ gb541 ∧ k_ ≠ gb545) v531 t530) ∧ Aside0 (wc.heap[gb443]? = some (.cells #[.int .i64 a0_0, .int .i64 a0_1, .int .i64 a0_2] 25 (0, 0))) ∧ Aside0 (wc.heap[gb444]? = some (.cells #[.int .i64 a1_0, .int .i64 a1_1, .int .i64 a1_2] 25 (0, 0))) ∧ Aside0 (wc.heap[gb445]? = some (.cells #[.int .i64 a2_0, .int .i64 a2_1] 23 (0, 0))) ∧ Aside0 (wc.heap[gb446]? = some (.cells #[.int .i64 a3_0, .int .i64 a3_1, .int .i64 a3_2] 25 (0, 0))) ∧ Aside0 (wc.heap[gb447]? = some (.cells #[.int .i64 a4_0, .int .i64 a4_1, .int .i64 a4_2] 25 (0, 0))) ∧ Aside0 (wc.heap[gb448]? = some (.cells #[.int .i64 a5_0, .int .i64 a5_1, .int .i64 a5_2] 25 (0, 0))) ∧ Aside0 (wc.heap[gb449]? = some (.cells #[.int .i64 a6_0, .int .i64 a6_1, .int .i64 a6_2] 25 (0, 0))) ∧ Aside0 (wc.heap[gb450]? = some (.cells #[.int .i64 a7_0, .int .i64 a7_1] 23 (0, 0))) ∧ Aside0 (wc.heap[gb462]? = some (.cells #[.int .i64 t459, .int .i64 t460] 23 (0, 0))) ∧ Aside0 (wc.heap[gb466]? = some (.cells #[.int .i64 t463, .int .i64 t464] 23 (0, 0))) ∧ Aside0 (wc.heap[gb471]? = some (.cells #[.int .i64 t467, .int .i64 t468, .int .i64 t469] 25 (0, 0))) ∧ Aside0 (wc.heap[gb476]? = some (.cells #[.int .i64 t472, .int .i64 t473, .int .i64 t474] 25 (0, 0))) ∧ Aside0 (wc.heap[gb541]? = some (.cells #[.int .i64 t538, .int .i64 t539] 23 (0, 0))) ∧ Aside0 (wc.heap[gb545]? = some (.cells #[.int .i64 t542, .int .i64 t543] 23 (0, 0))) ∧ Aside0 (Below w.heap.size w wc))
         case first =>
          have H := HC795.out
          clear HC795
          replace H := Option.bind_eq_some_iff.mp H
          obtain ⟨t547, A7960, H⟩ := H
          try dsimp only at H
          have A796 := Am A7960
          clear A7960
          by_cases c797 : (t530.length : Int) = t547
          ·rw [if_pos c797] at H
           have c797b0 : ((t530.length : Int) == t547) = true := beq_iff_eq.mpr c797
           have c797b1 : ((t530.length : Int) != t547) = false := bne_eq_false_iff_eq.mpr c797
           clear c797
           (first | rw [c797b0] | (simp only [i64_w, i32_w]; rw [c797b0]) | skip)
           replace H := Option.bind_eq_some_iff.mp H
           obtain ⟨t548, A7980, H⟩ := H
           try dsimp only at H
           have A798 := Am A7980
           clear A7980
           as_aux_lemma =>
            have H' := Am H
            clear H
            obtain ⟨Ao799, co799, eo799⟩ := Kd.R_slice HO_55.out
            subst eo799
            have nq800 := kO NB449_443; have nq801 := kO NB449_444; have nq802 := kO NB449_445; have nq803 := kO NB449_446; have nq804 := kO NB449_447; have nq805 := kO NB449_448; have nq806 := kO NB449_450; have nq807 := kO NB449_462; have nq808 := kO NB449_466; have nq809 := kO NB449_471; have nq810 := kO NB449_476; have nq811 := kO NB449_541; have nq812 := kO NB449_545
            have zq813 := c3 BK449
            go_wp2_with (first | ((with_reducible refine gate_callee (f := 13) rfl ?_); refine gL (some 375) Try.func13 #[.int .i64 a6_2] rfl ?_; (with_reducible refine (laws_kAbs.calls a6_2 t547 _ A796.out).mono ?_); rintro e w' ⟨rfl, ⟨nd, rfl⟩⟩; refine ⟨_, rfl, ?_⟩) | (go_at_call 14; (with_reducible refine (laws_kRises.calls kj696 _ _ t530 t548 _ ?side1 ?side2 A798.out).mono ?_); (case side1 => repeat (first | exact (Kd.R_reads' HO_55.out).2.2 | (with_reducible refine Kd.C_alloc ?_ _) | (with_reducible refine Kd.C_drewN ?_ _) | (with_reducible refine Kd.C_drew ?_))); (case side2 => exact (Kd.R_reads' HO_55.out).2.1); rintro e w' ⟨rfl, ⟨nd, rfl⟩⟩))
            go_meet
            case rel =>
             refine ⟨_, (!t548), (by first | rfl | (simp; done) | (simp [*]; done)), H', ⟨by have := HJ16.out; have := HJ173.out; have := HJ274.out; have := HJ360.out; have := HJ494.out; have := HJ538.out; have := HJ696.out; first | omega | exact Nat.le_refl _⟩, ⟨kW HO_55⟩, ⟨?_⟩, ⟨?_⟩, ⟨?_⟩, ⟨?_⟩, ⟨?_⟩, ⟨?_⟩, ⟨?_⟩, ⟨?_⟩, ⟨?_⟩, ⟨?_⟩, ⟨?_⟩, ⟨?_⟩, ⟨?_⟩, ⟨?_⟩, ⟨by repeat (first | (with_reducible first | exact HB.out | apply bA | apply bN | apply bD | refine bX ?_ (by assumption)) | exact HB.out)⟩⟩
             all_goals ((with_reducible repeat (first | refine kN ?_ _ | refine kD ?_ | refine kA ?_ _)); exact Aside0.out (by assumption))
          rw [if_neg c797] at H
          have c797b0 : ((t530.length : Int) == t547) = false := beq_eq_false_iff_ne.mpr c797
          have c797b1 : ((t530.length : Int) != t547) = true := bne_iff_ne.mpr c797
          (first | rw [c797b0] | (simp only [i64_w, i32_w]; rw [c797b0]) | skip)
          as_aux_lemma =>
           exact absurd ((laws_FnHandsAheadOfAll.j11_no H).symm.trans hlaw.out) (by decide)
         clear HC795
         (try clear c793); (try clear c794); (try clear zq111); (try clear zq112); (try clear zq113); (try clear zq115); (try clear zq116); (try clear zq33); (try clear zq40); (try clear zq46); (try clear zq48); (try clear zq49); (try clear zq507); (try clear zq50); (try clear zq518); (try clear zq528); (try clear zq52); (try clear zq530); (try clear zq531); (try clear zq532); (try clear zq53); (try clear zq54); (try clear zq65); (try clear zq66); (try clear zq67); (try clear zq68); (try clear zq709); (try clear zq720); (try clear zq722); (try clear zq723); (try clear zq725); (try clear zq726); (try clear zq741); (try clear zq742); (try clear zq743); (try clear zq759); (try clear zq80); (try clear zq81); (try clear zq82); (try clear zq95); (try clear zq96); (try clear zq97)
         obtain ⟨kq, x381_794, rfl, HA, HJ794, HO_55, BK443, BK444, BK445, BK446, BK447, BK448, BK449, BK450, BK462, BK466, BK471, BK476, BK541, BK545, HB⟩ := hcut
         cases kq with
         | zero => exact absurd HA.out (by simp [laws_FnHandsAheadOfAll.j11])
         | succ kj794 =>
          have H := HA.out
          clear HA
          simp only [laws_FnHandsAheadOfAll.j11] at H
          by_cases c814 : x381_794 = true
          ·subst c814
           have H1 : (some false) = some r := by rw [if_pos rfl] at H; exact H
           clear H
           have H := H1
           clear H1
           as_aux_lemma =>
            exact absurd ((Option.some.inj H).trans hlaw.out) (by decide)
          replace c814 := Bool.eq_false_iff.mpr c814
          subst c814
          have H1 : (laws_FnHandsAheadOfAll.l3 kj794 t530 (t530.length : Int) 0 a6_0 a6_1 a6_2 a7_0 a7_1) = some r := by rw [if_neg (show ¬ (false = true) by decide)] at H; exact H
          clear H
          have H := H1
          clear H1
          have H' := Am H
          clear H
          obtain ⟨Ao815, co815, eo815⟩ := Kd.R_slice HO_55.out
          subst eo815
          go_wp2
          go_loopg [384] kj794 (fun kq v384 w' => ∃ (x384_9 : Int), v384 = .int .i64 x384_9 ∧ Aside0 (laws_FnHandsAheadOfAll.l3 kq t530 (t530.length : Int) x384_9 a6_0 a6_1 a6_2 a7_0 a7_1 = some r) ∧ Aside0 (kq ≤ kj794) ∧ Aside0 (Kd.R k23 23 w' w.heap.size (fun k_ => k_ ≠ gb445 ∧ k_ ≠ gb450 ∧ k_ ≠ gb462 ∧ k_ ≠ gb466 ∧ k_ ≠ gb541 ∧ k_ ≠ gb545) (.slice Ao815 t530.length co815) t530) ∧ Aside0 (w'.heap[gb443]? = some (.cells #[.int .i64 a0_0, .int .i64 a0_1, .int .i64 a0_2] 25 (0, 0))) ∧ Aside0 (w'.heap[gb444]? = some (.cells #[.int .i64 a1_0, .int .i64 a1_1, .int .i64 a1_2] 25 (0, 0))) ∧ Aside0 (w'.heap[gb445]? = some (.cells #[.int .i64 a2_0, .int .i64 a2_1] 23 (0, 0))) ∧ Aside0 (w'.heap[gb446]? = some (.cells #[.int .i64 a3_0, .int .i64 a3_1, .int .i64 a3_2] 25 (0, 0))) ∧ Aside0 (w'.heap[gb447]? = some (.cells #[.int .i64 a4_0, .int .i64 a4_1, .int .i64 a4_2] 25 (0, 0))) ∧ Aside0 (w'.heap[gb448]? = some (.cells #[.int .i64 a5_0, .int .i64 a5_1, .int .i64 a5_2] 25 (0, 0))) ∧ Aside0 (w'.heap[gb449]? = some (.cells #[.int .i64 a6_0, .int .i64 a6_1, .int .i64 a6_2] 25 (0, 0))) ∧ Aside0 (w'.heap[gb450]? = some (.cells #[.int .i64 a7_0, .int .i64 a7_1] 23 (0, 0))) ∧ Aside0 (w'.heap[gb462]? = some (.cells #[.int .i64 t459, .int .i64 t460] 23 (0, 0))) ∧ Aside0 (w'.heap[gb466]? = some (.cells #[.int .i64 t463, .int .i64 t464] 23 (0, 0))) ∧ Aside0 (w'.heap[gb471]? = some (.cells #[.int .i64 t467, .int .i64 t468, .int .i64 t469] 25 (0, 0))) ∧ Aside0 (w'.heap[gb476]? = some (.cells #[.int .i64 t472, .int .i64 t473, .int .i64 t474] 25 (0, 0))) ∧ Aside0 (w'.heap[gb541]? = some (.cells #[.int .i64 t538, .int .i64 t539] 23 (0, 0))) ∧ Aside0 (w'.heap[gb545]? = some (.cells #[.int .i64 t542, .int .i64 t543] 23 (0, 0))) ∧ Aside0 (Below w.heap.size w w'))
          case atStart => exact ⟨(0), (by first | rfl | (simp; done) | (simp [*]; done)), H', ⟨Nat.le_refl _⟩, ⟨kW HO_55⟩, kV BK443, kV BK444, kV BK445, kV BK446, kV BK447, kV BK448, kV BK449, kV BK450, kV BK462, kV BK466, kV BK471, kV BK476, kV BK541, kV BK545, ⟨by repeat (first | (with_reducible first | exact HB.out | apply bA | apply bN | apply bD | refine bX ?_ (by assumption)) | exact HB.out)⟩⟩
          case round =>
           clear H'
           (try clear c793); (try clear c794); (try clear c814); (try clear zq111); (try clear zq112); (try clear zq113); (try clear zq115); (try clear zq116); (try clear zq33); (try clear zq40); (try clear zq46); (try clear zq48); (try clear zq49); (try clear zq507); (try clear zq50); (try clear zq518); (try clear zq528); (try clear zq52); (try clear zq530); (try clear zq531); (try clear zq532); (try clear zq53); (try clear zq54); (try clear zq65); (try clear zq66); (try clear zq67); (try clear zq68); (try clear zq709); (try clear zq720); (try clear zq722); (try clear zq723); (try clear zq725); (try clear zq726); (try clear zq741); (try clear zq742); (try clear zq743); (try clear zq759); (try clear zq80); (try clear zq81); (try clear zq82); (try clear zq95); (try clear zq96); (try clear zq97)
           obtain ⟨x384_9, rfl, HA, HK9, HO_382, BK443, BK444, BK445, BK446, BK447, BK448, BK449, BK450, BK462, BK466, BK471, BK476, BK541, BK545, HB⟩ := hrel
           cases gk with
           | zero => exact absurd HA.out (by simp [laws_FnHandsAheadOfAll.l3])
           | succ k9 =>
            have H := HA.out
            clear HA
            simp only [laws_FnHandsAheadOfAll.l3] at H
            by_cases c816 : x384_9 < (t530.length : Int)
            ·rw [if_pos c816] at H
             have c816b0 : decide (x384_9 < (t530.length : Int)) = true := decide_eq_true c816
             clear c816
             by_cases c817 : 0 ≤ x384_9
             ·rw [if_pos c817] at H
              have c817b0 : decide (0 ≤ x384_9) = true := decide_eq_true c817
              clear c817
              by_cases c818 : x384_9 < (t530.length : Int)
              ·rw [if_pos c818] at H
               have c818b0 : decide (x384_9 < (t530.length : Int)) = true := decide_eq_true c818
               clear c818
               replace H := Option.bind_eq_some_iff.mp H
               obtain ⟨⟨t551, t552, t553⟩, A8190, H⟩ := H
               try dsimp only at H
               have A819 := Am A8190
               clear A8190
               by_cases c820 : t553 = true
               ·subst c820
                have H1 : (if (!(t551 == a7_0) || (!(t552 == a7_1))) = true then (some false) else (laws_FnHandsAheadOfAll.l3 k9 t530 (t530.length : Int) (wrap64 (x384_9 + 1)) a6_0 a6_1 a6_2 a7_0 a7_1)) = some r := by rw [if_pos rfl] at H; exact H
                clear H
                have H := H1
                clear H1
                by_cases c821 : (!(t551 == a7_0) || (!(t552 == a7_1))) = true
                ·rw [if_pos c821] at H
                 have c821b0 : (!(t551 == a7_0) || (!(t552 == a7_1))) = true := c821
                 clear c821
                 as_aux_lemma =>
                  exact absurd ((Option.some.inj H).trans hlaw.out) (by decide)
                rw [if_neg c821] at H
                have c821b0 : (!(t551 == a7_0) || (!(t552 == a7_1))) = false := by simpa using c821
                clear c821
                as_aux_lemma =>
                 have H' := Am H
                 clear H
                 have p549 : 0 ≤ (x384_9 : Int) := of_decide_eq_true (by first | (with_reducible assumption) | assumption)
                 have q549 : x384_9 < (t530.length : Int) := of_decide_eq_true (by first | (with_reducible assumption) | assumption)
                 obtain ⟨ad549, e549, hx549_0, hx549_1⟩ := at_T23 (Kd.R_reads' HO_382.out).2.2 x384_9 p549 q549
                 cases e549
                 replace p549 := eq_true p549
                 replace q549 := eq_true q549
                 go_wp2_with (first | ((with_reducible refine gate_dst (N := 64) rfl ?_); (try (refine gate_guard (by rfl) ?_; dsimp only)); refine bE 64 #[.int .i64 0, .int .i64 0] 23 ?_; intro gb550 hg w822 hbox hb; have n0_ := Am (Kd.R_below (Kd.R_elderB (kW HO_382) gb550 (Nat.le_of_eq hg.symm)) hb); have hp0 := pA BK443 hb; have hv := vK HB hb; have n15_ := Am (bT hv hb); have n16_ := Am (hbox); have GE550 := kG hg hv; have hp1 := pK BK443 hb; obtain ⟨NB443_550, NB550_443⟩ := kXY hg hp1 BK443; obtain ⟨NB444_550, NB550_444⟩ := kXY hg hp1 BK444; obtain ⟨NB445_550, NB550_445⟩ := kXY hg hp1 BK445; obtain ⟨NB446_550, NB550_446⟩ := kXY hg hp1 BK446; obtain ⟨NB447_550, NB550_447⟩ := kXY hg hp1 BK447; obtain ⟨NB448_550, NB550_448⟩ := kXY hg hp1 BK448; obtain ⟨NB449_550, NB550_449⟩ := kXY hg hp1 BK449; obtain ⟨NB450_550, NB550_450⟩ := kXY hg hp1 BK450; obtain ⟨NB462_550, NB550_462⟩ := kXY hg hp1 BK462; obtain ⟨NB466_550, NB550_466⟩ := kXY hg hp1 BK466; obtain ⟨NB471_550, NB550_471⟩ := kXY hg hp1 BK471; obtain ⟨NB476_550, NB550_476⟩ := kXY hg hp1 BK476; obtain ⟨NB541_550, NB550_541⟩ := kXY hg hp1 BK541; obtain ⟨NB545_550, NB550_545⟩ := kXY hg hp1 BK545; clear HO_382; clear HB; have HO_382 := n0_; replace BK443 := hp0 BK443; replace BK444 := hp0 BK444; replace BK445 := hp0 BK445; replace BK446 := hp0 BK446; replace BK447 := hp0 BK447; replace BK448 := hp0 BK448; replace BK449 := hp0 BK449; replace BK450 := hp0 BK450; replace BK462 := hp0 BK462; replace BK466 := hp0 BK466; replace BK471 := hp0 BK471; replace BK476 := hp0 BK476; replace BK541 := hp0 BK541; replace BK545 := hp0 BK545; have HB := n15_; have BK550 := n16_; clear n0_ n15_ n16_ hp0 hp1 hv; clear hb hbox hg; have nq823 := kO NB550_443; have nq824 := kO NB550_444; have nq825 := kO NB550_445; have nq826 := kO NB550_446; have nq827 := kO NB550_447; have nq828 := kO NB550_448; have nq829 := kO NB550_449; have nq830 := kO NB550_450; have nq831 := kO NB550_462; have nq832 := kO NB550_466; have nq833 := kO NB550_471; have nq834 := kO NB550_476; have nq835 := kO NB550_541; have nq836 := kO NB550_545; have zq837 := c2 BK550; have nq838 := kO NB449_443; have nq839 := kO NB449_444; have nq840 := kO NB449_445; have nq841 := kO NB449_446; have nq842 := kO NB449_447; have nq843 := kO NB449_448; have nq844 := kO NB449_450; have nq845 := kO NB449_462; have nq846 := kO NB449_466; have nq847 := kO NB449_471; have nq848 := kO NB449_476; have nq849 := kO NB449_541; have nq850 := kO NB449_545; have zq851 := c3 BK449) | ((with_reducible refine gate_callee (f := 15) rfl ?_); refine gL (some 391) Try.func15 #[.agg #[.int .i64 a6_0, .int .i64 a6_1, .int .i64 a6_2], .agg #[.int .i64 ((rd_T23 t530 x384_9).f0), .int .i64 ((rd_T23 t530 x384_9).f1)]] rfl ?_; (with_reducible refine (impl_HandAt.calls k9 a6_0 a6_1 a6_2 ((rd_T23 t530 x384_9).f0) ((rd_T23 t530 x384_9).f1) t551 t552 true _ A819.out).mono ?_); rintro e w852 ⟨rfl, hb⟩; refine ⟨_, rfl, ?_⟩; have n0_ := Am (Kd.R_below (by (with_reducible repeat (first | apply Kd.R_alloc | apply Kd.R_drewN | apply Kd.R_drew)); exact (Kd.R_mono (Kd.R_far (p := ⟨gb550, 1, none⟩) (Kd.R_far (p := ⟨gb550, 0, none⟩) (Kd.R_mono HO_382.out (fun k_ hk => (⟨hk, hk.2⟩ : _ ∧ k_ ≠ gb550))) (fun _ hk => hk.2) (.int .i64 ((rd_T23 t530 x384_9).f0))) (fun _ hk => hk.2) (.int .i64 ((rd_T23 t530 x384_9).f1))) (fun _ h_ => h_.1))) hb); have hp0 := pB gb550 BK443 hb; have n15_ := Am (kB (g := gb550) (o := .cells #[.int .i64 ((rd_T23 t530 x384_9).f0), .int .i64 ((rd_T23 t530 x384_9).f1)] 23 (0, 0)) (by (with_reducible repeat (first | refine kN ?_ _ | refine kD ?_ | refine kA ?_ _)); refine kP (cs := #[.int .i64 ((rd_T23 t530 x384_9).f0), .int .i64 0]) ?_ 1 _ rfl; (with_reducible repeat (first | refine kN ?_ _ | refine kD ?_ | refine kA ?_ _)); refine kP (cs := #[.int .i64 0, .int .i64 0]) ?_ 0 _ rfl; (with_reducible repeat (first | refine kN ?_ _ | refine kD ?_ | refine kA ?_ _)); exact BK550.out) hb); have hv := vK HB hb; have n16_ := Am (bT hv hb); clear HO_382; clear BK550; clear HB; have HO_382 := n0_; replace BK443 := hp0 NB443_550 BK443; replace BK444 := hp0 NB444_550 BK444; replace BK445 := hp0 NB445_550 BK445; replace BK446 := hp0 NB446_550 BK446; replace BK447 := hp0 NB447_550 BK447; replace BK448 := hp0 NB448_550 BK448; replace BK449 := hp0 NB449_550 BK449; replace BK450 := hp0 NB450_550 BK450; replace BK462 := hp0 NB462_550 BK462; replace BK466 := hp0 NB466_550 BK466; replace BK471 := hp0 NB471_550 BK471; replace BK476 := hp0 NB476_550 BK476; replace BK541 := hp0 NB541_550 BK541; replace BK545 := hp0 NB545_550 BK545; have BK550 := n15_; have HB := n16_; clear n0_ n15_ n16_ hp0 hv; (try clear hb); (try clear hk)) | ((with_reducible refine gate_dst (N := 65) rfl ?_); (try (refine gate_guard (by rfl) ?_; dsimp only)); refine bE 65 #[.int .i64 0, .int .i64 0] 23 ?_; intro gb554 hg w853 hbox hb; have n0_ := Am (Kd.R_below (Kd.R_elderB (kW HO_382) gb554 (Nat.le_of_eq hg.symm)) hb); have hp0 := pA BK443 hb; have hv := vK HB hb; have n16_ := Am (bT hv hb); have n17_ := Am (hbox); have GE554 := kG hg hv; have hp1 := pK BK443 hb; obtain ⟨NB443_554, NB554_443⟩ := kXY hg hp1 BK443; obtain ⟨NB444_554, NB554_444⟩ := kXY hg hp1 BK444; obtain ⟨NB445_554, NB554_445⟩ := kXY hg hp1 BK445; obtain ⟨NB446_554, NB554_446⟩ := kXY hg hp1 BK446; obtain ⟨NB447_554, NB554_447⟩ := kXY hg hp1 BK447; obtain ⟨NB448_554, NB554_448⟩ := kXY hg hp1 BK448; obtain ⟨NB449_554, NB554_449⟩ := kXY hg hp1 BK449; obtain ⟨NB450_554, NB554_450⟩ := kXY hg hp1 BK450; obtain ⟨NB462_554, NB554_462⟩ := kXY hg hp1 BK462; obtain ⟨NB466_554, NB554_466⟩ := kXY hg hp1 BK466; obtain ⟨NB471_554, NB554_471⟩ := kXY hg hp1 BK471; obtain ⟨NB476_554, NB554_476⟩ := kXY hg hp1 BK476; obtain ⟨NB541_554, NB554_541⟩ := kXY hg hp1 BK541; obtain ⟨NB545_554, NB554_545⟩ := kXY hg hp1 BK545; obtain ⟨NB550_554, NB554_550⟩ := kXY hg hp1 BK550; clear HO_382; clear HB; have HO_382 := n0_; replace BK443 := hp0 BK443; replace BK444 := hp0 BK444; replace BK445 := hp0 BK445; replace BK446 := hp0 BK446; replace BK447 := hp0 BK447; replace BK448 := hp0 BK448; replace BK449 := hp0 BK449; replace BK450 := hp0 BK450; replace BK462 := hp0 BK462; replace BK466 := hp0 BK466; replace BK471 := hp0 BK471; replace BK476 := hp0 BK476; replace BK541 := hp0 BK541; replace BK545 := hp0 BK545; replace BK550 := hp0 BK550; have HB := n16_; have BK554 := n17_; clear n0_ n16_ n17_ hp0 hp1 hv; clear hb hbox hg; have nq854 := kO NB554_443; have nq855 := kO NB554_444; have nq856 := kO NB554_445; have nq857 := kO NB554_446; have nq858 := kO NB554_447; have nq859 := kO NB554_448; have nq860 := kO NB554_449; have nq861 := kO NB554_450; have nq862 := kO NB554_462; have nq863 := kO NB554_466; have nq864 := kO NB554_471; have nq865 := kO NB554_476; have nq866 := kO NB554_541; have nq867 := kO NB554_545; have nq868 := kO NB554_550; have hcz869_0 : w853.cell? ⟨gb554, 0, none⟩ = some (.int .i64 0) := (kC BK554.out 0).trans rfl; have hcz869_1 : w853.cell? ⟨gb554, 1, none⟩ = some (.int .i64 0) := (kC BK554.out 1).trans rfl; have hfz869_0 := kF BK554.out 0; have hfz869_1 := kF BK554.out 1; have nq870 := kO NB450_443; have nq871 := kO NB450_444; have nq872 := kO NB450_445; have nq873 := kO NB450_446; have nq874 := kO NB450_447; have nq875 := kO NB450_448; have nq876 := kO NB450_462; have nq877 := kO NB450_466; have nq878 := kO NB450_471; have nq879 := kO NB450_476; have nq880 := kO NB450_541; have nq881 := kO NB450_545; have zq882 := c2 BK450))
                 go_roundg k9
                 case measure => have := HJ16.out; have := HJ173.out; have := HJ274.out; have := HJ360.out; have := HJ494.out; have := HJ538.out; have := HJ696.out; have := HJ794.out; have := HK9.out; omega
                 case rel => exact ⟨(wrap64 (x384_9 + 1)), (by first | rfl | (simp; done) | (simp [*]; done)), H', ⟨by have := HJ16.out; have := HJ173.out; have := HJ274.out; have := HJ360.out; have := HJ494.out; have := HJ538.out; have := HJ696.out; have := HJ794.out; have := HK9.out; omega⟩, ⟨by (with_reducible repeat (first | apply Kd.R_alloc | apply Kd.R_drewN | apply Kd.R_drew)); exact Kd.R_mono (Kd.R_far (p := ⟨gb554, 1, none⟩) (Kd.R_far (p := ⟨gb554, 0, none⟩) (Kd.R_mono HO_382.out (fun k_ hk => (⟨hk, hk.2⟩ : _ ∧ k_ ≠ gb554))) (fun _ hk => hk.2) (.int .i64 t551)) (fun _ hk => hk.2) (.int .i64 t552)) (fun _ hk => ⟨hk.1.1.1.1, ⟨hk.1.1.1.2.1, ⟨hk.1.1.1.2.2.1, ⟨hk.1.1.1.2.2.2.1, ⟨hk.1.1.1.2.2.2.2.1, hk.1.1.1.2.2.2.2.2⟩⟩⟩⟩⟩)⟩, ⟨by (with_reducible repeat (first | refine kN ?_ _ | refine kD ?_ | refine kA ?_ _)); refine kR ?_ NB443_554.out _; (with_reducible repeat (first | refine kN ?_ _ | refine kD ?_ | refine kA ?_ _)); refine kR ?_ NB443_554.out _; (with_reducible repeat (first | refine kN ?_ _ | refine kD ?_ | refine kA ?_ _)); exact BK443.out⟩, ⟨by (with_reducible repeat (first | refine kN ?_ _ | refine kD ?_ | refine kA ?_ _)); refine kR ?_ NB444_554.out _; (with_reducible repeat (first | refine kN ?_ _ | refine kD ?_ | refine kA ?_ _)); refine kR ?_ NB444_554.out _; (with_reducible repeat (first | refine kN ?_ _ | refine kD ?_ | refine kA ?_ _)); exact BK444.out⟩, ⟨by (with_reducible repeat (first | refine kN ?_ _ | refine kD ?_ | refine kA ?_ _)); refine kR ?_ NB445_554.out _; (with_reducible repeat (first | refine kN ?_ _ | refine kD ?_ | refine kA ?_ _)); refine kR ?_ NB445_554.out _; (with_reducible repeat (first | refine kN ?_ _ | refine kD ?_ | refine kA ?_ _)); exact BK445.out⟩, ⟨by (with_reducible repeat (first | refine kN ?_ _ | refine kD ?_ | refine kA ?_ _)); refine kR ?_ NB446_554.out _; (with_reducible repeat (first | refine kN ?_ _ | refine kD ?_ | refine kA ?_ _)); refine kR ?_ NB446_554.out _; (with_reducible repeat (first | refine kN ?_ _ | refine kD ?_ | refine kA ?_ _)); exact BK446.out⟩, ⟨by (with_reducible repeat (first | refine kN ?_ _ | refine kD ?_ | refine kA ?_ _)); refine kR ?_ NB447_554.out _; (with_reducible repeat (first | refine kN ?_ _ | refine kD ?_ | refine kA ?_ _)); refine kR ?_ NB447_554.out _; (with_reducible repeat (first | refine kN ?_ _ | refine kD ?_ | refine kA ?_ _)); exact BK447.out⟩, ⟨by (with_reducible repeat (first | refine kN ?_ _ | refine kD ?_ | refine kA ?_ _)); refine kR ?_ NB448_554.out _; (with_reducible repeat (first | refine kN ?_ _ | refine kD ?_ | refine kA ?_ _)); refine kR ?_ NB448_554.out _; (with_reducible repeat (first | refine kN ?_ _ | refine kD ?_ | refine kA ?_ _)); exact BK448.out⟩, ⟨by (with_reducible repeat (first | refine kN ?_ _ | refine kD ?_ | refine kA ?_ _)); refine kR ?_ NB449_554.out _; (with_reducible repeat (first | refine kN ?_ _ | refine kD ?_ | refine kA ?_ _)); refine kR ?_ NB449_554.out _; (with_reducible repeat (first | refine kN ?_ _ | refine kD ?_ | refine kA ?_ _)); exact BK449.out⟩, ⟨by (with_reducible repeat (first | refine kN ?_ _ | refine kD ?_ | refine kA ?_ _)); refine kR ?_ NB450_554.out _; (with_reducible repeat (first | refine kN ?_ _ | refine kD ?_ | refine kA ?_ _)); refine kR ?_ NB450_554.out _; (with_reducible repeat (first | refine kN ?_ _ | refine kD ?_ | refine kA ?_ _)); exact BK450.out⟩, ⟨by (with_reducible repeat (first | refine kN ?_ _ | refine kD ?_ | refine kA ?_ _)); refine kR ?_ NB462_554.out _; (with_reducible repeat (first | refine kN ?_ _ | refine kD ?_ | refine kA ?_ _)); refine kR ?_ NB462_554.out _; (with_reducible repeat (first | refine kN ?_ _ | refine kD ?_ | refine kA ?_ _)); exact BK462.out⟩, ⟨by (with_reducible repeat (first | refine kN ?_ _ | refine kD ?_ | refine kA ?_ _)); refine kR ?_ NB466_554.out _; (with_reducible repeat (first | refine kN ?_ _ | refine kD ?_ | refine kA ?_ _)); refine kR ?_ NB466_554.out _; (with_reducible repeat (first | refine kN ?_ _ | refine kD ?_ | refine kA ?_ _)); exact BK466.out⟩, ⟨by (with_reducible repeat (first | refine kN ?_ _ | refine kD ?_ | refine kA ?_ _)); refine kR ?_ NB471_554.out _; (with_reducible repeat (first | refine kN ?_ _ | refine kD ?_ | refine kA ?_ _)); refine kR ?_ NB471_554.out _; (with_reducible repeat (first | refine kN ?_ _ | refine kD ?_ | refine kA ?_ _)); exact BK471.out⟩, ⟨by (with_reducible repeat (first | refine kN ?_ _ | refine kD ?_ | refine kA ?_ _)); refine kR ?_ NB476_554.out _; (with_reducible repeat (first | refine kN ?_ _ | refine kD ?_ | refine kA ?_ _)); refine kR ?_ NB476_554.out _; (with_reducible repeat (first | refine kN ?_ _ | refine kD ?_ | refine kA ?_ _)); exact BK476.out⟩, ⟨by (with_reducible repeat (first | refine kN ?_ _ | refine kD ?_ | refine kA ?_ _)); refine kR ?_ NB541_554.out _; (with_reducible repeat (first | refine kN ?_ _ | refine kD ?_ | refine kA ?_ _)); refine kR ?_ NB541_554.out _; (with_reducible repeat (first | refine kN ?_ _ | refine kD ?_ | refine kA ?_ _)); exact BK541.out⟩, ⟨by (with_reducible repeat (first | refine kN ?_ _ | refine kD ?_ | refine kA ?_ _)); refine kR ?_ NB545_554.out _; (with_reducible repeat (first | refine kN ?_ _ | refine kD ?_ | refine kA ?_ _)); refine kR ?_ NB545_554.out _; (with_reducible repeat (first | refine kN ?_ _ | refine kD ?_ | refine kA ?_ _)); exact BK545.out⟩, ⟨by repeat (first | (with_reducible first | exact HB.out | apply bA | apply bN | apply bD | refine bX ?_ (by assumption)) | exact HB.out)⟩⟩
               replace c820 := Bool.eq_false_iff.mpr c820
               subst c820
               have H1 : (some false) = some r := by rw [if_neg (show ¬ (false = true) by decide)] at H; exact H
               clear H
               have H := H1
               clear H1
               as_aux_lemma =>
                exact absurd ((Option.some.inj H).trans hlaw.out) (by decide)
              rw [if_neg c818] at H
              exact absurd H (by simp)
             rw [if_neg c817] at H
             exact absurd H (by simp)
            rw [if_neg c816] at H
            have c816b0 : decide (x384_9 < (t530.length : Int)) = false := decide_eq_false c816
            clear c816
            as_aux_lemma =>
             obtain rfl := Option.some.inj H
             go_wp2
             go_ret
             exact ⟨by first | rfl | (simp [errW_none, errW_some] <;> rfl) | (simp [*, errW_none, errW_some] <;> rfl), by repeat (first | (with_reducible first | exact HB.out | apply bA | apply bN | apply bD | refine bX ?_ (by assumption)) | exact HB.out)⟩
        replace c794 := Bool.eq_false_iff.mpr c794
        subst c794
        have H1 : (some true) = some r := by rw [if_neg (show ¬ (false = true) by decide)] at H; exact H
        clear H
        have H := H1
        clear H1
        as_aux_lemma =>
         obtain rfl := Option.some.inj H
         go_wp2
         go_ret
         exact ⟨by first | rfl | (simp [errW_none, errW_some] <;> rfl) | (simp [*, errW_none, errW_some] <;> rfl), by repeat (first | (with_reducible first | exact HB.out | apply bA | apply bN | apply bD | refine bX ?_ (by assumption)) | exact HB.out)⟩
/-- THE ONE PURE STATEMENT of laws_FnHandsAheadOfAll: yours. -/
def laws_FnHandsAheadOfAll.Pure : Prop := ∀ (a0_0 : Int) (a0_1 : Int) (a0_2 : Int) (a1_0 : Int) (a1_1 : Int) (a1_2 : Int) (a2_0 : Int) (a2_1 : Int) (a3_0 : Int) (a3_1 : Int) (a3_2 : Int) (a4_0 : Int) (a4_1 : Int) (a4_2 : Int) (a5_0 : Int) (a5_1 : Int) (a5_2 : Int) (a6_0 : Int) (a6_1 : Int) (a6_2 : Int) (a7_0 : Int) (a7_1 : Int), (Lit.int .i64 a0_0).wf = true → (Lit.int .i64 a0_1).wf = true → (Lit.int .i64 a0_2).wf = true → (Lit.int .i64 a1_0).wf = true → (Lit.int .i64 a1_1).wf = true → (Lit.int .i64 a1_2).wf = true → (Lit.int .i64 a2_0).wf = true → (Lit.int .i64 a2_1).wf = true → (Lit.int .i64 a3_0).wf = true → (Lit.int .i64 a3_1).wf = true → (Lit.int .i64 a3_2).wf = true → (Lit.int .i64 a4_0).wf = true → (Lit.int .i64 a4_1).wf = true → (Lit.int .i64 a4_2).wf = true → (Lit.int .i64 a5_0).wf = true → (Lit.int .i64 a5_1).wf = true → (Lit.int .i64 a5_2).wf = true → (Lit.int .i64 a6_0).wf = true → (Lit.int .i64 a6_1).wf = true → (Lit.int .i64 a6_2).wf = true → (Lit.int .i64 a7_0).wf = true → (Lit.int .i64 a7_1).wf = true → ∃ k, laws_FnHandsAheadOfAll.f k a0_0 a0_1 a0_2 a1_0 a1_1 a1_2 a2_0 a2_1 a3_0 a3_1 a3_2 a4_0 a4_1 a4_2 a5_0 a5_1 a5_2 a6_0 a6_1 a6_2 a7_0 a7_1 = some true
theorem laws_FnHandsAheadOfAll.walk (P : laws_FnHandsAheadOfAll.Pure) (a0_0 : Int) (a0_1 : Int) (a0_2 : Int) (a1_0 : Int) (a1_1 : Int) (a1_2 : Int) (a2_0 : Int) (a2_1 : Int) (a3_0 : Int) (a3_1 : Int) (a3_2 : Int) (a4_0 : Int) (a4_1 : Int) (a4_2 : Int) (a5_0 : Int) (a5_1 : Int) (a5_2 : Int) (a6_0 : Int) (a6_1 : Int) (a6_2 : Int) (a7_0 : Int) (a7_1 : Int) (w : World) (w0_0 : (Lit.int .i64 a0_0).wf = true) (w0_1 : (Lit.int .i64 a0_1).wf = true) (w0_2 : (Lit.int .i64 a0_2).wf = true) (w1_0 : (Lit.int .i64 a1_0).wf = true) (w1_1 : (Lit.int .i64 a1_1).wf = true) (w1_2 : (Lit.int .i64 a1_2).wf = true) (w2_0 : (Lit.int .i64 a2_0).wf = true) (w2_1 : (Lit.int .i64 a2_1).wf = true) (w3_0 : (Lit.int .i64 a3_0).wf = true) (w3_1 : (Lit.int .i64 a3_1).wf = true) (w3_2 : (Lit.int .i64 a3_2).wf = true) (w4_0 : (Lit.int .i64 a4_0).wf = true) (w4_1 : (Lit.int .i64 a4_1).wf = true) (w4_2 : (Lit.int .i64 a4_2).wf = true) (w5_0 : (Lit.int .i64 a5_0).wf = true) (w5_1 : (Lit.int .i64 a5_1).wf = true) (w5_2 : (Lit.int .i64 a5_2).wf = true) (w6_0 : (Lit.int .i64 a6_0).wf = true) (w6_1 : (Lit.int .i64 a6_1).wf = true) (w6_2 : (Lit.int .i64 a6_2).wf = true) (w7_0 : (Lit.int .i64 a7_0).wf = true) (w7_1 : (Lit.int .i64 a7_1).wf = true) :
  Calls Try.prog 3 #[.agg #[.int .i64 a0_0, .int .i64 a0_1, .int .i64 a0_2], .agg #[.int .i64 a1_0, .int .i64 a1_1, .int .i64 a1_2], .agg #[.int .i64 a2_0, .int .i64 a2_1], .agg #[.int .i64 a3_0, .int .i64 a3_1, .int .i64 a3_2], .agg #[.int .i64 a4_0, .int .i64 a4_1, .int .i64 a4_2], .agg #[.int .i64 a5_0, .int .i64 a5_1, .int .i64 a5_2], .agg #[.int .i64 a6_0, .int .i64 a6_1, .int .i64 a6_2], .agg #[.int .i64 a7_0, .int .i64 a7_1]] w fun e w' => e = .returned (.bool true) ∧ Below w.heap.size w w' := by
 obtain ⟨k, h⟩ := P a0_0 a0_1 a0_2 a1_0 a1_1 a1_2 a2_0 a2_1 a3_0 a3_1 a3_2 a4_0 a4_1 a4_2 a5_0 a5_1 a5_2 a6_0 a6_1 a6_2 a7_0 a7_1 w0_0 w0_1 w0_2 w1_0 w1_1 w1_2 w2_0 w2_1 w3_0 w3_1 w3_2 w4_0 w4_1 w4_2 w5_0 w5_1 w5_2 w6_0 w6_1 w6_2 w7_0 w7_1
 refine (laws_FnHandsAheadOfAll.calls k a0_0 a0_1 a0_2 a1_0 a1_1 a1_2 a2_0 a2_1 a3_0 a3_1 a3_2 a4_0 a4_1 a4_2 a5_0 a5_1 a5_2 a6_0 a6_1 a6_2 a7_0 a7_1 true w ⟨rfl⟩ h).mono ?_
 rintro e w' ⟨rfl, hd⟩
 exact ⟨rfl, hd⟩

end Go.Proofs.Ytcoembcafgelkaa.PFnHandsAheadOfAll
