-- WRITTEN BY A PROGRAM OF THIS SESSION (wip/tools): its own text, not the kit's printed one.
import Derived.Test.YtbgklddlcmgakaaPFnHandsMeetOfAllx0
import Derived.Test.YtbgklddlcmgakaaPFnHandsMeetOfAllx1
import Derived.Test.YtbgklddlcmgakaaPFnHandsMeetOfAllx2
import Derived.Test.YtbgklddlcmgakaaPFnHandsMeetOfAllx5
import Derived.Test.YtbgklddlcmgakaaPFnHandsMeetOfAllx6
import Derived.Test.YtbgklddlcmgakaaPFnHandsMeetOfAllx7
import Derived.Test.YtbgklddlcmgakaaPFnHandsMeetOfAllx8
import Derived.Test.YtbgklddlcmgakaaPFnHandsMeetOfAllx10
import Derived.Test.YtbgklddlcmgakaaPFnHandsMeetOfAllx11
import Derived.Test.YtbgklddlcmgakaaPFnHandsMeetOfAllx12c
import Derived.Deep.CutRange
namespace Go.Proofs.Ytbgklddlcmgakaa.PFnHandsMeetOfAll
open Go.RowKit Go.Proofs.YtbgklddlcmgakaaW.PrintWords Go.Proofs.YtbgklddlcmgakaaW.PrintLast Go.Proofs.YtbgklddlcmgakaaW.PrintMore
attribute [local go_sem] max2_int min2_int max_two min_two max_three min_three max_four min_four   -- for this text's walks alone
set_option linter.unusedVariables false
set_option linter.unusedSimpArgs false

attribute [local go_sem high] eqA23
set_option maxHeartbeats 8000000 in
set_option maxRecDepth 100000 in
theorem laws_FnHandsMeetOfAll.calls (k : Nat) (a0_0 : Int) (a0_1 : Int) (a0_2 : Int) (a1_0 : Int) (a1_1 : Int) (a1_2 : Int) (a2_0 : Int) (a2_1 : Int) (a2_2 : Int) (a3_0 : Int) (a3_1 : Int) (a3_2 : Int) (a4_0 : Int) (a4_1 : Int) (r : Bool) (w : World) (hlaw : Aside0 (r = true)) (h : laws_FnHandsMeetOfAll.f k a0_0 a0_1 a0_2 a1_0 a1_1 a1_2 a2_0 a2_1 a2_2 a3_0 a3_1 a3_2 a4_0 a4_1 = some r) :
  Calls Try.prog 3 #[.agg #[.int .i64 a0_0, .int .i64 a0_1, .int .i64 a0_2], .agg #[.int .i64 a1_0, .int .i64 a1_1, .int .i64 a1_2], .agg #[.int .i64 a2_0, .int .i64 a2_1, .int .i64 a2_2], .agg #[.int .i64 a3_0, .int .i64 a3_1, .int .i64 a3_2], .agg #[.int .i64 a4_0, .int .i64 a4_1]] w fun e w' => e = .returned (.bool r) ∧ Below w.heap.size w w' := by
 have hu25 := Try.underlying25; have hu23 := Try.underlying23
 have HB := Am (Below.refl w.heap.size w)
 have H : ((impl_MeetTimes.f k a0_0 a0_1 a0_2 a1_0 a1_1 a1_2).bind fun bt476 => ((spec_MeetTimes.f k a0_0 a0_1 a0_2 a1_0 a1_1 a1_2).bind fun bt480 => ((impl_CountMeets.f k a0_0 a0_1 a0_2 a1_0 a1_1 a1_2).bind fun bt484 => ((spec_CountMeets.f k a0_0 a0_1 a0_2 a1_0 a1_1 a1_2).bind fun bt486 => ((impl_FirstMeet.f k a0_0 a0_1 a0_2 a1_0 a1_1 a1_2).bind fun bt488 => ((spec_FirstMeet.f k a0_0 a0_1 a0_2 a1_0 a1_1 a1_2).bind fun bt492 => ((impl_MeetPlaces.f k a0_0 a0_1 a0_2 a1_0 a1_1 a1_2).bind fun bt496 => ((spec_MeetPlaces.f k a0_0 a0_1 a0_2 a1_0 a1_1 a1_2).bind fun bt500 => (if (bt476.2 != bt480.2) = true then (laws_FnHandsMeetOfAll.j0 k bt476.1 bt476.2 bt484.1 bt496.1 bt496.2 true a0_0 a0_1 a0_2 a1_0 a1_1 a1_2 a2_0 a2_1 a2_2 a3_0 a3_1 a3_2 a4_0 a4_1 bt488.1 bt488.2.1) else ((laws_kTurns.f k bt476.1 bt480.1).bind fun t504 => (if t504 = true then (if (bt484.2 != bt486.2) = true then (laws_FnHandsMeetOfAll.j0 k bt476.1 bt476.2 bt484.1 bt496.1 bt496.2 true a0_0 a0_1 a0_2 a1_0 a1_1 a1_2 a2_0 a2_1 a2_2 a3_0 a3_1 a3_2 a4_0 a4_1 bt488.1 bt488.2.1) else (if bt484.1 = bt486.1 then (if (bt488.2.2 != bt492.2.2) = true then (laws_FnHandsMeetOfAll.j0 k bt476.1 bt476.2 bt484.1 bt496.1 bt496.2 true a0_0 a0_1 a0_2 a1_0 a1_1 a1_2 a2_0 a2_1 a2_2 a3_0 a3_1 a3_2 a4_0 a4_1 bt488.1 bt488.2.1) else (if (!(bt488.1 == bt492.1) || (!(bt488.2.1 == bt492.2.1))) = true then (laws_FnHandsMeetOfAll.j0 k bt476.1 bt476.2 bt484.1 bt496.1 bt496.2 true a0_0 a0_1 a0_2 a1_0 a1_1 a1_2 a2_0 a2_1 a2_2 a3_0 a3_1 a3_2 a4_0 a4_1 bt488.1 bt488.2.1) else (if (bt496.2 != bt500.2) = true then (laws_FnHandsMeetOfAll.j0 k bt476.1 bt476.2 bt484.1 bt496.1 bt496.2 true a0_0 a0_1 a0_2 a1_0 a1_1 a1_2 a2_0 a2_1 a2_2 a3_0 a3_1 a3_2 a4_0 a4_1 bt488.1 bt488.2.1) else ((laws_kTurns.f k bt496.1 bt500.1).bind fun t505 => (if t505 = true then (if (bt488.2.2 != bt476.2) = true then (laws_FnHandsMeetOfAll.j0 k bt476.1 bt476.2 bt484.1 bt496.1 bt496.2 true a0_0 a0_1 a0_2 a1_0 a1_1 a1_2 a2_0 a2_1 a2_2 a3_0 a3_1 a3_2 a4_0 a4_1 bt488.1 bt488.2.1) else (if bt496.2 = true then (if bt476.2 = true then (if bt484.2 = true then ((impl_IsHand.f k a0_0 a0_1 a0_2).bind fun t506 => ((spec_IsHand.f k a0_0 a0_1 a0_2).bind fun t507 => (laws_FnHandsMeetOfAll.j0 k bt476.1 bt476.2 bt484.1 bt496.1 bt496.2 (t506 != t507) a0_0 a0_1 a0_2 a1_0 a1_1 a1_2 a2_0 a2_1 a2_2 a3_0 a3_1 a3_2 a4_0 a4_1 bt488.1 bt488.2.1))) else (laws_FnHandsMeetOfAll.j0 k bt476.1 bt476.2 bt484.1 bt496.1 bt496.2 true a0_0 a0_1 a0_2 a1_0 a1_1 a1_2 a2_0 a2_1 a2_2 a3_0 a3_1 a3_2 a4_0 a4_1 bt488.1 bt488.2.1)) else (laws_FnHandsMeetOfAll.j0 k bt476.1 bt476.2 bt484.1 bt496.1 bt496.2 true a0_0 a0_1 a0_2 a1_0 a1_1 a1_2 a2_0 a2_1 a2_2 a3_0 a3_1 a3_2 a4_0 a4_1 bt488.1 bt488.2.1)) else (if bt476.2 = true then (if bt484.2 = true then ((impl_IsHand.f k a0_0 a0_1 a0_2).bind fun t508 => ((spec_IsHand.f k a0_0 a0_1 a0_2).bind fun t509 => (laws_FnHandsMeetOfAll.j0 k bt476.1 bt476.2 bt484.1 bt496.1 bt496.2 (t508 != t509) a0_0 a0_1 a0_2 a1_0 a1_1 a1_2 a2_0 a2_1 a2_2 a3_0 a3_1 a3_2 a4_0 a4_1 bt488.1 bt488.2.1))) else (laws_FnHandsMeetOfAll.j0 k bt476.1 bt476.2 bt484.1 bt496.1 bt496.2 true a0_0 a0_1 a0_2 a1_0 a1_1 a1_2 a2_0 a2_1 a2_2 a3_0 a3_1 a3_2 a4_0 a4_1 bt488.1 bt488.2.1)) else ((impl_IsHand.f k a0_0 a0_1 a0_2).bind fun t510 => ((spec_IsHand.f k a0_0 a0_1 a0_2).bind fun t511 => (laws_FnHandsMeetOfAll.j0 k bt476.1 bt476.2 bt484.1 bt496.1 bt496.2 (t510 != t511) a0_0 a0_1 a0_2 a1_0 a1_1 a1_2 a2_0 a2_1 a2_2 a3_0 a3_1 a3_2 a4_0 a4_1 bt488.1 bt488.2.1)))))) else (laws_FnHandsMeetOfAll.j0 k bt476.1 bt476.2 bt484.1 bt496.1 bt496.2 true a0_0 a0_1 a0_2 a1_0 a1_1 a1_2 a2_0 a2_1 a2_2 a3_0 a3_1 a3_2 a4_0 a4_1 bt488.1 bt488.2.1)))))) else (laws_FnHandsMeetOfAll.j0 k bt476.1 bt476.2 bt484.1 bt496.1 bt496.2 true a0_0 a0_1 a0_2 a1_0 a1_1 a1_2 a2_0 a2_1 a2_2 a3_0 a3_1 a3_2 a4_0 a4_1 bt488.1 bt488.2.1))) else (laws_FnHandsMeetOfAll.j0 k bt476.1 bt476.2 bt484.1 bt496.1 bt496.2 true a0_0 a0_1 a0_2 a1_0 a1_1 a1_2 a2_0 a2_1 a2_2 a3_0 a3_1 a3_2 a4_0 a4_1 bt488.1 bt488.2.1)))))))))))) = some r := h
 clear h
 replace H := Option.bind_eq_some_iff.mp H
 obtain ⟨⟨t476, t479⟩, A60, H⟩ := H
 try dsimp only at H
 have A6 := Am A60
 clear A60
 replace H := Option.bind_eq_some_iff.mp H
 obtain ⟨⟨t480, t483⟩, A70, H⟩ := H
 try dsimp only at H
 have A7 := Am A70
 clear A70
 replace H := Option.bind_eq_some_iff.mp H
 obtain ⟨⟨t484, t485⟩, A80, H⟩ := H
 try dsimp only at H
 have A8 := Am A80
 clear A80
 replace H := Option.bind_eq_some_iff.mp H
 obtain ⟨⟨t486, t487⟩, A90, H⟩ := H
 try dsimp only at H
 have A9 := Am A90
 clear A90
 replace H := Option.bind_eq_some_iff.mp H
 obtain ⟨⟨t488, t489, t490⟩, A100, H⟩ := H
 try dsimp only at H
 have A10 := Am A100
 clear A100
 replace H := Option.bind_eq_some_iff.mp H
 obtain ⟨⟨t492, t493, t494⟩, A110, H⟩ := H
 try dsimp only at H
 have A11 := Am A110
 clear A110
 replace H := Option.bind_eq_some_iff.mp H
 obtain ⟨⟨t496, t499⟩, A120, H⟩ := H
 try dsimp only at H
 have A12 := Am A120
 clear A120
 replace H := Option.bind_eq_some_iff.mp H
 obtain ⟨⟨t500, t503⟩, A130, H⟩ := H
 try dsimp only at H
 have A13 := Am A130
 clear A130
 have HC14 := Am H
 clear H
 go_enter Try.func3, Try.ntmps3
 go_upto_region 9 with (first | ((with_reducible refine gate_dst (N := 5) rfl ?_); (try (refine gate_guard (by rfl) ?_; dsimp only)); refine bE 5 #[.int .i64 a0_0, .int .i64 a0_1, .int .i64 a0_2] 25 ?_; intro gb471 hg w15 hbox hb; have hv := vK HB hb; have n0_ := Am (bT hv hb); have n1_ := Am (hbox); have GE471 := kG hg hv; clear HB; have HB := n0_; have BK471 := n1_; clear n0_ n1_ hv; clear hb hbox hg) | ((with_reducible refine gate_dst (N := 6) rfl ?_); (try (refine gate_guard (by rfl) ?_; dsimp only)); refine bE 6 #[.int .i64 a1_0, .int .i64 a1_1, .int .i64 a1_2] 25 ?_; intro gb472 hg w16 hbox hb; have hp0 := pA BK471 hb; have hv := vK HB hb; have n1_ := Am (bT hv hb); have n2_ := Am (hbox); have GE472 := kG hg hv; have hp1 := pK BK471 hb; obtain ⟨NB471_472, NB472_471⟩ := kXY hg hp1 BK471; clear HB; replace BK471 := hp0 BK471; have HB := n1_; have BK472 := n2_; clear n1_ n2_ hp0 hp1 hv; clear hb hbox hg) | ((with_reducible refine gate_dst (N := 7) rfl ?_); (try (refine gate_guard (by rfl) ?_; dsimp only)); refine bE 7 #[.int .i64 a2_0, .int .i64 a2_1, .int .i64 a2_2] 25 ?_; intro gb473 hg w17 hbox hb; have hp0 := pA BK471 hb; have hv := vK HB hb; have n2_ := Am (bT hv hb); have n3_ := Am (hbox); have GE473 := kG hg hv; have hp1 := pK BK471 hb; obtain ⟨NB471_473, NB473_471⟩ := kXY hg hp1 BK471; obtain ⟨NB472_473, NB473_472⟩ := kXY hg hp1 BK472; clear HB; replace BK471 := hp0 BK471; replace BK472 := hp0 BK472; have HB := n2_; have BK473 := n3_; clear n2_ n3_ hp0 hp1 hv; clear hb hbox hg) | ((with_reducible refine gate_dst (N := 8) rfl ?_); (try (refine gate_guard (by rfl) ?_; dsimp only)); refine bE 8 #[.int .i64 a3_0, .int .i64 a3_1, .int .i64 a3_2] 25 ?_; intro gb474 hg w18 hbox hb; have hp0 := pA BK471 hb; have hv := vK HB hb; have n3_ := Am (bT hv hb); have n4_ := Am (hbox); have GE474 := kG hg hv; have hp1 := pK BK471 hb; obtain ⟨NB471_474, NB474_471⟩ := kXY hg hp1 BK471; obtain ⟨NB472_474, NB474_472⟩ := kXY hg hp1 BK472; obtain ⟨NB473_474, NB474_473⟩ := kXY hg hp1 BK473; clear HB; replace BK471 := hp0 BK471; replace BK472 := hp0 BK472; replace BK473 := hp0 BK473; have HB := n3_; have BK474 := n4_; clear n3_ n4_ hp0 hp1 hv; clear hb hbox hg) | ((with_reducible refine gate_dst (N := 9) rfl ?_); (try (refine gate_guard (by rfl) ?_; dsimp only)); refine bE 9 #[.int .i64 a4_0, .int .i64 a4_1] 23 ?_; intro gb475 hg w19 hbox hb; have hp0 := pA BK471 hb; have hv := vK HB hb; have n4_ := Am (bT hv hb); have n5_ := Am (hbox); have GE475 := kG hg hv; have hp1 := pK BK471 hb; obtain ⟨NB471_475, NB475_471⟩ := kXY hg hp1 BK471; obtain ⟨NB472_475, NB475_472⟩ := kXY hg hp1 BK472; obtain ⟨NB473_475, NB475_473⟩ := kXY hg hp1 BK473; obtain ⟨NB474_475, NB475_474⟩ := kXY hg hp1 BK474; clear HB; replace BK471 := hp0 BK471; replace BK472 := hp0 BK472; replace BK473 := hp0 BK473; replace BK474 := hp0 BK474; have HB := n4_; have BK475 := n5_; clear n4_ n5_ hp0 hp1 hv; clear hb hbox hg; have nq20 := kO NB471_472; have nq21 := kO NB471_473; have nq22 := kO NB471_474; have nq23 := kO NB471_475; have zq24 := c3 BK471; have nq25 := kO NB472_473; have nq26 := kO NB472_474; have nq27 := kO NB472_475; have zq28 := c3 BK472) | ((with_reducible refine gate_callee (f := 4) rfl ?_); refine gL (some 49) Try.func4 #[.agg #[.int .i64 a0_0, .int .i64 a0_1, .int .i64 a0_2], .agg #[.int .i64 a1_0, .int .i64 a1_1, .int .i64 a1_2]] rfl ?_; (with_reducible refine (impl_MeetTimes.calls k a0_0 a0_1 a0_2 a1_0 a1_1 a1_2 t476 t479 _ A6.out).mono ?_); rintro e w29 ⟨v477, rfl, ho0, hb⟩; refine ⟨_, rfl, ?_⟩; have n0_ := Am (Kd.R_lower (Kd.R_newB ho0 (g := gb475) (o := .cells #[.int .i64 a4_0, .int .i64 a4_1] 23 (0, 0)) (kU BK475)) (bZ (by repeat (first | (with_reducible first | exact HB.out | apply bA | apply bN | apply bD | refine bX ?_ (by assumption)) | exact HB.out)))); have hp0 := pA BK471 hb; have hv := vK HB hb; have n6_ := Am (bT hv hb); clear HB; have HO478 := n0_; replace BK471 := hp0 BK471; replace BK472 := hp0 BK472; replace BK473 := hp0 BK473; replace BK474 := hp0 BK474; replace BK475 := hp0 BK475; have HB := n6_; clear n0_ n6_ hp0 hv; (try clear hb); (try clear ho0); have zq30 := c3 BK471; have zq31 := c3 BK472) | ((with_reducible refine gate_callee (f := 5) rfl ?_); refine gL (some 55) Try.func5 #[.agg #[.int .i64 a0_0, .int .i64 a0_1, .int .i64 a0_2], .agg #[.int .i64 a1_0, .int .i64 a1_1, .int .i64 a1_2]] rfl ?_; (with_reducible refine (spec_MeetTimes.calls k a0_0 a0_1 a0_2 a1_0 a1_1 a1_2 t480 t483 _ A7.out).mono ?_); rintro e w32 ⟨v481, rfl, ho0, hb⟩; refine ⟨_, rfl, ?_⟩; have n0_ := Am (Kd.R_elder' (kW HO478) (Kd.R_base ho0) hb); have n1_ := Am (Kd.R_lower (Kd.R_newB (Kd.R_new' ho0 (Kd.R_lt (kW HO478))) (g := gb475) (o := .cells #[.int .i64 a4_0, .int .i64 a4_1] 23 (0, 0)) (kU BK475)) (bZ (by repeat (first | (with_reducible first | exact HB.out | apply bA | apply bN | apply bD | refine bX ?_ (by assumption)) | exact HB.out)))); have hp0 := pA BK471 hb; have hv := vK HB hb; have n7_ := Am (bT hv hb); clear HO478; clear HB; have HO478 := n0_; have HO482 := n1_; replace BK471 := hp0 BK471; replace BK472 := hp0 BK472; replace BK473 := hp0 BK473; replace BK474 := hp0 BK474; replace BK475 := hp0 BK475; have HB := n7_; clear n0_ n1_ n7_ hp0 hv; (try clear hb); (try clear ho0); have zq33 := c3 BK471; have zq34 := c3 BK472) | ((with_reducible refine gate_callee (f := 6) rfl ?_); refine gL (some 61) Try.func6 #[.agg #[.int .i64 a0_0, .int .i64 a0_1, .int .i64 a0_2], .agg #[.int .i64 a1_0, .int .i64 a1_1, .int .i64 a1_2]] rfl ?_; (with_reducible refine (impl_CountMeets.calls k a0_0 a0_1 a0_2 a1_0 a1_1 a1_2 t484 t485 _ A8.out).mono ?_); rintro e w35 ⟨rfl, hb⟩; refine ⟨_, rfl, ?_⟩; have n0_ := Am (Kd.R_below (kW HO478) hb); have n1_ := Am (Kd.R_below (kW HO482) hb); have hp0 := pA BK471 hb; have hv := vK HB hb; have n7_ := Am (bT hv hb); clear HO478; clear HO482; clear HB; have HO478 := n0_; have HO482 := n1_; replace BK471 := hp0 BK471; replace BK472 := hp0 BK472; replace BK473 := hp0 BK473; replace BK474 := hp0 BK474; replace BK475 := hp0 BK475; have HB := n7_; clear n0_ n1_ n7_ hp0 hv; (try clear hb); have zq36 := c3 BK471; have zq37 := c3 BK472) | ((with_reducible refine gate_callee (f := 7) rfl ?_); refine gL (some 67) Try.func7 #[.agg #[.int .i64 a0_0, .int .i64 a0_1, .int .i64 a0_2], .agg #[.int .i64 a1_0, .int .i64 a1_1, .int .i64 a1_2]] rfl ?_; (with_reducible refine (spec_CountMeets.calls k a0_0 a0_1 a0_2 a1_0 a1_1 a1_2 t486 t487 _ A9.out).mono ?_); rintro e w38 ⟨rfl, hb⟩; refine ⟨_, rfl, ?_⟩; have n0_ := Am (Kd.R_below (kW HO478) hb); have n1_ := Am (Kd.R_below (kW HO482) hb); have hp0 := pA BK471 hb; have hv := vK HB hb; have n7_ := Am (bT hv hb); clear HO478; clear HO482; clear HB; have HO478 := n0_; have HO482 := n1_; replace BK471 := hp0 BK471; replace BK472 := hp0 BK472; replace BK473 := hp0 BK473; replace BK474 := hp0 BK474; replace BK475 := hp0 BK475; have HB := n7_; clear n0_ n1_ n7_ hp0 hv; (try clear hb); have zq39 := c3 BK471; have zq40 := c3 BK472) | ((with_reducible refine gate_callee (f := 8) rfl ?_); refine gL (some 73) Try.func8 #[.agg #[.int .i64 a0_0, .int .i64 a0_1, .int .i64 a0_2], .agg #[.int .i64 a1_0, .int .i64 a1_1, .int .i64 a1_2]] rfl ?_; (with_reducible refine (impl_FirstMeet.calls k a0_0 a0_1 a0_2 a1_0 a1_1 a1_2 t488 t489 t490 _ A10.out).mono ?_); rintro e w41 ⟨rfl, hb⟩; refine ⟨_, rfl, ?_⟩; have n0_ := Am (Kd.R_below (kW HO478) hb); have n1_ := Am (Kd.R_below (kW HO482) hb); have hp0 := pA BK471 hb; have hv := vK HB hb; have n7_ := Am (bT hv hb); clear HO478; clear HO482; clear HB; have HO478 := n0_; have HO482 := n1_; replace BK471 := hp0 BK471; replace BK472 := hp0 BK472; replace BK473 := hp0 BK473; replace BK474 := hp0 BK474; replace BK475 := hp0 BK475; have HB := n7_; clear n0_ n1_ n7_ hp0 hv; (try clear hb)) | ((with_reducible refine gate_dst (N := 19) rfl ?_); (try (refine gate_guard (by rfl) ?_; dsimp only)); refine bE 19 #[.int .i64 0, .int .i64 0] 23 ?_; intro gb491 hg w42 hbox hb; have n0_ := Am (Kd.R_below (Kd.R_elderB (kW HO478) gb491 (Nat.le_of_eq hg.symm)) hb); have n1_ := Am (Kd.R_below (Kd.R_elderB (kW HO482) gb491 (Nat.le_of_eq hg.symm)) hb); have hp0 := pA BK471 hb; have hv := vK HB hb; have n7_ := Am (bT hv hb); have n8_ := Am (hbox); have GE491 := kG hg hv; have hp1 := pK BK471 hb; obtain ⟨NB471_491, NB491_471⟩ := kXY hg hp1 BK471; obtain ⟨NB472_491, NB491_472⟩ := kXY hg hp1 BK472; obtain ⟨NB473_491, NB491_473⟩ := kXY hg hp1 BK473; obtain ⟨NB474_491, NB491_474⟩ := kXY hg hp1 BK474; obtain ⟨NB475_491, NB491_475⟩ := kXY hg hp1 BK475; clear HO478; clear HO482; clear HB; have HO478 := n0_; have HO482 := n1_; replace BK471 := hp0 BK471; replace BK472 := hp0 BK472; replace BK473 := hp0 BK473; replace BK474 := hp0 BK474; replace BK475 := hp0 BK475; have HB := n7_; have BK491 := n8_; clear n0_ n1_ n7_ n8_ hp0 hp1 hv; clear hb hbox hg; have nq43 := kO NB491_471; have nq44 := kO NB491_472; have nq45 := kO NB491_473; have nq46 := kO NB491_474; have nq47 := kO NB491_475; have zq48 := c2 BK491; have zq49 := c3 BK471; have zq50 := c3 BK472) | ((with_reducible refine gate_callee (f := 9) rfl ?_); refine gL (some 79) Try.func9 #[.agg #[.int .i64 a0_0, .int .i64 a0_1, .int .i64 a0_2], .agg #[.int .i64 a1_0, .int .i64 a1_1, .int .i64 a1_2]] rfl ?_; (with_reducible refine (spec_FirstMeet.calls k a0_0 a0_1 a0_2 a1_0 a1_1 a1_2 t492 t493 t494 _ A11.out).mono ?_); rintro e w51 ⟨rfl, hb⟩; refine ⟨_, rfl, ?_⟩; have n0_ := Am (Kd.R_below (by (with_reducible repeat (first | apply Kd.R_alloc | apply Kd.R_drewN | apply Kd.R_drew)); exact (Kd.R_mono (Kd.R_far (p := ⟨gb491, 1, none⟩) (Kd.R_far (p := ⟨gb491, 0, none⟩) (Kd.R_mono HO478.out (fun k_ hk => (⟨hk, hk.2⟩ : _ ∧ k_ ≠ gb491))) (fun _ hk => hk.2) (.int .i64 t488)) (fun _ hk => hk.2) (.int .i64 t489)) (fun _ h_ => h_.1))) hb); have n1_ := Am (Kd.R_below (by (with_reducible repeat (first | apply Kd.R_alloc | apply Kd.R_drewN | apply Kd.R_drew)); exact (Kd.R_mono (Kd.R_far (p := ⟨gb491, 1, none⟩) (Kd.R_far (p := ⟨gb491, 0, none⟩) (Kd.R_mono HO482.out (fun k_ hk => (⟨hk, hk.2⟩ : _ ∧ k_ ≠ gb491))) (fun _ hk => hk.2) (.int .i64 t488)) (fun _ hk => hk.2) (.int .i64 t489)) (fun _ h_ => h_.1))) hb); have hp0 := pB gb491 BK471 hb; have n7_ := Am (kB (g := gb491) (o := .cells #[.int .i64 t488, .int .i64 t489] 23 (0, 0)) (by (with_reducible repeat (first | refine kN ?_ _ | refine kD ?_ | refine kA ?_ _)); refine kP (cs := #[.int .i64 t488, .int .i64 0]) ?_ 1 _ rfl; (with_reducible repeat (first | refine kN ?_ _ | refine kD ?_ | refine kA ?_ _)); refine kP (cs := #[.int .i64 0, .int .i64 0]) ?_ 0 _ rfl; (with_reducible repeat (first | refine kN ?_ _ | refine kD ?_ | refine kA ?_ _)); exact BK491.out) hb); have hv := vK HB hb; have n8_ := Am (bT hv hb); clear HO478; clear HO482; clear BK491; clear HB; have HO478 := n0_; have HO482 := n1_; replace BK471 := hp0 NB471_491 BK471; replace BK472 := hp0 NB472_491 BK472; replace BK473 := hp0 NB473_491 BK473; replace BK474 := hp0 NB474_491 BK474; replace BK475 := hp0 NB475_491 BK475; have BK491 := n7_; have HB := n8_; clear n0_ n1_ n7_ n8_ hp0 hv; (try clear hb); (try clear hk)) | ((with_reducible refine gate_dst (N := 21) rfl ?_); (try (refine gate_guard (by rfl) ?_; dsimp only)); refine bE 21 #[.int .i64 0, .int .i64 0] 23 ?_; intro gb495 hg w52 hbox hb; have n0_ := Am (Kd.R_below (Kd.R_elderB (kW HO478) gb495 (Nat.le_of_eq hg.symm)) hb); have n1_ := Am (Kd.R_below (Kd.R_elderB (kW HO482) gb495 (Nat.le_of_eq hg.symm)) hb); have hp0 := pA BK471 hb; have hv := vK HB hb; have n8_ := Am (bT hv hb); have n9_ := Am (hbox); have GE495 := kG hg hv; have hp1 := pK BK471 hb; obtain ⟨NB471_495, NB495_471⟩ := kXY hg hp1 BK471; obtain ⟨NB472_495, NB495_472⟩ := kXY hg hp1 BK472; obtain ⟨NB473_495, NB495_473⟩ := kXY hg hp1 BK473; obtain ⟨NB474_495, NB495_474⟩ := kXY hg hp1 BK474; obtain ⟨NB475_495, NB495_475⟩ := kXY hg hp1 BK475; obtain ⟨NB491_495, NB495_491⟩ := kXY hg hp1 BK491; clear HO478; clear HO482; clear HB; have HO478 := n0_; have HO482 := n1_; replace BK471 := hp0 BK471; replace BK472 := hp0 BK472; replace BK473 := hp0 BK473; replace BK474 := hp0 BK474; replace BK475 := hp0 BK475; replace BK491 := hp0 BK491; have HB := n8_; have BK495 := n9_; clear n0_ n1_ n8_ n9_ hp0 hp1 hv; clear hb hbox hg; have nq53 := kO NB495_471; have nq54 := kO NB495_472; have nq55 := kO NB495_473; have nq56 := kO NB495_474; have nq57 := kO NB495_475; have nq58 := kO NB495_491; have zq59 := c2 BK495; have zq60 := c3 BK471; have zq61 := c3 BK472) | ((with_reducible refine gate_callee (f := 10) rfl ?_); refine gL (some 85) Try.func10 #[.agg #[.int .i64 a0_0, .int .i64 a0_1, .int .i64 a0_2], .agg #[.int .i64 a1_0, .int .i64 a1_1, .int .i64 a1_2]] rfl ?_; (with_reducible refine (impl_MeetPlaces.calls k a0_0 a0_1 a0_2 a1_0 a1_1 a1_2 t496 t499 _ A12.out).mono ?_); rintro e w62 ⟨v497, rfl, ho0, hb⟩; refine ⟨_, rfl, ?_⟩; have n0_ := Am (Kd.R_elder' (by (with_reducible repeat (first | apply Kd.R_alloc | apply Kd.R_drewN | apply Kd.R_drew)); exact (Kd.R_mono (Kd.R_far (p := ⟨gb495, 1, none⟩) (Kd.R_far (p := ⟨gb495, 0, none⟩) (Kd.R_mono HO478.out (fun k_ hk => (⟨hk, hk.2⟩ : _ ∧ k_ ≠ gb495))) (fun _ hk => hk.2) (.int .i64 t492)) (fun _ hk => hk.2) (.int .i64 t493)) (fun _ h_ => h_.1))) (Kd.R_base ho0) hb); have n1_ := Am (Kd.R_elder' (by (with_reducible repeat (first | apply Kd.R_alloc | apply Kd.R_drewN | apply Kd.R_drew)); exact (Kd.R_mono (Kd.R_far (p := ⟨gb495, 1, none⟩) (Kd.R_far (p := ⟨gb495, 0, none⟩) (Kd.R_mono HO482.out (fun k_ hk => (⟨hk, hk.2⟩ : _ ∧ k_ ≠ gb495))) (fun _ hk => hk.2) (.int .i64 t492)) (fun _ hk => hk.2) (.int .i64 t493)) (fun _ h_ => h_.1))) (Kd.R_base ho0) hb); have n2_ := Am (Kd.R_lower (Kd.R_newB (Kd.R_newB (Kd.R_newB (Kd.R_new' (Kd.R_new' ho0 (Kd.R_lt (by (with_reducible repeat (first | apply Kd.R_alloc | apply Kd.R_drewN | apply Kd.R_drew)); exact (Kd.R_mono (Kd.R_far (p := ⟨gb495, 1, none⟩) (Kd.R_far (p := ⟨gb495, 0, none⟩) (Kd.R_mono HO478.out (fun k_ hk => (⟨hk, hk.2⟩ : _ ∧ k_ ≠ gb495))) (fun _ hk => hk.2) (.int .i64 t492)) (fun _ hk => hk.2) (.int .i64 t493)) (fun _ h_ => h_.1))))) (Kd.R_lt (by (with_reducible repeat (first | apply Kd.R_alloc | apply Kd.R_drewN | apply Kd.R_drew)); exact (Kd.R_mono (Kd.R_far (p := ⟨gb495, 1, none⟩) (Kd.R_far (p := ⟨gb495, 0, none⟩) (Kd.R_mono HO482.out (fun k_ hk => (⟨hk, hk.2⟩ : _ ∧ k_ ≠ gb495))) (fun _ hk => hk.2) (.int .i64 t492)) (fun _ hk => hk.2) (.int .i64 t493)) (fun _ h_ => h_.1))))) (g := gb475) (o := .cells #[.int .i64 a4_0, .int .i64 a4_1] 23 (0, 0)) (by (with_reducible repeat (first | refine kN ?_ _ | refine kD ?_ | refine kA ?_ _)); refine kR ?_ NB475_495.out _; (with_reducible repeat (first | refine kN ?_ _ | refine kD ?_ | refine kA ?_ _)); refine kR ?_ NB475_495.out _; (with_reducible repeat (first | refine kN ?_ _ | refine kD ?_ | refine kA ?_ _)); exact BK475.out)) (g := gb491) (o := .cells #[.int .i64 t488, .int .i64 t489] 23 (0, 0)) (by (with_reducible repeat (first | refine kN ?_ _ | refine kD ?_ | refine kA ?_ _)); refine kR ?_ NB491_495.out _; (with_reducible repeat (first | refine kN ?_ _ | refine kD ?_ | refine kA ?_ _)); refine kR ?_ NB491_495.out _; (with_reducible repeat (first | refine kN ?_ _ | refine kD ?_ | refine kA ?_ _)); exact BK491.out)) (g := gb495) (o := .cells #[.int .i64 t492, .int .i64 t493] 23 (0, 0)) (by (with_reducible repeat (first | refine kN ?_ _ | refine kD ?_ | refine kA ?_ _)); refine kP (cs := #[.int .i64 t492, .int .i64 0]) ?_ 1 _ rfl; (with_reducible repeat (first | refine kN ?_ _ | refine kD ?_ | refine kA ?_ _)); refine kP (cs := #[.int .i64 0, .int .i64 0]) ?_ 0 _ rfl; (with_reducible repeat (first | refine kN ?_ _ | refine kD ?_ | refine kA ?_ _)); exact BK495.out)) (bZ (by repeat (first | (with_reducible first | exact HB.out | apply bA | apply bN | apply bD | refine bX ?_ (by assumption)) | exact HB.out)))); have hp0 := pB gb495 BK471 hb; have n9_ := Am (kB (g := gb495) (o := .cells #[.int .i64 t492, .int .i64 t493] 23 (0, 0)) (by (with_reducible repeat (first | refine kN ?_ _ | refine kD ?_ | refine kA ?_ _)); refine kP (cs := #[.int .i64 t492, .int .i64 0]) ?_ 1 _ rfl; (with_reducible repeat (first | refine kN ?_ _ | refine kD ?_ | refine kA ?_ _)); refine kP (cs := #[.int .i64 0, .int .i64 0]) ?_ 0 _ rfl; (with_reducible repeat (first | refine kN ?_ _ | refine kD ?_ | refine kA ?_ _)); exact BK495.out) hb); have hv := vK HB hb; have n10_ := Am (bT hv hb); clear HO478; clear HO482; clear BK495; clear HB; have HO478 := n0_; have HO482 := n1_; have HO498 := n2_; replace BK471 := hp0 NB471_495 BK471; replace BK472 := hp0 NB472_495 BK472; replace BK473 := hp0 NB473_495 BK473; replace BK474 := hp0 NB474_495 BK474; replace BK475 := hp0 NB475_495 BK475; replace BK491 := hp0 NB491_495 BK491; have BK495 := n9_; have HB := n10_; clear n0_ n1_ n2_ n9_ n10_ hp0 hv; (try clear hb); (try clear hk); (try clear ho0); have zq63 := c3 BK471; have zq64 := c3 BK472) | ((with_reducible refine gate_callee (f := 11) rfl ?_); refine gL (some 91) Try.func11 #[.agg #[.int .i64 a0_0, .int .i64 a0_1, .int .i64 a0_2], .agg #[.int .i64 a1_0, .int .i64 a1_1, .int .i64 a1_2]] rfl ?_; (with_reducible refine (spec_MeetPlaces.calls k a0_0 a0_1 a0_2 a1_0 a1_1 a1_2 t500 t503 _ A13.out).mono ?_); rintro e w65 ⟨v501, rfl, ho0, hb⟩; refine ⟨_, rfl, ?_⟩; have n0_ := Am (Kd.R_elder' (kW HO478) (Kd.R_base ho0) hb); have n1_ := Am (Kd.R_elder' (kW HO482) (Kd.R_base ho0) hb); have n2_ := Am (Kd.R_elder' (kW HO498) (Kd.R_base ho0) hb); have n3_ := Am (Kd.R_lower (Kd.R_newB (Kd.R_newB (Kd.R_newB (Kd.R_new' (Kd.R_new' (Kd.R_new' ho0 (Kd.R_lt (kW HO478))) (Kd.R_lt (kW HO482))) (Kd.R_lt (kW HO498))) (g := gb475) (o := .cells #[.int .i64 a4_0, .int .i64 a4_1] 23 (0, 0)) (kU BK475)) (g := gb491) (o := .cells #[.int .i64 t488, .int .i64 t489] 23 (0, 0)) (kU BK491)) (g := gb495) (o := .cells #[.int .i64 t492, .int .i64 t493] 23 (0, 0)) (kU BK495)) (bZ (by repeat (first | (with_reducible first | exact HB.out | apply bA | apply bN | apply bD | refine bX ?_ (by assumption)) | exact HB.out)))); have hp0 := pA BK471 hb; have hv := vK HB hb; have n11_ := Am (bT hv hb); clear HO478; clear HO482; clear HO498; clear HB; have HO478 := n0_; have HO482 := n1_; have HO498 := n2_; have HO502 := n3_; replace BK471 := hp0 BK471; replace BK472 := hp0 BK472; replace BK473 := hp0 BK473; replace BK474 := hp0 BK474; replace BK475 := hp0 BK475; replace BK491 := hp0 BK491; replace BK495 := hp0 BK495; have HB := n11_; clear n0_ n1_ n2_ n3_ n11_ hp0 hv; (try clear hb); (try clear ho0)))
 (try simp only [Act.put, List.setIfInBounds_toArray, List.set_cons_zero, List.set_cons_succ])
 go_cut [159] from 46 to 158 (fun v159 wc => ∃ (kq : Nat) (x159_13 : Bool), v159 = .bool x159_13 ∧ Aside0 (laws_FnHandsMeetOfAll.j0 kq t476 t479 t484 t496 t499 x159_13 a0_0 a0_1 a0_2 a1_0 a1_1 a1_2 a2_0 a2_1 a2_2 a3_0 a3_1 a3_2 a4_0 a4_1 t488 t489 = some r) ∧ Aside0 (kq ≤ k) ∧ Aside0 (Kd.R k23 23 wc w.heap.size (fun k_ => some k_ ≠ (v497 : Value).ownBlock ∧ k_ ≠ gb475 ∧ k_ ≠ gb491 ∧ k_ ≠ gb495) v477 t476) ∧ Aside0 (Kd.R k23 23 wc w.heap.size (fun k_ => some k_ ≠ (v477 : Value).ownBlock ∧ k_ ≠ gb475 ∧ k_ ≠ gb491 ∧ k_ ≠ gb495) v497 t496) ∧ Aside0 (wc.heap[gb471]? = some (.cells #[.int .i64 a0_0, .int .i64 a0_1, .int .i64 a0_2] 25 (0, 0))) ∧ Aside0 (wc.heap[gb472]? = some (.cells #[.int .i64 a1_0, .int .i64 a1_1, .int .i64 a1_2] 25 (0, 0))) ∧ Aside0 (wc.heap[gb473]? = some (.cells #[.int .i64 a2_0, .int .i64 a2_1, .int .i64 a2_2] 25 (0, 0))) ∧ Aside0 (wc.heap[gb474]? = some (.cells #[.int .i64 a3_0, .int .i64 a3_1, .int .i64 a3_2] 25 (0, 0))) ∧ Aside0 (wc.heap[gb475]? = some (.cells #[.int .i64 a4_0, .int .i64 a4_1] 23 (0, 0))) ∧ Aside0 (wc.heap[gb491]? = some (.cells #[.int .i64 t488, .int .i64 t489] 23 (0, 0))) ∧ Aside0 (wc.heap[gb495]? = some (.cells #[.int .i64 t492, .int .i64 t493] 23 (0, 0))) ∧ Aside0 (Below w.heap.size w wc))
 case first =>
  have H := HC14.out
  clear HC14
  by_cases c66 : (t479 != t483) = true
  ·rw [if_pos c66] at H
   have c66b0 : (t479 != t483) = true := c66
   (try (have c66b1 : decide (t479 = t483) = false := by simpa using c66))
   (try (have c66b2 : (t479 == t483) = false := by simpa using c66))
   (try (have c66b3 : ¬ (t479 = t483) := by simpa using c66))
   clear c66
   (first | rw [c66b0] | (simp only [i64_w, i32_w]; rw [c66b0]) | skip)
   as_aux_lemma =>
    exact absurd ((laws_FnHandsMeetOfAll.j0_no H).symm.trans hlaw.out) (by decide)
  rw [if_neg c66] at H
  have c66b0 : (t479 != t483) = false := by simpa using c66
  (try (have c66b1 : decide (t479 = t483) = true := by simpa using c66))
  (try (have c66b2 : (t479 == t483) = true := by simpa using c66))
  clear c66
  (first | rw [c66b0] | (simp only [i64_w, i32_w]; rw [c66b0]) | skip)
  replace H := Option.bind_eq_some_iff.mp H
  obtain ⟨t504, A670, H⟩ := H
  try dsimp only at H
  have A67 := Am A670
  clear A670
  by_cases c68 : t504 = true
  ·subst c68
   have H1 : (if (t485 != t487) = true then (laws_FnHandsMeetOfAll.j0 k t476 t479 t484 t496 t499 true a0_0 a0_1 a0_2 a1_0 a1_1 a1_2 a2_0 a2_1 a2_2 a3_0 a3_1 a3_2 a4_0 a4_1 t488 t489) else (if t484 = t486 then (if (t490 != t494) = true then (laws_FnHandsMeetOfAll.j0 k t476 t479 t484 t496 t499 true a0_0 a0_1 a0_2 a1_0 a1_1 a1_2 a2_0 a2_1 a2_2 a3_0 a3_1 a3_2 a4_0 a4_1 t488 t489) else (if (!(t488 == t492) || (!(t489 == t493))) = true then (laws_FnHandsMeetOfAll.j0 k t476 t479 t484 t496 t499 true a0_0 a0_1 a0_2 a1_0 a1_1 a1_2 a2_0 a2_1 a2_2 a3_0 a3_1 a3_2 a4_0 a4_1 t488 t489) else (if (t499 != t503) = true then (laws_FnHandsMeetOfAll.j0 k t476 t479 t484 t496 t499 true a0_0 a0_1 a0_2 a1_0 a1_1 a1_2 a2_0 a2_1 a2_2 a3_0 a3_1 a3_2 a4_0 a4_1 t488 t489) else ((laws_kTurns.f k t496 t500).bind fun t505 => (if t505 = true then (if (t490 != t479) = true then (laws_FnHandsMeetOfAll.j0 k t476 t479 t484 t496 t499 true a0_0 a0_1 a0_2 a1_0 a1_1 a1_2 a2_0 a2_1 a2_2 a3_0 a3_1 a3_2 a4_0 a4_1 t488 t489) else (if t499 = true then (if t479 = true then (if t485 = true then ((impl_IsHand.f k a0_0 a0_1 a0_2).bind fun t506 => ((spec_IsHand.f k a0_0 a0_1 a0_2).bind fun t507 => (laws_FnHandsMeetOfAll.j0 k t476 t479 t484 t496 t499 (t506 != t507) a0_0 a0_1 a0_2 a1_0 a1_1 a1_2 a2_0 a2_1 a2_2 a3_0 a3_1 a3_2 a4_0 a4_1 t488 t489))) else (laws_FnHandsMeetOfAll.j0 k t476 t479 t484 t496 t499 true a0_0 a0_1 a0_2 a1_0 a1_1 a1_2 a2_0 a2_1 a2_2 a3_0 a3_1 a3_2 a4_0 a4_1 t488 t489)) else (laws_FnHandsMeetOfAll.j0 k t476 t479 t484 t496 t499 true a0_0 a0_1 a0_2 a1_0 a1_1 a1_2 a2_0 a2_1 a2_2 a3_0 a3_1 a3_2 a4_0 a4_1 t488 t489)) else (if t479 = true then (if t485 = true then ((impl_IsHand.f k a0_0 a0_1 a0_2).bind fun t508 => ((spec_IsHand.f k a0_0 a0_1 a0_2).bind fun t509 => (laws_FnHandsMeetOfAll.j0 k t476 t479 t484 t496 t499 (t508 != t509) a0_0 a0_1 a0_2 a1_0 a1_1 a1_2 a2_0 a2_1 a2_2 a3_0 a3_1 a3_2 a4_0 a4_1 t488 t489))) else (laws_FnHandsMeetOfAll.j0 k t476 t479 t484 t496 t499 true a0_0 a0_1 a0_2 a1_0 a1_1 a1_2 a2_0 a2_1 a2_2 a3_0 a3_1 a3_2 a4_0 a4_1 t488 t489)) else ((impl_IsHand.f k a0_0 a0_1 a0_2).bind fun t510 => ((spec_IsHand.f k a0_0 a0_1 a0_2).bind fun t511 => (laws_FnHandsMeetOfAll.j0 k t476 t479 t484 t496 t499 (t510 != t511) a0_0 a0_1 a0_2 a1_0 a1_1 a1_2 a2_0 a2_1 a2_2 a3_0 a3_1 a3_2 a4_0 a4_1 t488 t489)))))) else (laws_FnHandsMeetOfAll.j0 k t476 t479 t484 t496 t499 true a0_0 a0_1 a0_2 a1_0 a1_1 a1_2 a2_0 a2_1 a2_2 a3_0 a3_1 a3_2 a4_0 a4_1 t488 t489)))))) else (laws_FnHandsMeetOfAll.j0 k t476 t479 t484 t496 t499 true a0_0 a0_1 a0_2 a1_0 a1_1 a1_2 a2_0 a2_1 a2_2 a3_0 a3_1 a3_2 a4_0 a4_1 t488 t489))) = some r := by rw [if_pos rfl] at H; exact H
   clear H
   have H := H1
   clear H1
   by_cases c69 : (t485 != t487) = true
   ·rw [if_pos c69] at H
    have c69b0 : (t485 != t487) = true := c69
    (try (have c69b1 : decide (t485 = t487) = false := by simpa using c69))
    (try (have c69b2 : (t485 == t487) = false := by simpa using c69))
    (try (have c69b3 : ¬ (t485 = t487) := by simpa using c69))
    clear c69
    as_aux_lemma =>
     exact absurd ((laws_FnHandsMeetOfAll.j0_no H).symm.trans hlaw.out) (by decide)
   rw [if_neg c69] at H
   have c69b0 : (t485 != t487) = false := by simpa using c69
   (try (have c69b1 : decide (t485 = t487) = true := by simpa using c69))
   (try (have c69b2 : (t485 == t487) = true := by simpa using c69))
   clear c69
   by_cases c70 : t484 = t486
   ·rw [if_pos c70] at H
    have c70b0 : (t484 == t486) = true := beq_iff_eq.mpr c70
    have c70b1 : (t484 != t486) = false := bne_eq_false_iff_eq.mpr c70
    clear c70
    by_cases c71 : (t490 != t494) = true
    ·rw [if_pos c71] at H
     have c71b0 : (t490 != t494) = true := c71
     (try (have c71b1 : decide (t490 = t494) = false := by simpa using c71))
     (try (have c71b2 : (t490 == t494) = false := by simpa using c71))
     (try (have c71b3 : ¬ (t490 = t494) := by simpa using c71))
     clear c71
     as_aux_lemma =>
      exact absurd ((laws_FnHandsMeetOfAll.j0_no H).symm.trans hlaw.out) (by decide)
    rw [if_neg c71] at H
    have c71b0 : (t490 != t494) = false := by simpa using c71
    (try (have c71b1 : decide (t490 = t494) = true := by simpa using c71))
    (try (have c71b2 : (t490 == t494) = true := by simpa using c71))
    clear c71
    by_cases c72 : (!(t488 == t492) || (!(t489 == t493))) = true
    ·rw [if_pos c72] at H
     have c72b0 : (!(t488 == t492) || (!(t489 == t493))) = true := c72
     clear c72
     as_aux_lemma =>
      exact absurd ((laws_FnHandsMeetOfAll.j0_no H).symm.trans hlaw.out) (by decide)
    rw [if_neg c72] at H
    have c72b0 : (!(t488 == t492) || (!(t489 == t493))) = false := by simpa using c72
    clear c72
    by_cases c73 : (t499 != t503) = true
    ·rw [if_pos c73] at H
     have c73b0 : (t499 != t503) = true := c73
     (try (have c73b1 : decide (t499 = t503) = false := by simpa using c73))
     (try (have c73b2 : (t499 == t503) = false := by simpa using c73))
     (try (have c73b3 : ¬ (t499 = t503) := by simpa using c73))
     clear c73
     as_aux_lemma =>
      exact absurd ((laws_FnHandsMeetOfAll.j0_no H).symm.trans hlaw.out) (by decide)
    rw [if_neg c73] at H
    have c73b0 : (t499 != t503) = false := by simpa using c73
    (try (have c73b1 : decide (t499 = t503) = true := by simpa using c73))
    (try (have c73b2 : (t499 == t503) = true := by simpa using c73))
    clear c73
    replace H := Option.bind_eq_some_iff.mp H
    obtain ⟨t505, A740, H⟩ := H
    try dsimp only at H
    have A74 := Am A740
    clear A740
    by_cases c75 : t505 = true
    ·subst c75
     have H1 : (if (t490 != t479) = true then (laws_FnHandsMeetOfAll.j0 k t476 t479 t484 t496 t499 true a0_0 a0_1 a0_2 a1_0 a1_1 a1_2 a2_0 a2_1 a2_2 a3_0 a3_1 a3_2 a4_0 a4_1 t488 t489) else (if t499 = true then (if t479 = true then (if t485 = true then ((impl_IsHand.f k a0_0 a0_1 a0_2).bind fun t506 => ((spec_IsHand.f k a0_0 a0_1 a0_2).bind fun t507 => (laws_FnHandsMeetOfAll.j0 k t476 t479 t484 t496 t499 (t506 != t507) a0_0 a0_1 a0_2 a1_0 a1_1 a1_2 a2_0 a2_1 a2_2 a3_0 a3_1 a3_2 a4_0 a4_1 t488 t489))) else (laws_FnHandsMeetOfAll.j0 k t476 t479 t484 t496 t499 true a0_0 a0_1 a0_2 a1_0 a1_1 a1_2 a2_0 a2_1 a2_2 a3_0 a3_1 a3_2 a4_0 a4_1 t488 t489)) else (laws_FnHandsMeetOfAll.j0 k t476 t479 t484 t496 t499 true a0_0 a0_1 a0_2 a1_0 a1_1 a1_2 a2_0 a2_1 a2_2 a3_0 a3_1 a3_2 a4_0 a4_1 t488 t489)) else (if t479 = true then (if t485 = true then ((impl_IsHand.f k a0_0 a0_1 a0_2).bind fun t508 => ((spec_IsHand.f k a0_0 a0_1 a0_2).bind fun t509 => (laws_FnHandsMeetOfAll.j0 k t476 t479 t484 t496 t499 (t508 != t509) a0_0 a0_1 a0_2 a1_0 a1_1 a1_2 a2_0 a2_1 a2_2 a3_0 a3_1 a3_2 a4_0 a4_1 t488 t489))) else (laws_FnHandsMeetOfAll.j0 k t476 t479 t484 t496 t499 true a0_0 a0_1 a0_2 a1_0 a1_1 a1_2 a2_0 a2_1 a2_2 a3_0 a3_1 a3_2 a4_0 a4_1 t488 t489)) else ((impl_IsHand.f k a0_0 a0_1 a0_2).bind fun t510 => ((spec_IsHand.f k a0_0 a0_1 a0_2).bind fun t511 => (laws_FnHandsMeetOfAll.j0 k t476 t479 t484 t496 t499 (t510 != t511) a0_0 a0_1 a0_2 a1_0 a1_1 a1_2 a2_0 a2_1 a2_2 a3_0 a3_1 a3_2 a4_0 a4_1 t488 t489)))))) = some r := by rw [if_pos rfl] at H; exact H
     clear H
     have H := H1
     clear H1
     by_cases c76 : (t490 != t479) = true
     ·rw [if_pos c76] at H
      have c76b0 : (t490 != t479) = true := c76
      (try (have c76b1 : decide (t490 = t479) = false := by simpa using c76))
      (try (have c76b2 : (t490 == t479) = false := by simpa using c76))
      (try (have c76b3 : ¬ (t490 = t479) := by simpa using c76))
      clear c76
      as_aux_lemma =>
       exact absurd ((laws_FnHandsMeetOfAll.j0_no H).symm.trans hlaw.out) (by decide)
     rw [if_neg c76] at H
     have c76b0 : (t490 != t479) = false := by simpa using c76
     (try (have c76b1 : decide (t490 = t479) = true := by simpa using c76))
     (try (have c76b2 : (t490 == t479) = true := by simpa using c76))
     clear c76
     by_cases c77 : t499 = true
     ·subst c77
      have H1 : (if t479 = true then (if t485 = true then ((impl_IsHand.f k a0_0 a0_1 a0_2).bind fun t506 => ((spec_IsHand.f k a0_0 a0_1 a0_2).bind fun t507 => (laws_FnHandsMeetOfAll.j0 k t476 t479 t484 t496 true (t506 != t507) a0_0 a0_1 a0_2 a1_0 a1_1 a1_2 a2_0 a2_1 a2_2 a3_0 a3_1 a3_2 a4_0 a4_1 t488 t489))) else (laws_FnHandsMeetOfAll.j0 k t476 t479 t484 t496 true true a0_0 a0_1 a0_2 a1_0 a1_1 a1_2 a2_0 a2_1 a2_2 a3_0 a3_1 a3_2 a4_0 a4_1 t488 t489)) else (laws_FnHandsMeetOfAll.j0 k t476 t479 t484 t496 true true a0_0 a0_1 a0_2 a1_0 a1_1 a1_2 a2_0 a2_1 a2_2 a3_0 a3_1 a3_2 a4_0 a4_1 t488 t489)) = some r := by rw [if_pos rfl] at H; exact H
      clear H
      have H := H1
      clear H1
      by_cases c78 : t479 = true
      ·subst c78
       have H1 : (if t485 = true then ((impl_IsHand.f k a0_0 a0_1 a0_2).bind fun t506 => ((spec_IsHand.f k a0_0 a0_1 a0_2).bind fun t507 => (laws_FnHandsMeetOfAll.j0 k t476 true t484 t496 true (t506 != t507) a0_0 a0_1 a0_2 a1_0 a1_1 a1_2 a2_0 a2_1 a2_2 a3_0 a3_1 a3_2 a4_0 a4_1 t488 t489))) else (laws_FnHandsMeetOfAll.j0 k t476 true t484 t496 true true a0_0 a0_1 a0_2 a1_0 a1_1 a1_2 a2_0 a2_1 a2_2 a3_0 a3_1 a3_2 a4_0 a4_1 t488 t489)) = some r := by rw [if_pos rfl] at H; exact H
       clear H
       have H := H1
       clear H1
       by_cases c79 : t485 = true
       ·subst c79
        have H1 : ((impl_IsHand.f k a0_0 a0_1 a0_2).bind fun t506 => ((spec_IsHand.f k a0_0 a0_1 a0_2).bind fun t507 => (laws_FnHandsMeetOfAll.j0 k t476 true t484 t496 true (t506 != t507) a0_0 a0_1 a0_2 a1_0 a1_1 a1_2 a2_0 a2_1 a2_2 a3_0 a3_1 a3_2 a4_0 a4_1 t488 t489))) = some r := by rw [if_pos rfl] at H; exact H
        clear H
        have H := H1
        clear H1
        replace H := Option.bind_eq_some_iff.mp H
        obtain ⟨t506, A800, H⟩ := H
        try dsimp only at H
        have A80 := Am A800
        clear A800
        replace H := Option.bind_eq_some_iff.mp H
        obtain ⟨t507, A810, H⟩ := H
        try dsimp only at H
        have A81 := Am A810
        clear A810
        as_aux_lemma =>
         have H' := Am H
         clear H
         try go_wp2
         have n0_ := Am (Kd.R_drew HO478.out)
         have n1_ := Am (Kd.R_drew HO482.out)
         have n2_ := Am (Kd.R_drew HO498.out)
         have n3_ := Am (Kd.R_drew HO502.out)
         have n4_ := Am (kD BK471.out)
         have n5_ := Am (kD BK472.out)
         have n6_ := Am (kD BK473.out)
         have n7_ := Am (kD BK474.out)
         have n8_ := Am (kD BK475.out)
         have n9_ := Am (kD BK491.out)
         have n10_ := Am (kD BK495.out)
         have n11_ := Am (bD HB.out)
         clear HO478 HO482 HO498 HO502 BK471 BK472 BK473 BK474 BK475 BK491 BK495 HB
         have HO478 := n0_; have HO482 := n1_; have HO498 := n2_; have HO502 := n3_; have BK471 := n4_; have BK472 := n5_; have BK473 := n6_; have BK474 := n7_; have BK475 := n8_; have BK491 := n9_; have BK495 := n10_; have HB := n11_
         clear n0_ n1_ n2_ n3_ n4_ n5_ n6_ n7_ n8_ n9_ n10_ n11_
         obtain ⟨Ao83, co83, eo83⟩ := Kd.R_slice HO478.out
         (first | subst eo83 | (injection eo83 with f1_ f2_ f3_; have f4_ := f1_.symm; have f5_ := f3_.symm; clear f1_ f2_ f3_; subst f4_; subst f5_))
         obtain ⟨Ao84, co84, eo84⟩ := Kd.R_slice HO482.out
         (first | subst eo84 | (injection eo84 with f1_ f2_ f3_; have f4_ := f1_.symm; have f5_ := f3_.symm; clear f1_ f2_ f3_; subst f4_; subst f5_))
         refine start_ (n := 66) (S := fun w' => w'.cell? ⟨gb491, 0, none⟩ = some (.int .i64 t488) ∧ w'.cell? ⟨gb491, 1, none⟩ = some (.int .i64 t489) ∧ w'.cell? ⟨gb495, 0, none⟩ = some (.int .i64 t492) ∧ w'.cell? ⟨gb495, 1, none⟩ = some (.int .i64 t493) ∧ w'.cell? ⟨gb471, 0, none⟩ = some (.int .i64 a0_0) ∧ w'.cell? ⟨gb471, 1, none⟩ = some (.int .i64 a0_1) ∧ w'.cell? ⟨gb471, 2, none⟩ = some (.int .i64 a0_2)) (ds := []) (pT 66 0) (by kernel_rfl) rfl rfl ⟨c20 BK491.out, c21 BK491.out, c20 BK495.out, c21 BK495.out, c30 BK471.out, c31 BK471.out, c32 BK471.out⟩ (fun hHeld => ?_); refine with_tabW laws_FnHandsMeetOfAll.tab9 laws_FnHandsMeetOfAll.bits9 (fun HT_ HW_ => ?_)
         generalize w65.drew = w82 at HO478 HO482 HO498 HO502 BK471 BK472 BK473 BK474 BK475 BK491 BK495 HB hHeld ⊢
         iterate 6
          refine pI (v := ?_) (a' := ?_) rfl (any_of HT_.out (by kernel_rfl)) (fun _ _ _ h => h) (Or.inl ⟨by rfl, ?_⟩) ?_ ?_
          rotate_left
          ·intro w'
           go_simp
           with_reducible rfl
          rotate_left
          ·show Act.put _ (some _) _ = _
           simp only [Act.put, List.setIfInBounds_toArray, List.set_cons_zero, List.set_cons_succ, i64_w, i32_w]
           rfl
         refine one_ (i := 6) (N := some 100) (pT 66 7) rfl rfl (one_of HT_.out (by kernel_rfl)) (by decide) (fun K hK => ?_)
         refine goes_ Try.func12 (by kernel_rfl) rfl #[.slice Ao83 t476.length co83, .slice Ao84 t480.length co84] (by rfl) rfl rfl (by (try simp only [List.map_toArray, List.map_cons, List.map_nil]); first | done | rfl | (simp only [List.length_drop, List.length_take]; rfl)) ?_
         with_reducible refine (laws_kTurns.calls k _ _ t476 _ _ t480 true _ ?side1 ?side2 ?side3 ?side4 A67.out).mono ?_
         (case side1 => repeat (first | exact (Kd.R_reads' HO478.out).2.2 | (with_reducible refine Kd.C_alloc ?_ _) | (with_reducible refine Kd.C_drewN ?_ _) | (with_reducible refine Kd.C_drew ?_)))
         (case side2 => exact (Kd.R_reads' HO478.out).2.1)
         (case side3 => repeat (first | exact (Kd.R_reads' HO482.out).2.2 | (with_reducible refine Kd.C_alloc ?_ _) | (with_reducible refine Kd.C_drewN ?_ _) | (with_reducible refine Kd.C_drew ?_)))
         (case side4 => exact (Kd.R_reads' HO482.out).2.1)
         rintro e w' ⟨rfl, ⟨nd, rfl⟩⟩
         refine ⟨_, rfl, ?_⟩
         obtain ⟨Ao85, co85, eo85⟩ := Kd.R_slice HO498.out
         (first | subst eo85 | (injection eo85 with f1_ f2_ f3_; have f4_ := f1_.symm; have f5_ := f3_.symm; clear f1_ f2_ f3_; subst f4_; subst f5_))
         obtain ⟨Ao86, co86, eo86⟩ := Kd.R_slice HO502.out
         (first | subst eo86 | (injection eo86 with f1_ f2_ f3_; have f4_ := f1_.symm; have f5_ := f3_.symm; clear f1_ f2_ f3_; subst f4_; subst f5_))
         refine hK.out _ _ ⟨c20 BK491.out, c21 BK491.out, c20 BK495.out, c21 BK495.out, c30 BK471.out, c31 BK471.out, c32 BK471.out⟩ (fun hHeld => ?_)
         clear hK K
         refine norm_ (a' := ?_) ?_ ?_
         rotate_left
         ·show Act.put _ (some 100) _ = _
          simp only [Act.put, List.setIfInBounds_toArray, List.set_cons_zero, List.set_cons_succ, i64_w, i32_w]
          rfl
         iterate 30
          first
          | refine pI (v := ?_) (a' := ?_) rfl (any_of HT_.out (by kernel_rfl)) (fun _ _ _ h => h) (Or.inl ⟨by rfl, ?_⟩) ?_ ?_
            rotate_left
            ·intro w'
             go_simp
             with_reducible rfl
            rotate_left
            ·show Act.put _ (some _) _ = _
             simp only [Act.put, List.setIfInBounds_toArray, List.set_cons_zero, List.set_cons_succ, i64_w, i32_w]
             rfl
          | refine tI (v := ?_) (a' := ?_) rfl (take_ofW HT_.out HW_.out (by kernel_rfl)) (fun _ _ _ h => h) (Or.inl ⟨by rfl, ?_⟩) hHeld ?_ ?_
            rotate_left
            ·rintro w' ⟨s0, s1, s2, s3, s4, s5, s6⟩
             go_simp
             with_reducible rfl
            rotate_left
            ·show Act.put _ (some _) _ = _
             simp only [Act.put, List.setIfInBounds_toArray, List.set_cons_zero, List.set_cons_succ, i64_w, i32_w]
             rfl
         refine one_ (i := 37) (N := some 131) (pT 66 38) rfl rfl (one_of HT_.out (by kernel_rfl)) (by decide) (fun K hK => ?_)
         refine goes_ Try.func12 (by kernel_rfl) rfl #[.slice Ao85 t496.length co85, .slice Ao86 t500.length co86] (by rfl) rfl rfl (by (try simp only [List.map_toArray, List.map_cons, List.map_nil]); first | done | rfl | (simp only [List.length_drop, List.length_take]; rfl)) ?_
         with_reducible refine (laws_kTurns.calls k _ _ t496 _ _ t500 true _ ?side1 ?side2 ?side3 ?side4 A74.out).mono ?_
         (case side1 => repeat (first | exact (Kd.R_reads' HO498.out).2.2 | (with_reducible refine Kd.C_alloc ?_ _) | (with_reducible refine Kd.C_drewN ?_ _) | (with_reducible refine Kd.C_drew ?_)))
         (case side2 => exact (Kd.R_reads' HO498.out).2.1)
         (case side3 => repeat (first | exact (Kd.R_reads' HO502.out).2.2 | (with_reducible refine Kd.C_alloc ?_ _) | (with_reducible refine Kd.C_drewN ?_ _) | (with_reducible refine Kd.C_drew ?_)))
         (case side4 => exact (Kd.R_reads' HO502.out).2.1)
         rintro e w' ⟨rfl, ⟨nd, rfl⟩⟩
         refine ⟨_, rfl, ?_⟩
         refine hK.out _ _ ⟨c20 BK491.out, c21 BK491.out, c20 BK495.out, c21 BK495.out, c30 BK471.out, c31 BK471.out, c32 BK471.out⟩ (fun hHeld => ?_)
         clear hK K
         refine norm_ (a' := ?_) ?_ ?_
         rotate_left
         ·show Act.put _ (some 131) _ = _
          simp only [Act.put, List.setIfInBounds_toArray, List.set_cons_zero, List.set_cons_succ, i64_w, i32_w]
          rfl
         iterate 23
          first
          | refine pI (v := ?_) (a' := ?_) rfl (any_of HT_.out (by kernel_rfl)) (fun _ _ _ h => h) (Or.inl ⟨by rfl, ?_⟩) ?_ ?_
            rotate_left
            ·intro w'
             go_simp
             with_reducible rfl
            rotate_left
            ·show Act.put _ (some _) _ = _
             simp only [Act.put, List.setIfInBounds_toArray, List.set_cons_zero, List.set_cons_succ, i64_w, i32_w]
             rfl
          | refine tI (v := ?_) (a' := ?_) rfl (take_ofW HT_.out HW_.out (by kernel_rfl)) (fun _ _ _ h => h) (Or.inl ⟨by rfl, ?_⟩) hHeld ?_ ?_
            rotate_left
            ·rintro w' ⟨s0, s1, s2, s3, s4, s5, s6⟩
             go_simp
             with_reducible rfl
            rotate_left
            ·show Act.put _ (some _) _ = _
             simp only [Act.put, List.setIfInBounds_toArray, List.set_cons_zero, List.set_cons_succ, i64_w, i32_w]
             rfl
         refine take_ (i := 62) (N := some 156) (v := ?_) (a' := ?_) #[true, true, true, true, true, true, true, true, true, true, true, true, true, true, true, true, true, true, true, true, true, true, true, true, true, true, true, true, true, true, true, true, true, true, true, true, true, true, true, true, true, true, true, true, true, true, true, true, true, true, true, true, true, true, true, true, true, true, true, true, true, false, true, false, false, false] rfl rfl (take_ofW HT_.out HW_.out (by kernel_rfl)) (fun _ _ _ h => h) (Or.inl ⟨by rfl, ?_⟩) hHeld ?_ ?_
         rotate_left
         ·rintro w' ⟨s0, s1, s2, s3, s4, s5, s6⟩
          go_simp
          with_reducible rfl
         rotate_left
         ·simp only [Act.put, List.setIfInBounds_toArray, List.set_cons_zero, List.set_cons_succ, i64_w, i32_w]
          rfl
         refine one_ (i := 61) (N := some 155) (pT 66 63) rfl rfl (one_of HT_.out (by kernel_rfl)) (by decide) (fun K hK => ?_)
         refine goes_ Try.func13 (by kernel_rfl) rfl #[.agg #[.int .i64 a0_0, .int .i64 a0_1, .int .i64 a0_2]] (by rfl) rfl rfl (by (try simp only [List.map_toArray, List.map_cons, List.map_nil]); first | done | rfl | (simp only [List.length_drop, List.length_take]; rfl)) ?_
         with_reducible refine (impl_IsHand.calls k a0_0 a0_1 a0_2 t506 _ A80.out).mono ?_
         rintro e w87 ⟨rfl, hb⟩
         refine ⟨_, rfl, ?_⟩
         have n0_ := Am (Kd.R_below (kW HO478) hb)
         have n1_ := Am (Kd.R_below (kW HO482) hb)
         have n2_ := Am (Kd.R_below (kW HO498) hb)
         have n3_ := Am (Kd.R_below (kW HO502) hb)
         have hp0 := pA BK471 hb
         have hv := vK HB hb
         have n11_ := Am (bT hv hb)
         clear HO478 HO482 HO498 HO502 HB
         have HO478 := n0_; have HO482 := n1_; have HO498 := n2_; have HO502 := n3_
         replace BK471 := hp0 BK471; replace BK472 := hp0 BK472; replace BK473 := hp0 BK473; replace BK474 := hp0 BK474; replace BK475 := hp0 BK475; replace BK491 := hp0 BK491; replace BK495 := hp0 BK495
         have HB := n11_
         clear n0_ n1_ n2_ n3_ n11_ hp0 hv
         (try clear hb)
         refine hK.out _ _ ⟨c20 BK491.out, c21 BK491.out, c20 BK495.out, c21 BK495.out, c30 BK471.out, c31 BK471.out, c32 BK471.out⟩ (fun hHeld => ?_)
         clear hK K
         refine norm_ (a' := ?_) ?_ ?_
         rotate_left
         ·show Act.put _ (some 155) _ = _
          simp only [Act.put, List.setIfInBounds_toArray, List.set_cons_zero, List.set_cons_succ, i64_w, i32_w]
          rfl
         refine one_ (i := 63) (N := some 157) (pT 66 64) rfl rfl (one_of HT_.out (by kernel_rfl)) (by decide) (fun K hK => ?_)
         refine goes_ Try.func14 (by kernel_rfl) rfl #[.agg #[.int .i64 a0_0, .int .i64 a0_1, .int .i64 a0_2]] (by rfl) rfl rfl (by (try simp only [List.map_toArray, List.map_cons, List.map_nil]); first | done | rfl | (simp only [List.length_drop, List.length_take]; rfl)) ?_
         with_reducible refine (spec_IsHand.calls k a0_0 a0_1 a0_2 t507 _ A81.out).mono ?_
         rintro e w88 ⟨rfl, hb⟩
         refine ⟨_, rfl, ?_⟩
         have n0_ := Am (Kd.R_below (kW HO478) hb)
         have n1_ := Am (Kd.R_below (kW HO482) hb)
         have n2_ := Am (Kd.R_below (kW HO498) hb)
         have n3_ := Am (Kd.R_below (kW HO502) hb)
         have hp0 := pA BK471 hb
         have hv := vK HB hb
         have n11_ := Am (bT hv hb)
         clear HO478 HO482 HO498 HO502 HB
         have HO478 := n0_; have HO482 := n1_; have HO498 := n2_; have HO502 := n3_
         replace BK471 := hp0 BK471; replace BK472 := hp0 BK472; replace BK473 := hp0 BK473; replace BK474 := hp0 BK474; replace BK475 := hp0 BK475; replace BK491 := hp0 BK491; replace BK495 := hp0 BK495
         have HB := n11_
         clear n0_ n1_ n2_ n3_ n11_ hp0 hv
         (try clear hb)
         refine hK.out _ _ ⟨c20 BK491.out, c21 BK491.out, c20 BK495.out, c21 BK495.out, c30 BK471.out, c31 BK471.out, c32 BK471.out⟩ (fun hHeld => ?_)
         clear hK K
         refine norm_ (a' := ?_) ?_ ?_
         rotate_left
         ·show Act.put _ (some 157) _ = _
          simp only [Act.put, List.setIfInBounds_toArray, List.set_cons_zero, List.set_cons_succ, i64_w, i32_w]
          rfl
         iterate 2
          refine pI (v := ?_) (a' := ?_) rfl (any_of HT_.out (by kernel_rfl)) (fun _ _ _ h => h) (Or.inl ⟨by rfl, ?_⟩) ?_ ?_
          rotate_left
          ·intro w'
           go_simp
           with_reducible rfl
          rotate_left
          ·show Act.put _ (some _) _ = _
           simp only [Act.put, List.setIfInBounds_toArray, List.set_cons_zero, List.set_cons_succ, i64_w, i32_w]
           rfl
         refine done_ (done_of HT_.out (by kernel_rfl)) ?_
         try go_wp2
         go_meet
         case rel =>
          refine ⟨_, ((t506 != t507)), (by first | rfl | (simp; done) | (simp [*]; done)), H', ⟨by first | omega | exact Nat.le_refl _⟩, ⟨by (with_reducible repeat (first | apply Kd.R_alloc | apply Kd.R_drewN | apply Kd.R_drew)); exact Kd.R_mono HO478.out (fun _ hk => ⟨hk.1.2, ⟨hk.1.1.1.1.1.2, ⟨hk.1.1.1.2, hk.1.1.2⟩⟩⟩)⟩, ⟨by (with_reducible repeat (first | apply Kd.R_alloc | apply Kd.R_drewN | apply Kd.R_drew)); exact Kd.R_mono HO498.out (fun _ hk => ⟨hk.1.1.1.1.1.2, ⟨hk.1.1.1.2, ⟨hk.1.1.2, hk.1.2⟩⟩⟩)⟩, ⟨?_⟩, ⟨?_⟩, ⟨?_⟩, ⟨?_⟩, ⟨?_⟩, ⟨?_⟩, ⟨?_⟩, ⟨by repeat (first | (with_reducible first | exact HB.out | apply bA | apply bN | apply bD | refine bX ?_ (by assumption)) | exact HB.out)⟩⟩
          all_goals ((with_reducible repeat (first | refine kN ?_ _ | refine kD ?_ | refine kA ?_ _)); exact Aside0.out (by assumption))
       replace c79 := Bool.eq_false_iff.mpr c79
       subst c79
       have H1 : (laws_FnHandsMeetOfAll.j0 k t476 true t484 t496 true true a0_0 a0_1 a0_2 a1_0 a1_1 a1_2 a2_0 a2_1 a2_2 a3_0 a3_1 a3_2 a4_0 a4_1 t488 t489) = some r := by rw [if_neg (show ¬ (false = true) by decide)] at H; exact H
       clear H
       have H := H1
       clear H1
       as_aux_lemma =>
        exact absurd ((laws_FnHandsMeetOfAll.j0_no H).symm.trans hlaw.out) (by decide)
      replace c78 := Bool.eq_false_iff.mpr c78
      subst c78
      have H1 : (laws_FnHandsMeetOfAll.j0 k t476 false t484 t496 true true a0_0 a0_1 a0_2 a1_0 a1_1 a1_2 a2_0 a2_1 a2_2 a3_0 a3_1 a3_2 a4_0 a4_1 t488 t489) = some r := by rw [if_neg (show ¬ (false = true) by decide)] at H; exact H
      clear H
      have H := H1
      clear H1
      as_aux_lemma =>
       exact absurd ((laws_FnHandsMeetOfAll.j0_no H).symm.trans hlaw.out) (by decide)
     replace c77 := Bool.eq_false_iff.mpr c77
     subst c77
     have H1 : (if t479 = true then (if t485 = true then ((impl_IsHand.f k a0_0 a0_1 a0_2).bind fun t508 => ((spec_IsHand.f k a0_0 a0_1 a0_2).bind fun t509 => (laws_FnHandsMeetOfAll.j0 k t476 t479 t484 t496 false (t508 != t509) a0_0 a0_1 a0_2 a1_0 a1_1 a1_2 a2_0 a2_1 a2_2 a3_0 a3_1 a3_2 a4_0 a4_1 t488 t489))) else (laws_FnHandsMeetOfAll.j0 k t476 t479 t484 t496 false true a0_0 a0_1 a0_2 a1_0 a1_1 a1_2 a2_0 a2_1 a2_2 a3_0 a3_1 a3_2 a4_0 a4_1 t488 t489)) else ((impl_IsHand.f k a0_0 a0_1 a0_2).bind fun t510 => ((spec_IsHand.f k a0_0 a0_1 a0_2).bind fun t511 => (laws_FnHandsMeetOfAll.j0 k t476 t479 t484 t496 false (t510 != t511) a0_0 a0_1 a0_2 a1_0 a1_1 a1_2 a2_0 a2_1 a2_2 a3_0 a3_1 a3_2 a4_0 a4_1 t488 t489)))) = some r := by rw [if_neg (show ¬ (false = true) by decide)] at H; exact H
     clear H
     have H := H1
     clear H1
     by_cases c89 : t479 = true
     ·subst c89
      have H1 : (if t485 = true then ((impl_IsHand.f k a0_0 a0_1 a0_2).bind fun t508 => ((spec_IsHand.f k a0_0 a0_1 a0_2).bind fun t509 => (laws_FnHandsMeetOfAll.j0 k t476 true t484 t496 false (t508 != t509) a0_0 a0_1 a0_2 a1_0 a1_1 a1_2 a2_0 a2_1 a2_2 a3_0 a3_1 a3_2 a4_0 a4_1 t488 t489))) else (laws_FnHandsMeetOfAll.j0 k t476 true t484 t496 false true a0_0 a0_1 a0_2 a1_0 a1_1 a1_2 a2_0 a2_1 a2_2 a3_0 a3_1 a3_2 a4_0 a4_1 t488 t489)) = some r := by rw [if_pos rfl] at H; exact H
      clear H
      have H := H1
      clear H1
      by_cases c90 : t485 = true
      ·subst c90
       have H1 : ((impl_IsHand.f k a0_0 a0_1 a0_2).bind fun t508 => ((spec_IsHand.f k a0_0 a0_1 a0_2).bind fun t509 => (laws_FnHandsMeetOfAll.j0 k t476 true t484 t496 false (t508 != t509) a0_0 a0_1 a0_2 a1_0 a1_1 a1_2 a2_0 a2_1 a2_2 a3_0 a3_1 a3_2 a4_0 a4_1 t488 t489))) = some r := by rw [if_pos rfl] at H; exact H
       clear H
       have H := H1
       clear H1
       replace H := Option.bind_eq_some_iff.mp H
       obtain ⟨t508, A910, H⟩ := H
       try dsimp only at H
       have A91 := Am A910
       clear A910
       replace H := Option.bind_eq_some_iff.mp H
       obtain ⟨t509, A920, H⟩ := H
       try dsimp only at H
       have A92 := Am A920
       clear A920
       as_aux_lemma =>
        have H' := Am H
        clear H
        try go_wp2
        have n0_ := Am (Kd.R_drew HO478.out)
        have n1_ := Am (Kd.R_drew HO482.out)
        have n2_ := Am (Kd.R_drew HO498.out)
        have n3_ := Am (Kd.R_drew HO502.out)
        have n4_ := Am (kD BK471.out)
        have n5_ := Am (kD BK472.out)
        have n6_ := Am (kD BK473.out)
        have n7_ := Am (kD BK474.out)
        have n8_ := Am (kD BK475.out)
        have n9_ := Am (kD BK491.out)
        have n10_ := Am (kD BK495.out)
        have n11_ := Am (bD HB.out)
        clear HO478 HO482 HO498 HO502 BK471 BK472 BK473 BK474 BK475 BK491 BK495 HB
        have HO478 := n0_; have HO482 := n1_; have HO498 := n2_; have HO502 := n3_; have BK471 := n4_; have BK472 := n5_; have BK473 := n6_; have BK474 := n7_; have BK475 := n8_; have BK491 := n9_; have BK495 := n10_; have HB := n11_
        clear n0_ n1_ n2_ n3_ n4_ n5_ n6_ n7_ n8_ n9_ n10_ n11_
        obtain ⟨Ao94, co94, eo94⟩ := Kd.R_slice HO478.out
        (first | subst eo94 | (injection eo94 with f1_ f2_ f3_; have f4_ := f1_.symm; have f5_ := f3_.symm; clear f1_ f2_ f3_; subst f4_; subst f5_))
        obtain ⟨Ao95, co95, eo95⟩ := Kd.R_slice HO482.out
        (first | subst eo95 | (injection eo95 with f1_ f2_ f3_; have f4_ := f1_.symm; have f5_ := f3_.symm; clear f1_ f2_ f3_; subst f4_; subst f5_))
        refine start_ (n := 66) (S := fun w' => w'.cell? ⟨gb491, 0, none⟩ = some (.int .i64 t488) ∧ w'.cell? ⟨gb491, 1, none⟩ = some (.int .i64 t489) ∧ w'.cell? ⟨gb495, 0, none⟩ = some (.int .i64 t492) ∧ w'.cell? ⟨gb495, 1, none⟩ = some (.int .i64 t493) ∧ w'.cell? ⟨gb471, 0, none⟩ = some (.int .i64 a0_0) ∧ w'.cell? ⟨gb471, 1, none⟩ = some (.int .i64 a0_1) ∧ w'.cell? ⟨gb471, 2, none⟩ = some (.int .i64 a0_2)) (ds := []) (pT 66 0) (by kernel_rfl) rfl rfl ⟨c20 BK491.out, c21 BK491.out, c20 BK495.out, c21 BK495.out, c30 BK471.out, c31 BK471.out, c32 BK471.out⟩ (fun hHeld => ?_); refine with_tabW laws_FnHandsMeetOfAll.tab9 laws_FnHandsMeetOfAll.bits9 (fun HT_ HW_ => ?_)
        generalize w65.drew = w93 at HO478 HO482 HO498 HO502 BK471 BK472 BK473 BK474 BK475 BK491 BK495 HB hHeld ⊢
        iterate 6
         refine pI (v := ?_) (a' := ?_) rfl (any_of HT_.out (by kernel_rfl)) (fun _ _ _ h => h) (Or.inl ⟨by rfl, ?_⟩) ?_ ?_
         rotate_left
         ·intro w'
          go_simp
          with_reducible rfl
         rotate_left
         ·show Act.put _ (some _) _ = _
          simp only [Act.put, List.setIfInBounds_toArray, List.set_cons_zero, List.set_cons_succ, i64_w, i32_w]
          rfl
        refine one_ (i := 6) (N := some 100) (pT 66 7) rfl rfl (one_of HT_.out (by kernel_rfl)) (by decide) (fun K hK => ?_)
        refine goes_ Try.func12 (by kernel_rfl) rfl #[.slice Ao94 t476.length co94, .slice Ao95 t480.length co95] (by rfl) rfl rfl (by (try simp only [List.map_toArray, List.map_cons, List.map_nil]); first | done | rfl | (simp only [List.length_drop, List.length_take]; rfl)) ?_
        with_reducible refine (laws_kTurns.calls k _ _ t476 _ _ t480 true _ ?side1 ?side2 ?side3 ?side4 A67.out).mono ?_
        (case side1 => repeat (first | exact (Kd.R_reads' HO478.out).2.2 | (with_reducible refine Kd.C_alloc ?_ _) | (with_reducible refine Kd.C_drewN ?_ _) | (with_reducible refine Kd.C_drew ?_)))
        (case side2 => exact (Kd.R_reads' HO478.out).2.1)
        (case side3 => repeat (first | exact (Kd.R_reads' HO482.out).2.2 | (with_reducible refine Kd.C_alloc ?_ _) | (with_reducible refine Kd.C_drewN ?_ _) | (with_reducible refine Kd.C_drew ?_)))
        (case side4 => exact (Kd.R_reads' HO482.out).2.1)
        rintro e w' ⟨rfl, ⟨nd, rfl⟩⟩
        refine ⟨_, rfl, ?_⟩
        obtain ⟨Ao96, co96, eo96⟩ := Kd.R_slice HO498.out
        (first | subst eo96 | (injection eo96 with f1_ f2_ f3_; have f4_ := f1_.symm; have f5_ := f3_.symm; clear f1_ f2_ f3_; subst f4_; subst f5_))
        obtain ⟨Ao97, co97, eo97⟩ := Kd.R_slice HO502.out
        (first | subst eo97 | (injection eo97 with f1_ f2_ f3_; have f4_ := f1_.symm; have f5_ := f3_.symm; clear f1_ f2_ f3_; subst f4_; subst f5_))
        refine hK.out _ _ ⟨c20 BK491.out, c21 BK491.out, c20 BK495.out, c21 BK495.out, c30 BK471.out, c31 BK471.out, c32 BK471.out⟩ (fun hHeld => ?_)
        clear hK K
        refine norm_ (a' := ?_) ?_ ?_
        rotate_left
        ·show Act.put _ (some 100) _ = _
         simp only [Act.put, List.setIfInBounds_toArray, List.set_cons_zero, List.set_cons_succ, i64_w, i32_w]
         rfl
        iterate 30
         first
         | refine pI (v := ?_) (a' := ?_) rfl (any_of HT_.out (by kernel_rfl)) (fun _ _ _ h => h) (Or.inl ⟨by rfl, ?_⟩) ?_ ?_
           rotate_left
           ·intro w'
            go_simp
            with_reducible rfl
           rotate_left
           ·show Act.put _ (some _) _ = _
            simp only [Act.put, List.setIfInBounds_toArray, List.set_cons_zero, List.set_cons_succ, i64_w, i32_w]
            rfl
         | refine tI (v := ?_) (a' := ?_) rfl (take_ofW HT_.out HW_.out (by kernel_rfl)) (fun _ _ _ h => h) (Or.inl ⟨by rfl, ?_⟩) hHeld ?_ ?_
           rotate_left
           ·rintro w' ⟨s0, s1, s2, s3, s4, s5, s6⟩
            go_simp
            with_reducible rfl
           rotate_left
           ·show Act.put _ (some _) _ = _
            simp only [Act.put, List.setIfInBounds_toArray, List.set_cons_zero, List.set_cons_succ, i64_w, i32_w]
            rfl
        refine one_ (i := 37) (N := some 131) (pT 66 38) rfl rfl (one_of HT_.out (by kernel_rfl)) (by decide) (fun K hK => ?_)
        refine goes_ Try.func12 (by kernel_rfl) rfl #[.slice Ao96 t496.length co96, .slice Ao97 t500.length co97] (by rfl) rfl rfl (by (try simp only [List.map_toArray, List.map_cons, List.map_nil]); first | done | rfl | (simp only [List.length_drop, List.length_take]; rfl)) ?_
        with_reducible refine (laws_kTurns.calls k _ _ t496 _ _ t500 true _ ?side1 ?side2 ?side3 ?side4 A74.out).mono ?_
        (case side1 => repeat (first | exact (Kd.R_reads' HO498.out).2.2 | (with_reducible refine Kd.C_alloc ?_ _) | (with_reducible refine Kd.C_drewN ?_ _) | (with_reducible refine Kd.C_drew ?_)))
        (case side2 => exact (Kd.R_reads' HO498.out).2.1)
        (case side3 => repeat (first | exact (Kd.R_reads' HO502.out).2.2 | (with_reducible refine Kd.C_alloc ?_ _) | (with_reducible refine Kd.C_drewN ?_ _) | (with_reducible refine Kd.C_drew ?_)))
        (case side4 => exact (Kd.R_reads' HO502.out).2.1)
        rintro e w' ⟨rfl, ⟨nd, rfl⟩⟩
        refine ⟨_, rfl, ?_⟩
        refine hK.out _ _ ⟨c20 BK491.out, c21 BK491.out, c20 BK495.out, c21 BK495.out, c30 BK471.out, c31 BK471.out, c32 BK471.out⟩ (fun hHeld => ?_)
        clear hK K
        refine norm_ (a' := ?_) ?_ ?_
        rotate_left
        ·show Act.put _ (some 131) _ = _
         simp only [Act.put, List.setIfInBounds_toArray, List.set_cons_zero, List.set_cons_succ, i64_w, i32_w]
         rfl
        iterate 23
         first
         | refine pI (v := ?_) (a' := ?_) rfl (any_of HT_.out (by kernel_rfl)) (fun _ _ _ h => h) (Or.inl ⟨by rfl, ?_⟩) ?_ ?_
           rotate_left
           ·intro w'
            go_simp
            with_reducible rfl
           rotate_left
           ·show Act.put _ (some _) _ = _
            simp only [Act.put, List.setIfInBounds_toArray, List.set_cons_zero, List.set_cons_succ, i64_w, i32_w]
            rfl
         | refine pI (v := undef) (a' := ?_) rfl (any_of HT_.out (by kernel_rfl)) (fun _ _ _ h => h) (Or.inr ⟨by rfl, rfl⟩) ?_ ?_
           rotate_left
           ·show Act.put _ (some _) _ = _
            simp only [Act.put, List.setIfInBounds_toArray, List.set_cons_zero, List.set_cons_succ, i64_w, i32_w]
            rfl
         | refine tI (v := ?_) (a' := ?_) rfl (take_ofW HT_.out HW_.out (by kernel_rfl)) (fun _ _ _ h => h) (Or.inl ⟨by rfl, ?_⟩) hHeld ?_ ?_
           rotate_left
           ·rintro w' ⟨s0, s1, s2, s3, s4, s5, s6⟩
            go_simp
            with_reducible rfl
           rotate_left
           ·show Act.put _ (some _) _ = _
            simp only [Act.put, List.setIfInBounds_toArray, List.set_cons_zero, List.set_cons_succ, i64_w, i32_w]
            rfl
        refine take_ (i := 62) (N := some 156) (v := ?_) (a' := ?_) #[true, true, true, true, true, true, true, true, true, true, true, true, true, true, true, true, true, true, true, true, true, true, true, true, true, true, true, true, true, true, true, true, true, true, true, true, true, true, true, true, true, true, true, true, true, true, true, true, true, true, true, true, true, true, true, true, true, true, true, true, true, false, true, false, false, false] rfl rfl (take_ofW HT_.out HW_.out (by kernel_rfl)) (fun _ _ _ h => h) (Or.inl ⟨by rfl, ?_⟩) hHeld ?_ ?_
        rotate_left
        ·rintro w' ⟨s0, s1, s2, s3, s4, s5, s6⟩
         go_simp
         with_reducible rfl
        rotate_left
        ·simp only [Act.put, List.setIfInBounds_toArray, List.set_cons_zero, List.set_cons_succ, i64_w, i32_w]
         rfl
        refine one_ (i := 61) (N := some 155) (pT 66 63) rfl rfl (one_of HT_.out (by kernel_rfl)) (by decide) (fun K hK => ?_)
        refine goes_ Try.func13 (by kernel_rfl) rfl #[.agg #[.int .i64 a0_0, .int .i64 a0_1, .int .i64 a0_2]] (by rfl) rfl rfl (by (try simp only [List.map_toArray, List.map_cons, List.map_nil]); first | done | rfl | (simp only [List.length_drop, List.length_take]; rfl)) ?_
        with_reducible refine (impl_IsHand.calls k a0_0 a0_1 a0_2 t508 _ A91.out).mono ?_
        rintro e w98 ⟨rfl, hb⟩
        refine ⟨_, rfl, ?_⟩
        have n0_ := Am (Kd.R_below (kW HO478) hb)
        have n1_ := Am (Kd.R_below (kW HO482) hb)
        have n2_ := Am (Kd.R_below (kW HO498) hb)
        have n3_ := Am (Kd.R_below (kW HO502) hb)
        have hp0 := pA BK471 hb
        have hv := vK HB hb
        have n11_ := Am (bT hv hb)
        clear HO478 HO482 HO498 HO502 HB
        have HO478 := n0_; have HO482 := n1_; have HO498 := n2_; have HO502 := n3_
        replace BK471 := hp0 BK471; replace BK472 := hp0 BK472; replace BK473 := hp0 BK473; replace BK474 := hp0 BK474; replace BK475 := hp0 BK475; replace BK491 := hp0 BK491; replace BK495 := hp0 BK495
        have HB := n11_
        clear n0_ n1_ n2_ n3_ n11_ hp0 hv
        (try clear hb)
        refine hK.out _ _ ⟨c20 BK491.out, c21 BK491.out, c20 BK495.out, c21 BK495.out, c30 BK471.out, c31 BK471.out, c32 BK471.out⟩ (fun hHeld => ?_)
        clear hK K
        refine norm_ (a' := ?_) ?_ ?_
        rotate_left
        ·show Act.put _ (some 155) _ = _
         simp only [Act.put, List.setIfInBounds_toArray, List.set_cons_zero, List.set_cons_succ, i64_w, i32_w]
         rfl
        refine one_ (i := 63) (N := some 157) (pT 66 64) rfl rfl (one_of HT_.out (by kernel_rfl)) (by decide) (fun K hK => ?_)
        refine goes_ Try.func14 (by kernel_rfl) rfl #[.agg #[.int .i64 a0_0, .int .i64 a0_1, .int .i64 a0_2]] (by rfl) rfl rfl (by (try simp only [List.map_toArray, List.map_cons, List.map_nil]); first | done | rfl | (simp only [List.length_drop, List.length_take]; rfl)) ?_
        with_reducible refine (spec_IsHand.calls k a0_0 a0_1 a0_2 t509 _ A92.out).mono ?_
        rintro e w99 ⟨rfl, hb⟩
        refine ⟨_, rfl, ?_⟩
        have n0_ := Am (Kd.R_below (kW HO478) hb)
        have n1_ := Am (Kd.R_below (kW HO482) hb)
        have n2_ := Am (Kd.R_below (kW HO498) hb)
        have n3_ := Am (Kd.R_below (kW HO502) hb)
        have hp0 := pA BK471 hb
        have hv := vK HB hb
        have n11_ := Am (bT hv hb)
        clear HO478 HO482 HO498 HO502 HB
        have HO478 := n0_; have HO482 := n1_; have HO498 := n2_; have HO502 := n3_
        replace BK471 := hp0 BK471; replace BK472 := hp0 BK472; replace BK473 := hp0 BK473; replace BK474 := hp0 BK474; replace BK475 := hp0 BK475; replace BK491 := hp0 BK491; replace BK495 := hp0 BK495
        have HB := n11_
        clear n0_ n1_ n2_ n3_ n11_ hp0 hv
        (try clear hb)
        refine hK.out _ _ ⟨c20 BK491.out, c21 BK491.out, c20 BK495.out, c21 BK495.out, c30 BK471.out, c31 BK471.out, c32 BK471.out⟩ (fun hHeld => ?_)
        clear hK K
        refine norm_ (a' := ?_) ?_ ?_
        rotate_left
        ·show Act.put _ (some 157) _ = _
         simp only [Act.put, List.setIfInBounds_toArray, List.set_cons_zero, List.set_cons_succ, i64_w, i32_w]
         rfl
        iterate 2
         refine pI (v := ?_) (a' := ?_) rfl (any_of HT_.out (by kernel_rfl)) (fun _ _ _ h => h) (Or.inl ⟨by rfl, ?_⟩) ?_ ?_
         rotate_left
         ·intro w'
          go_simp
          with_reducible rfl
         rotate_left
         ·show Act.put _ (some _) _ = _
          simp only [Act.put, List.setIfInBounds_toArray, List.set_cons_zero, List.set_cons_succ, i64_w, i32_w]
          rfl
        refine done_ (done_of HT_.out (by kernel_rfl)) ?_
        try go_wp2
        go_meet
        case rel =>
         refine ⟨_, ((t508 != t509)), (by first | rfl | (simp; done) | (simp [*]; done)), H', ⟨by first | omega | exact Nat.le_refl _⟩, ⟨by (with_reducible repeat (first | apply Kd.R_alloc | apply Kd.R_drewN | apply Kd.R_drew)); exact Kd.R_mono HO478.out (fun _ hk => ⟨hk.1.2, ⟨hk.1.1.1.1.1.2, ⟨hk.1.1.1.2, hk.1.1.2⟩⟩⟩)⟩, ⟨by (with_reducible repeat (first | apply Kd.R_alloc | apply Kd.R_drewN | apply Kd.R_drew)); exact Kd.R_mono HO498.out (fun _ hk => ⟨hk.1.1.1.1.1.2, ⟨hk.1.1.1.2, ⟨hk.1.1.2, hk.1.2⟩⟩⟩)⟩, ⟨?_⟩, ⟨?_⟩, ⟨?_⟩, ⟨?_⟩, ⟨?_⟩, ⟨?_⟩, ⟨?_⟩, ⟨by repeat (first | (with_reducible first | exact HB.out | apply bA | apply bN | apply bD | refine bX ?_ (by assumption)) | exact HB.out)⟩⟩
         all_goals ((with_reducible repeat (first | refine kN ?_ _ | refine kD ?_ | refine kA ?_ _)); exact Aside0.out (by assumption))
      replace c90 := Bool.eq_false_iff.mpr c90
      subst c90
      have H1 : (laws_FnHandsMeetOfAll.j0 k t476 true t484 t496 false true a0_0 a0_1 a0_2 a1_0 a1_1 a1_2 a2_0 a2_1 a2_2 a3_0 a3_1 a3_2 a4_0 a4_1 t488 t489) = some r := by rw [if_neg (show ¬ (false = true) by decide)] at H; exact H
      clear H
      have H := H1
      clear H1
      as_aux_lemma =>
       exact absurd ((laws_FnHandsMeetOfAll.j0_no H).symm.trans hlaw.out) (by decide)
     replace c89 := Bool.eq_false_iff.mpr c89
     subst c89
     have H1 : ((impl_IsHand.f k a0_0 a0_1 a0_2).bind fun t510 => ((spec_IsHand.f k a0_0 a0_1 a0_2).bind fun t511 => (laws_FnHandsMeetOfAll.j0 k t476 false t484 t496 false (t510 != t511) a0_0 a0_1 a0_2 a1_0 a1_1 a1_2 a2_0 a2_1 a2_2 a3_0 a3_1 a3_2 a4_0 a4_1 t488 t489))) = some r := by rw [if_neg (show ¬ (false = true) by decide)] at H; exact H
     clear H
     have H := H1
     clear H1
     replace H := Option.bind_eq_some_iff.mp H
     obtain ⟨t510, A1000, H⟩ := H
     try dsimp only at H
     have A100 := Am A1000
     clear A1000
     replace H := Option.bind_eq_some_iff.mp H
     obtain ⟨t511, A1010, H⟩ := H
     try dsimp only at H
     have A101 := Am A1010
     clear A1010
     as_aux_lemma =>
      have H' := Am H
      clear H
      try go_wp2
      have n0_ := Am (Kd.R_drew HO478.out)
      have n1_ := Am (Kd.R_drew HO482.out)
      have n2_ := Am (Kd.R_drew HO498.out)
      have n3_ := Am (Kd.R_drew HO502.out)
      have n4_ := Am (kD BK471.out)
      have n5_ := Am (kD BK472.out)
      have n6_ := Am (kD BK473.out)
      have n7_ := Am (kD BK474.out)
      have n8_ := Am (kD BK475.out)
      have n9_ := Am (kD BK491.out)
      have n10_ := Am (kD BK495.out)
      have n11_ := Am (bD HB.out)
      clear HO478 HO482 HO498 HO502 BK471 BK472 BK473 BK474 BK475 BK491 BK495 HB
      have HO478 := n0_; have HO482 := n1_; have HO498 := n2_; have HO502 := n3_; have BK471 := n4_; have BK472 := n5_; have BK473 := n6_; have BK474 := n7_; have BK475 := n8_; have BK491 := n9_; have BK495 := n10_; have HB := n11_
      clear n0_ n1_ n2_ n3_ n4_ n5_ n6_ n7_ n8_ n9_ n10_ n11_
      obtain ⟨Ao103, co103, eo103⟩ := Kd.R_slice HO478.out
      (first | subst eo103 | (injection eo103 with f1_ f2_ f3_; have f4_ := f1_.symm; have f5_ := f3_.symm; clear f1_ f2_ f3_; subst f4_; subst f5_))
      obtain ⟨Ao104, co104, eo104⟩ := Kd.R_slice HO482.out
      (first | subst eo104 | (injection eo104 with f1_ f2_ f3_; have f4_ := f1_.symm; have f5_ := f3_.symm; clear f1_ f2_ f3_; subst f4_; subst f5_))
      refine start_ (n := 66) (S := fun w' => w'.cell? ⟨gb491, 0, none⟩ = some (.int .i64 t488) ∧ w'.cell? ⟨gb491, 1, none⟩ = some (.int .i64 t489) ∧ w'.cell? ⟨gb495, 0, none⟩ = some (.int .i64 t492) ∧ w'.cell? ⟨gb495, 1, none⟩ = some (.int .i64 t493) ∧ w'.cell? ⟨gb471, 0, none⟩ = some (.int .i64 a0_0) ∧ w'.cell? ⟨gb471, 1, none⟩ = some (.int .i64 a0_1) ∧ w'.cell? ⟨gb471, 2, none⟩ = some (.int .i64 a0_2)) (ds := []) (pT 66 0) (by kernel_rfl) rfl rfl ⟨c20 BK491.out, c21 BK491.out, c20 BK495.out, c21 BK495.out, c30 BK471.out, c31 BK471.out, c32 BK471.out⟩ (fun hHeld => ?_); refine with_tabW laws_FnHandsMeetOfAll.tab9 laws_FnHandsMeetOfAll.bits9 (fun HT_ HW_ => ?_)
      generalize w65.drew = w102 at HO478 HO482 HO498 HO502 BK471 BK472 BK473 BK474 BK475 BK491 BK495 HB hHeld ⊢
      iterate 6
       refine pI (v := ?_) (a' := ?_) rfl (any_of HT_.out (by kernel_rfl)) (fun _ _ _ h => h) (Or.inl ⟨by rfl, ?_⟩) ?_ ?_
       rotate_left
       ·intro w'
        go_simp
        with_reducible rfl
       rotate_left
       ·show Act.put _ (some _) _ = _
        simp only [Act.put, List.setIfInBounds_toArray, List.set_cons_zero, List.set_cons_succ, i64_w, i32_w]
        rfl
      refine one_ (i := 6) (N := some 100) (pT 66 7) rfl rfl (one_of HT_.out (by kernel_rfl)) (by decide) (fun K hK => ?_)
      refine goes_ Try.func12 (by kernel_rfl) rfl #[.slice Ao103 t476.length co103, .slice Ao104 t480.length co104] (by rfl) rfl rfl (by (try simp only [List.map_toArray, List.map_cons, List.map_nil]); first | done | rfl | (simp only [List.length_drop, List.length_take]; rfl)) ?_
      with_reducible refine (laws_kTurns.calls k _ _ t476 _ _ t480 true _ ?side1 ?side2 ?side3 ?side4 A67.out).mono ?_
      (case side1 => repeat (first | exact (Kd.R_reads' HO478.out).2.2 | (with_reducible refine Kd.C_alloc ?_ _) | (with_reducible refine Kd.C_drewN ?_ _) | (with_reducible refine Kd.C_drew ?_)))
      (case side2 => exact (Kd.R_reads' HO478.out).2.1)
      (case side3 => repeat (first | exact (Kd.R_reads' HO482.out).2.2 | (with_reducible refine Kd.C_alloc ?_ _) | (with_reducible refine Kd.C_drewN ?_ _) | (with_reducible refine Kd.C_drew ?_)))
      (case side4 => exact (Kd.R_reads' HO482.out).2.1)
      rintro e w' ⟨rfl, ⟨nd, rfl⟩⟩
      refine ⟨_, rfl, ?_⟩
      obtain ⟨Ao105, co105, eo105⟩ := Kd.R_slice HO498.out
      (first | subst eo105 | (injection eo105 with f1_ f2_ f3_; have f4_ := f1_.symm; have f5_ := f3_.symm; clear f1_ f2_ f3_; subst f4_; subst f5_))
      obtain ⟨Ao106, co106, eo106⟩ := Kd.R_slice HO502.out
      (first | subst eo106 | (injection eo106 with f1_ f2_ f3_; have f4_ := f1_.symm; have f5_ := f3_.symm; clear f1_ f2_ f3_; subst f4_; subst f5_))
      refine hK.out _ _ ⟨c20 BK491.out, c21 BK491.out, c20 BK495.out, c21 BK495.out, c30 BK471.out, c31 BK471.out, c32 BK471.out⟩ (fun hHeld => ?_)
      clear hK K
      refine norm_ (a' := ?_) ?_ ?_
      rotate_left
      ·show Act.put _ (some 100) _ = _
       simp only [Act.put, List.setIfInBounds_toArray, List.set_cons_zero, List.set_cons_succ, i64_w, i32_w]
       rfl
      iterate 30
       first
       | refine pI (v := ?_) (a' := ?_) rfl (any_of HT_.out (by kernel_rfl)) (fun _ _ _ h => h) (Or.inl ⟨by rfl, ?_⟩) ?_ ?_
         rotate_left
         ·intro w'
          go_simp
          with_reducible rfl
         rotate_left
         ·show Act.put _ (some _) _ = _
          simp only [Act.put, List.setIfInBounds_toArray, List.set_cons_zero, List.set_cons_succ, i64_w, i32_w]
          rfl
       | refine tI (v := ?_) (a' := ?_) rfl (take_ofW HT_.out HW_.out (by kernel_rfl)) (fun _ _ _ h => h) (Or.inl ⟨by rfl, ?_⟩) hHeld ?_ ?_
         rotate_left
         ·rintro w' ⟨s0, s1, s2, s3, s4, s5, s6⟩
          go_simp
          with_reducible rfl
         rotate_left
         ·show Act.put _ (some _) _ = _
          simp only [Act.put, List.setIfInBounds_toArray, List.set_cons_zero, List.set_cons_succ, i64_w, i32_w]
          rfl
      refine one_ (i := 37) (N := some 131) (pT 66 38) rfl rfl (one_of HT_.out (by kernel_rfl)) (by decide) (fun K hK => ?_)
      refine goes_ Try.func12 (by kernel_rfl) rfl #[.slice Ao105 t496.length co105, .slice Ao106 t500.length co106] (by rfl) rfl rfl (by (try simp only [List.map_toArray, List.map_cons, List.map_nil]); first | done | rfl | (simp only [List.length_drop, List.length_take]; rfl)) ?_
      with_reducible refine (laws_kTurns.calls k _ _ t496 _ _ t500 true _ ?side1 ?side2 ?side3 ?side4 A74.out).mono ?_
      (case side1 => repeat (first | exact (Kd.R_reads' HO498.out).2.2 | (with_reducible refine Kd.C_alloc ?_ _) | (with_reducible refine Kd.C_drewN ?_ _) | (with_reducible refine Kd.C_drew ?_)))
      (case side2 => exact (Kd.R_reads' HO498.out).2.1)
      (case side3 => repeat (first | exact (Kd.R_reads' HO502.out).2.2 | (with_reducible refine Kd.C_alloc ?_ _) | (with_reducible refine Kd.C_drewN ?_ _) | (with_reducible refine Kd.C_drew ?_)))
      (case side4 => exact (Kd.R_reads' HO502.out).2.1)
      rintro e w' ⟨rfl, ⟨nd, rfl⟩⟩
      refine ⟨_, rfl, ?_⟩
      refine hK.out _ _ ⟨c20 BK491.out, c21 BK491.out, c20 BK495.out, c21 BK495.out, c30 BK471.out, c31 BK471.out, c32 BK471.out⟩ (fun hHeld => ?_)
      clear hK K
      refine norm_ (a' := ?_) ?_ ?_
      rotate_left
      ·show Act.put _ (some 131) _ = _
       simp only [Act.put, List.setIfInBounds_toArray, List.set_cons_zero, List.set_cons_succ, i64_w, i32_w]
       rfl
      iterate 23
       first
       | refine pI (v := ?_) (a' := ?_) rfl (any_of HT_.out (by kernel_rfl)) (fun _ _ _ h => h) (Or.inl ⟨by rfl, ?_⟩) ?_ ?_
         rotate_left
         ·intro w'
          go_simp
          with_reducible rfl
         rotate_left
         ·show Act.put _ (some _) _ = _
          simp only [Act.put, List.setIfInBounds_toArray, List.set_cons_zero, List.set_cons_succ, i64_w, i32_w]
          rfl
       | refine pI (v := undef) (a' := ?_) rfl (any_of HT_.out (by kernel_rfl)) (fun _ _ _ h => h) (Or.inr ⟨by rfl, rfl⟩) ?_ ?_
         rotate_left
         ·show Act.put _ (some _) _ = _
          simp only [Act.put, List.setIfInBounds_toArray, List.set_cons_zero, List.set_cons_succ, i64_w, i32_w]
          rfl
       | refine tI (v := ?_) (a' := ?_) rfl (take_ofW HT_.out HW_.out (by kernel_rfl)) (fun _ _ _ h => h) (Or.inl ⟨by rfl, ?_⟩) hHeld ?_ ?_
         rotate_left
         ·rintro w' ⟨s0, s1, s2, s3, s4, s5, s6⟩
          go_simp
          with_reducible rfl
         rotate_left
         ·show Act.put _ (some _) _ = _
          simp only [Act.put, List.setIfInBounds_toArray, List.set_cons_zero, List.set_cons_succ, i64_w, i32_w]
          rfl
      refine take_ (i := 62) (N := some 156) (v := ?_) (a' := ?_) #[true, true, true, true, true, true, true, true, true, true, true, true, true, true, true, true, true, true, true, true, true, true, true, true, true, true, true, true, true, true, true, true, true, true, true, true, true, true, true, true, true, true, true, true, true, true, true, true, true, true, true, true, true, true, true, true, true, true, true, true, true, false, true, false, false, false] rfl rfl (take_ofW HT_.out HW_.out (by kernel_rfl)) (fun _ _ _ h => h) (Or.inl ⟨by rfl, ?_⟩) hHeld ?_ ?_
      rotate_left
      ·rintro w' ⟨s0, s1, s2, s3, s4, s5, s6⟩
       go_simp
       with_reducible rfl
      rotate_left
      ·simp only [Act.put, List.setIfInBounds_toArray, List.set_cons_zero, List.set_cons_succ, i64_w, i32_w]
       rfl
      refine one_ (i := 61) (N := some 155) (pT 66 63) rfl rfl (one_of HT_.out (by kernel_rfl)) (by decide) (fun K hK => ?_)
      refine goes_ Try.func13 (by kernel_rfl) rfl #[.agg #[.int .i64 a0_0, .int .i64 a0_1, .int .i64 a0_2]] (by rfl) rfl rfl (by (try simp only [List.map_toArray, List.map_cons, List.map_nil]); first | done | rfl | (simp only [List.length_drop, List.length_take]; rfl)) ?_
      with_reducible refine (impl_IsHand.calls k a0_0 a0_1 a0_2 t510 _ A100.out).mono ?_
      rintro e w107 ⟨rfl, hb⟩
      refine ⟨_, rfl, ?_⟩
      have n0_ := Am (Kd.R_below (kW HO478) hb)
      have n1_ := Am (Kd.R_below (kW HO482) hb)
      have n2_ := Am (Kd.R_below (kW HO498) hb)
      have n3_ := Am (Kd.R_below (kW HO502) hb)
      have hp0 := pA BK471 hb
      have hv := vK HB hb
      have n11_ := Am (bT hv hb)
      clear HO478 HO482 HO498 HO502 HB
      have HO478 := n0_; have HO482 := n1_; have HO498 := n2_; have HO502 := n3_
      replace BK471 := hp0 BK471; replace BK472 := hp0 BK472; replace BK473 := hp0 BK473; replace BK474 := hp0 BK474; replace BK475 := hp0 BK475; replace BK491 := hp0 BK491; replace BK495 := hp0 BK495
      have HB := n11_
      clear n0_ n1_ n2_ n3_ n11_ hp0 hv
      (try clear hb)
      refine hK.out _ _ ⟨c20 BK491.out, c21 BK491.out, c20 BK495.out, c21 BK495.out, c30 BK471.out, c31 BK471.out, c32 BK471.out⟩ (fun hHeld => ?_)
      clear hK K
      refine norm_ (a' := ?_) ?_ ?_
      rotate_left
      ·show Act.put _ (some 155) _ = _
       simp only [Act.put, List.setIfInBounds_toArray, List.set_cons_zero, List.set_cons_succ, i64_w, i32_w]
       rfl
      refine one_ (i := 63) (N := some 157) (pT 66 64) rfl rfl (one_of HT_.out (by kernel_rfl)) (by decide) (fun K hK => ?_)
      refine goes_ Try.func14 (by kernel_rfl) rfl #[.agg #[.int .i64 a0_0, .int .i64 a0_1, .int .i64 a0_2]] (by rfl) rfl rfl (by (try simp only [List.map_toArray, List.map_cons, List.map_nil]); first | done | rfl | (simp only [List.length_drop, List.length_take]; rfl)) ?_
      with_reducible refine (spec_IsHand.calls k a0_0 a0_1 a0_2 t511 _ A101.out).mono ?_
      rintro e w108 ⟨rfl, hb⟩
      refine ⟨_, rfl, ?_⟩
      have n0_ := Am (Kd.R_below (kW HO478) hb)
      have n1_ := Am (Kd.R_below (kW HO482) hb)
      have n2_ := Am (Kd.R_below (kW HO498) hb)
      have n3_ := Am (Kd.R_below (kW HO502) hb)
      have hp0 := pA BK471 hb
      have hv := vK HB hb
      have n11_ := Am (bT hv hb)
      clear HO478 HO482 HO498 HO502 HB
      have HO478 := n0_; have HO482 := n1_; have HO498 := n2_; have HO502 := n3_
      replace BK471 := hp0 BK471; replace BK472 := hp0 BK472; replace BK473 := hp0 BK473; replace BK474 := hp0 BK474; replace BK475 := hp0 BK475; replace BK491 := hp0 BK491; replace BK495 := hp0 BK495
      have HB := n11_
      clear n0_ n1_ n2_ n3_ n11_ hp0 hv
      (try clear hb)
      refine hK.out _ _ ⟨c20 BK491.out, c21 BK491.out, c20 BK495.out, c21 BK495.out, c30 BK471.out, c31 BK471.out, c32 BK471.out⟩ (fun hHeld => ?_)
      clear hK K
      refine norm_ (a' := ?_) ?_ ?_
      rotate_left
      ·show Act.put _ (some 157) _ = _
       simp only [Act.put, List.setIfInBounds_toArray, List.set_cons_zero, List.set_cons_succ, i64_w, i32_w]
       rfl
      iterate 2
       refine pI (v := ?_) (a' := ?_) rfl (any_of HT_.out (by kernel_rfl)) (fun _ _ _ h => h) (Or.inl ⟨by rfl, ?_⟩) ?_ ?_
       rotate_left
       ·intro w'
        go_simp
        with_reducible rfl
       rotate_left
       ·show Act.put _ (some _) _ = _
        simp only [Act.put, List.setIfInBounds_toArray, List.set_cons_zero, List.set_cons_succ, i64_w, i32_w]
        rfl
      refine done_ (done_of HT_.out (by kernel_rfl)) ?_
      try go_wp2
      go_meet
      case rel =>
       refine ⟨_, ((t510 != t511)), (by first | rfl | (simp; done) | (simp [*]; done)), H', ⟨by first | omega | exact Nat.le_refl _⟩, ⟨by (with_reducible repeat (first | apply Kd.R_alloc | apply Kd.R_drewN | apply Kd.R_drew)); exact Kd.R_mono HO478.out (fun _ hk => ⟨hk.1.2, ⟨hk.1.1.1.1.1.2, ⟨hk.1.1.1.2, hk.1.1.2⟩⟩⟩)⟩, ⟨by (with_reducible repeat (first | apply Kd.R_alloc | apply Kd.R_drewN | apply Kd.R_drew)); exact Kd.R_mono HO498.out (fun _ hk => ⟨hk.1.1.1.1.1.2, ⟨hk.1.1.1.2, ⟨hk.1.1.2, hk.1.2⟩⟩⟩)⟩, ⟨?_⟩, ⟨?_⟩, ⟨?_⟩, ⟨?_⟩, ⟨?_⟩, ⟨?_⟩, ⟨?_⟩, ⟨by repeat (first | (with_reducible first | exact HB.out | apply bA | apply bN | apply bD | refine bX ?_ (by assumption)) | exact HB.out)⟩⟩
       all_goals ((with_reducible repeat (first | refine kN ?_ _ | refine kD ?_ | refine kA ?_ _)); exact Aside0.out (by assumption))
    replace c75 := Bool.eq_false_iff.mpr c75
    subst c75
    have H1 : (laws_FnHandsMeetOfAll.j0 k t476 t479 t484 t496 t499 true a0_0 a0_1 a0_2 a1_0 a1_1 a1_2 a2_0 a2_1 a2_2 a3_0 a3_1 a3_2 a4_0 a4_1 t488 t489) = some r := by rw [if_neg (show ¬ (false = true) by decide)] at H; exact H
    clear H
    have H := H1
    clear H1
    as_aux_lemma =>
     exact absurd ((laws_FnHandsMeetOfAll.j0_no H).symm.trans hlaw.out) (by decide)
   rw [if_neg c70] at H
   have c70b0 : (t484 == t486) = false := beq_eq_false_iff_ne.mpr c70
   have c70b1 : (t484 != t486) = true := bne_iff_ne.mpr c70
   as_aux_lemma =>
    exact absurd ((laws_FnHandsMeetOfAll.j0_no H).symm.trans hlaw.out) (by decide)
  replace c68 := Bool.eq_false_iff.mpr c68
  subst c68
  have H1 : (laws_FnHandsMeetOfAll.j0 k t476 t479 t484 t496 t499 true a0_0 a0_1 a0_2 a1_0 a1_1 a1_2 a2_0 a2_1 a2_2 a3_0 a3_1 a3_2 a4_0 a4_1 t488 t489) = some r := by rw [if_neg (show ¬ (false = true) by decide)] at H; exact H
  clear H
  have H := H1
  clear H1
  as_aux_lemma =>
   exact absurd ((laws_FnHandsMeetOfAll.j0_no H).symm.trans hlaw.out) (by decide)
 clear HC14
 obtain ⟨kq, x159_13, rfl, HA, HJ13, HO_11, HO_23, BK471, BK472, BK473, BK474, BK475, BK491, BK495, HB⟩ := hcut
 cases kq with
 | zero => exact absurd HA.out (by simp [laws_FnHandsMeetOfAll.j0])
 | succ kj13 =>
  have H := HA.out
  clear HA
  simp only [laws_FnHandsMeetOfAll.j0] at H
  by_cases c109 : x159_13 = true
  ·subst c109
   have H1 : (some false) = some r := by rw [if_pos rfl] at H; exact H
   clear H
   have H := H1
   clear H1
   as_aux_lemma =>
    exact absurd ((Option.some.inj H).trans hlaw.out) (by decide)
  replace c109 := Bool.eq_false_iff.mpr c109
  subst c109
  have H1 : (if t479 = true then (if (t476.length : Int) = t484 then ((laws_kAbs.f (wrap64 (a0_2 - a1_2))).bind fun t512 => (if t484 = t512 then (if 0 < (t476.length : Int) then (if (!(((rd_T23 t476 0).f0) == t488) || (!(((rd_T23 t476 0).f1) == t489))) = true then (laws_FnHandsMeetOfAll.j1 kj13 t476 t484 t496 t499 true a0_0 a0_1 a0_2 a1_0 a1_1 a1_2 a2_0 a2_1 a2_2 a3_0 a3_1 a3_2 a4_0 a4_1) else ((laws_kRises.f kj13 t476).bind fun t514 => (laws_FnHandsMeetOfAll.j1 kj13 t476 t484 t496 t499 (!t514) a0_0 a0_1 a0_2 a1_0 a1_1 a1_2 a2_0 a2_1 a2_2 a3_0 a3_1 a3_2 a4_0 a4_1))) else (none)) else (laws_FnHandsMeetOfAll.j1 kj13 t476 t484 t496 t499 true a0_0 a0_1 a0_2 a1_0 a1_1 a1_2 a2_0 a2_1 a2_2 a3_0 a3_1 a3_2 a4_0 a4_1))) else (laws_FnHandsMeetOfAll.j1 kj13 t476 t484 t496 t499 true a0_0 a0_1 a0_2 a1_0 a1_1 a1_2 a2_0 a2_1 a2_2 a3_0 a3_1 a3_2 a4_0 a4_1)) else (laws_FnHandsMeetOfAll.j4 kj13 t484 t496 t499 a2_0 a2_1 a2_2 a3_0 a3_1 a3_2 a4_0 a4_1)) = some r := by rw [if_neg (show ¬ (false = true) by decide)] at H; exact H
  clear H
  have H := H1
  clear H1
  have HC110 := Am H
  clear H
  go_upto_if 160 with (fail)
  go_cut [] from 160 to 160 (fun wc => ∃ (kq : Nat), Aside0 (laws_FnHandsMeetOfAll.j4 kq t484 t496 t499 a2_0 a2_1 a2_2 a3_0 a3_1 a3_2 a4_0 a4_1 = some r) ∧ Aside0 (kq ≤ kj13) ∧ Aside0 (Kd.R k23 23 wc w.heap.size (fun k_ => k_ ≠ gb475 ∧ k_ ≠ gb491 ∧ k_ ≠ gb495) v497 t496) ∧ Aside0 (wc.heap[gb471]? = some (.cells #[.int .i64 a0_0, .int .i64 a0_1, .int .i64 a0_2] 25 (0, 0))) ∧ Aside0 (wc.heap[gb472]? = some (.cells #[.int .i64 a1_0, .int .i64 a1_1, .int .i64 a1_2] 25 (0, 0))) ∧ Aside0 (wc.heap[gb473]? = some (.cells #[.int .i64 a2_0, .int .i64 a2_1, .int .i64 a2_2] 25 (0, 0))) ∧ Aside0 (wc.heap[gb474]? = some (.cells #[.int .i64 a3_0, .int .i64 a3_1, .int .i64 a3_2] 25 (0, 0))) ∧ Aside0 (wc.heap[gb475]? = some (.cells #[.int .i64 a4_0, .int .i64 a4_1] 23 (0, 0))) ∧ Aside0 (wc.heap[gb491]? = some (.cells #[.int .i64 t488, .int .i64 t489] 23 (0, 0))) ∧ Aside0 (wc.heap[gb495]? = some (.cells #[.int .i64 t492, .int .i64 t493] 23 (0, 0))) ∧ Aside0 (Below w.heap.size w wc))
  case first =>
   have H := HC110.out
   clear HC110
   by_cases c111 : t479 = true
   ·subst c111
    have H1 : (if (t476.length : Int) = t484 then ((laws_kAbs.f (wrap64 (a0_2 - a1_2))).bind fun t512 => (if t484 = t512 then (if 0 < (t476.length : Int) then (if (!(((rd_T23 t476 0).f0) == t488) || (!(((rd_T23 t476 0).f1) == t489))) = true then (laws_FnHandsMeetOfAll.j1 kj13 t476 t484 t496 t499 true a0_0 a0_1 a0_2 a1_0 a1_1 a1_2 a2_0 a2_1 a2_2 a3_0 a3_1 a3_2 a4_0 a4_1) else ((laws_kRises.f kj13 t476).bind fun t514 => (laws_FnHandsMeetOfAll.j1 kj13 t476 t484 t496 t499 (!t514) a0_0 a0_1 a0_2 a1_0 a1_1 a1_2 a2_0 a2_1 a2_2 a3_0 a3_1 a3_2 a4_0 a4_1))) else (none)) else (laws_FnHandsMeetOfAll.j1 kj13 t476 t484 t496 t499 true a0_0 a0_1 a0_2 a1_0 a1_1 a1_2 a2_0 a2_1 a2_2 a3_0 a3_1 a3_2 a4_0 a4_1))) else (laws_FnHandsMeetOfAll.j1 kj13 t476 t484 t496 t499 true a0_0 a0_1 a0_2 a1_0 a1_1 a1_2 a2_0 a2_1 a2_2 a3_0 a3_1 a3_2 a4_0 a4_1)) = some r := by rw [if_pos rfl] at H; exact H
    clear H
    have H := H1
    clear H1
    have HC112 := Am H
    clear H
    go_upto_region 12 with (fail)
    go_cut [186] from 161 to 185 (fun v186 wc => ∃ (kq : Nat) (x186_111 : Bool), v186 = .bool x186_111 ∧ Aside0 (laws_FnHandsMeetOfAll.j1 kq t476 t484 t496 t499 x186_111 a0_0 a0_1 a0_2 a1_0 a1_1 a1_2 a2_0 a2_1 a2_2 a3_0 a3_1 a3_2 a4_0 a4_1 = some r) ∧ Aside0 (kq ≤ kj13) ∧ Aside0 (Kd.R k23 23 wc w.heap.size (fun k_ => some k_ ≠ (v497 : Value).ownBlock ∧ k_ ≠ gb475 ∧ k_ ≠ gb491 ∧ k_ ≠ gb495) v477 t476) ∧ Aside0 (Kd.R k23 23 wc w.heap.size (fun k_ => some k_ ≠ (v477 : Value).ownBlock ∧ k_ ≠ gb475 ∧ k_ ≠ gb491 ∧ k_ ≠ gb495) v497 t496) ∧ Aside0 (wc.heap[gb471]? = some (.cells #[.int .i64 a0_0, .int .i64 a0_1, .int .i64 a0_2] 25 (0, 0))) ∧ Aside0 (wc.heap[gb472]? = some (.cells #[.int .i64 a1_0, .int .i64 a1_1, .int .i64 a1_2] 25 (0, 0))) ∧ Aside0 (wc.heap[gb473]? = some (.cells #[.int .i64 a2_0, .int .i64 a2_1, .int .i64 a2_2] 25 (0, 0))) ∧ Aside0 (wc.heap[gb474]? = some (.cells #[.int .i64 a3_0, .int .i64 a3_1, .int .i64 a3_2] 25 (0, 0))) ∧ Aside0 (wc.heap[gb475]? = some (.cells #[.int .i64 a4_0, .int .i64 a4_1] 23 (0, 0))) ∧ Aside0 (wc.heap[gb491]? = some (.cells #[.int .i64 t488, .int .i64 t489] 23 (0, 0))) ∧ Aside0 (wc.heap[gb495]? = some (.cells #[.int .i64 t492, .int .i64 t493] 23 (0, 0))) ∧ Aside0 (Below w.heap.size w wc))
    case first =>
     have H := HC112.out
     clear HC112
     by_cases c113 : (t476.length : Int) = t484
     ·rw [if_pos c113] at H
      have c113b0 : ((t476.length : Int) == t484) = true := beq_iff_eq.mpr c113
      have c113b1 : ((t476.length : Int) != t484) = false := bne_eq_false_iff_eq.mpr c113
      clear c113
      (first | rw [c113b0] | (simp only [i64_w, i32_w]; rw [c113b0]) | skip)
      replace H := Option.bind_eq_some_iff.mp H
      obtain ⟨t512, A1140, H⟩ := H
      try dsimp only at H
      have A114 := Am A1140
      clear A1140
      by_cases c115 : t484 = t512
      ·rw [if_pos c115] at H
       have c115b0 : (t484 == t512) = true := beq_iff_eq.mpr c115
       have c115b1 : (t484 != t512) = false := bne_eq_false_iff_eq.mpr c115
       clear c115
       by_cases c116 : 0 < (t476.length : Int)
       ·rw [if_pos c116] at H
        have c116b0 : decide (0 < (t476.length : Int)) = true := decide_eq_true c116
        have c116b1 : decide (0 < t476.length) = true := decide_eq_true (by omega)
        clear c116
        by_cases c117 : (!(((rd_T23 t476 0).f0) == t488) || (!(((rd_T23 t476 0).f1) == t489))) = true
        ·rw [if_pos c117] at H
         have c117b0 : (!(((rd_T23 t476 0).f0) == t488) || (!(((rd_T23 t476 0).f1) == t489))) = true := c117
         clear c117
         as_aux_lemma =>
          exact absurd ((laws_FnHandsMeetOfAll.j1_no H).symm.trans hlaw.out) (by decide)
        rw [if_neg c117] at H
        have c117b0 : (!(((rd_T23 t476 0).f0) == t488) || (!(((rd_T23 t476 0).f1) == t489))) = false := by simpa using c117
        clear c117
        replace H := Option.bind_eq_some_iff.mp H
        obtain ⟨t514, A1180, H⟩ := H
        try dsimp only at H
        have A118 := Am A1180
        clear A1180
        as_aux_lemma =>
         have H' := Am H
         clear H
         try go_wp2
         have n0_ := Am (Kd.R_drew HO_11.out)
         have n1_ := Am (Kd.R_drew HO_23.out)
         have n2_ := Am (kD BK471.out)
         have n3_ := Am (kD BK472.out)
         have n4_ := Am (kD BK473.out)
         have n5_ := Am (kD BK474.out)
         have n6_ := Am (kD BK475.out)
         have n7_ := Am (kD BK491.out)
         have n8_ := Am (kD BK495.out)
         have n9_ := Am (bD HB.out)
         clear HO_11 HO_23 BK471 BK472 BK473 BK474 BK475 BK491 BK495 HB
         have HO_11 := n0_; have HO_23 := n1_; have BK471 := n2_; have BK472 := n3_; have BK473 := n4_; have BK474 := n5_; have BK475 := n6_; have BK491 := n7_; have BK495 := n8_; have HB := n9_
         clear n0_ n1_ n2_ n3_ n4_ n5_ n6_ n7_ n8_ n9_
         obtain ⟨Ao120, co120, eo120⟩ := Kd.R_slice HO_11.out
         (first | subst eo120 | (injection eo120 with f1_ f2_ f3_; have f4_ := f1_.symm; have f5_ := f3_.symm; clear f1_ f2_ f3_; subst f4_; subst f5_))
         have p513 : 0 ≤ (0 : Int) := (by omega)
         have q513 : 0 < (t476.length : Int) := of_decide_eq_true (by first | (with_reducible assumption) | assumption)
         obtain ⟨ad513, e513, hx513_0, hx513_1⟩ := at_T23 (Kd.R_reads' HO_11.out).2.2 0 p513 q513
         cases e513
         have qi513 : (0 < t476.length) = True := eq_true (by omega)
         (try rw [show ((0 : Int)).toNat = 0 from rfl] at hx513_0)
         (try rw [show 0 * 2 = 0 from rfl] at hx513_0)
         (try rw [Addr.add_zero'] at hx513_0)
         (try rw [show ((0 : Int)).toNat = 0 from rfl] at hx513_1)
         (try rw [show 0 * 2 = 0 from rfl] at hx513_1)
         (try rw [Addr.add_zero'] at hx513_1)
         replace p513 := eq_true p513
         replace q513 := eq_true q513
         refine start_ (n := 26) (S := fun w' => w'.cell? ⟨gb471, 0, none⟩ = some (.int .i64 a0_0) ∧ w'.cell? ⟨gb471, 1, none⟩ = some (.int .i64 a0_1) ∧ w'.cell? ⟨gb471, 2, none⟩ = some (.int .i64 a0_2) ∧ w'.cell? ⟨gb472, 0, none⟩ = some (.int .i64 a1_0) ∧ w'.cell? ⟨gb472, 1, none⟩ = some (.int .i64 a1_1) ∧ w'.cell? ⟨gb472, 2, none⟩ = some (.int .i64 a1_2) ∧ w'.cell? ⟨gb491, 0, none⟩ = some (.int .i64 t488) ∧ w'.cell? ⟨gb491, 1, none⟩ = some (.int .i64 t489) ∧ w'.cell? ad513 = some (.int .i64 ((rd_T23 t476 0).f0)) ∧ w'.cell? ⟨ad513.block, ad513.off + 1, none⟩ = some (.int .i64 ((rd_T23 t476 0).f1))) (ds := []) (pT 26 0) (by kernel_rfl) rfl rfl ⟨c30 BK471.out, c31 BK471.out, c32 BK471.out, c30 BK472.out, c31 BK472.out, c32 BK472.out, c20 BK491.out, c21 BK491.out, hx513_0, hx513_1⟩ (fun hHeld => ?_); refine with_tabW laws_FnHandsMeetOfAll.tab12 laws_FnHandsMeetOfAll.bits12 (fun HT_ HW_ => ?_)
         generalize wc.drew = w119 at HO_11 HO_23 BK471 BK472 BK473 BK474 BK475 BK491 BK495 HB hx513_0 hx513_1 hHeld ⊢
         iterate 7
          refine pI (v := ?_) (a' := ?_) rfl (any_of HT_.out (by kernel_rfl)) (fun _ _ _ h => h) (Or.inl ⟨by rfl, ?_⟩) ?_ ?_
          rotate_left
          ·intro w'
           go_simp
           with_reducible rfl
          rotate_left
          ·show Act.put _ (some _) _ = _
           simp only [Act.put, List.setIfInBounds_toArray, List.set_cons_zero, List.set_cons_succ, i64_w, i32_w]
           rfl
         refine pure_ (i := 8) (N := some 169) (v := ?_) (a' := ?_) #[true, true, true, true, true, true, true, false, true, false, false, false, false, false, false, false, false, false, false, false, false, false, false, false, false, false] rfl rfl (any_of HT_.out (by kernel_rfl)) (fun _ _ _ h => h) (Or.inl ⟨by rfl, ?_⟩) ?_ ?_
         rotate_left
         ·intro w'
          go_simp
          with_reducible rfl
         rotate_left
         ·simp only [Act.put, List.setIfInBounds_toArray, List.set_cons_zero, List.set_cons_succ, i64_w, i32_w]
          rfl
         refine take_ (i := 7) (N := some 168) (v := ?_) (a' := ?_) (pT 26 9) rfl rfl (take_ofW HT_.out HW_.out (by kernel_rfl)) (fun _ _ _ h => h) (Or.inl ⟨by rfl, ?_⟩) hHeld ?_ ?_
         rotate_left
         ·rintro w' ⟨s0, s1, s2, s3, s4, s5, s6, s7, s8, s9⟩
          go_simp
          with_reducible rfl
         rotate_left
         ·simp only [Act.put, List.setIfInBounds_toArray, List.set_cons_zero, List.set_cons_succ, i64_w, i32_w]
          rfl
         iterate 2
          first
          | refine pI (v := ?_) (a' := ?_) rfl (any_of HT_.out (by kernel_rfl)) (fun _ _ _ h => h) (Or.inl ⟨by rfl, ?_⟩) ?_ ?_
            rotate_left
            ·intro w'
             go_simp
             with_reducible rfl
            rotate_left
            ·show Act.put _ (some _) _ = _
             simp only [Act.put, List.setIfInBounds_toArray, List.set_cons_zero, List.set_cons_succ, i64_w, i32_w]
             rfl
          | refine tI (v := ?_) (a' := ?_) rfl (take_ofW HT_.out HW_.out (by kernel_rfl)) (fun _ _ _ h => h) (Or.inl ⟨by rfl, ?_⟩) hHeld ?_ ?_
            rotate_left
            ·rintro w' ⟨s0, s1, s2, s3, s4, s5, s6, s7, s8, s9⟩
             go_simp
             with_reducible rfl
            rotate_left
            ·show Act.put _ (some _) _ = _
             simp only [Act.put, List.setIfInBounds_toArray, List.set_cons_zero, List.set_cons_succ, i64_w, i32_w]
             rfl
         refine one_ (i := 11) (N := some 172) (pT 26 12) rfl rfl (one_of HT_.out (by kernel_rfl)) (by decide) (fun K hK => ?_)
         refine goes_ Try.func15 (by kernel_rfl) rfl #[.int .i64 (wrap64 (a0_2 - a1_2))] (by rfl) rfl rfl (by (try simp only [List.map_toArray, List.map_cons, List.map_nil]); first | done | rfl | (simp only [List.length_drop, List.length_take]; rfl)) ?_
         with_reducible refine (laws_kAbs.calls (wrap64 (a0_2 - a1_2)) t512 _ A114.out).mono ?_
         rintro e w' ⟨rfl, ⟨nd, rfl⟩⟩
         refine ⟨_, rfl, ?_⟩
         refine hK.out _ _ ⟨c30 BK471.out, c31 BK471.out, c32 BK471.out, c30 BK472.out, c31 BK472.out, c32 BK472.out, c20 BK491.out, c21 BK491.out, hHeld.2.2.2.2.2.2.2.2.1, hHeld.2.2.2.2.2.2.2.2.2⟩ (fun hHeld => ?_)
         clear hK K
         refine norm_ (a' := ?_) ?_ ?_
         rotate_left
         ·show Act.put _ (some 172) _ = _
          simp only [Act.put, List.setIfInBounds_toArray, List.set_cons_zero, List.set_cons_succ, i64_w, i32_w]
          rfl
         iterate 11
          first
          | refine pI (v := ?_) (a' := ?_) rfl (any_of HT_.out (by kernel_rfl)) (fun _ _ _ h => h) (Or.inl ⟨by rfl, ?_⟩) ?_ ?_
            rotate_left
            ·intro w'
             go_simp
             with_reducible rfl
            rotate_left
            ·show Act.put _ (some _) _ = _
             simp only [Act.put, List.setIfInBounds_toArray, List.set_cons_zero, List.set_cons_succ, i64_w, i32_w]
             rfl
          | refine tI (v := ?_) (a' := ?_) rfl (take_ofW HT_.out HW_.out (by kernel_rfl)) (fun _ _ _ h => h) (Or.inl ⟨by rfl, ?_⟩) hHeld ?_ ?_
            rotate_left
            ·rintro w' ⟨s0, s1, s2, s3, s4, s5, s6, s7, s8, s9⟩
             go_simp
             with_reducible rfl
            rotate_left
            ·show Act.put _ (some _) _ = _
             simp only [Act.put, List.setIfInBounds_toArray, List.set_cons_zero, List.set_cons_succ, i64_w, i32_w]
             rfl
         refine one_ (i := 23) (N := some 184) (pT 26 24) rfl rfl (one_of HT_.out (by kernel_rfl)) (by decide) (fun K hK => ?_)
         refine goes_ Try.func16 (by kernel_rfl) rfl #[.slice (some ad513) t476.length co120] (by rfl) rfl rfl (by (try simp only [List.map_toArray, List.map_cons, List.map_nil]); first | done | rfl | (simp only [List.length_drop, List.length_take]; rfl)) ?_
         with_reducible refine (laws_kRises.calls kj13 _ _ t476 t514 _ ?side1 ?side2 A118.out).mono ?_
         (case side1 => repeat (first | exact (Kd.R_reads' HO_11.out).2.2 | (with_reducible refine Kd.C_alloc ?_ _) | (with_reducible refine Kd.C_drewN ?_ _) | (with_reducible refine Kd.C_drew ?_)))
         (case side2 => exact (Kd.R_reads' HO_11.out).2.1)
         rintro e w' ⟨rfl, ⟨nd, rfl⟩⟩
         refine ⟨_, rfl, ?_⟩
         refine hK.out _ _ ⟨c30 BK471.out, c31 BK471.out, c32 BK471.out, c30 BK472.out, c31 BK472.out, c32 BK472.out, c20 BK491.out, c21 BK491.out, hHeld.2.2.2.2.2.2.2.2.1, hHeld.2.2.2.2.2.2.2.2.2⟩ (fun hHeld => ?_)
         clear hK K
         refine norm_ (a' := ?_) ?_ ?_
         rotate_left
         ·show Act.put _ (some 184) _ = _
          simp only [Act.put, List.setIfInBounds_toArray, List.set_cons_zero, List.set_cons_succ, i64_w, i32_w]
          rfl
         iterate 2
          refine pI (v := ?_) (a' := ?_) rfl (any_of HT_.out (by kernel_rfl)) (fun _ _ _ h => h) (Or.inl ⟨by rfl, ?_⟩) ?_ ?_
          rotate_left
          ·intro w'
           go_simp
           with_reducible rfl
          rotate_left
          ·show Act.put _ (some _) _ = _
           simp only [Act.put, List.setIfInBounds_toArray, List.set_cons_zero, List.set_cons_succ, i64_w, i32_w]
           rfl
         refine done_ (done_of HT_.out (by kernel_rfl)) ?_
         try go_wp2
         go_meet
         case rel =>
          refine ⟨_, (!t514), (by first | rfl | (simp; done) | (simp [*]; done)), H', ⟨by have := HJ13.out; first | omega | exact Nat.le_refl _⟩, ⟨kW HO_11⟩, ⟨kW HO_23⟩, ⟨?_⟩, ⟨?_⟩, ⟨?_⟩, ⟨?_⟩, ⟨?_⟩, ⟨?_⟩, ⟨?_⟩, ⟨by repeat (first | (with_reducible first | exact HB.out | apply bA | apply bN | apply bD | refine bX ?_ (by assumption)) | exact HB.out)⟩⟩
          all_goals ((with_reducible repeat (first | refine kN ?_ _ | refine kD ?_ | refine kA ?_ _)); exact Aside0.out (by assumption))
       rw [if_neg c116] at H
       exact absurd H (by simp)
      rw [if_neg c115] at H
      have c115b0 : (t484 == t512) = false := beq_eq_false_iff_ne.mpr c115
      have c115b1 : (t484 != t512) = true := bne_iff_ne.mpr c115
      as_aux_lemma =>
       exact absurd ((laws_FnHandsMeetOfAll.j1_no H).symm.trans hlaw.out) (by decide)
     rw [if_neg c113] at H
     have c113b0 : ((t476.length : Int) == t484) = false := beq_eq_false_iff_ne.mpr c113
     have c113b1 : ((t476.length : Int) != t484) = true := bne_iff_ne.mpr c113
     (first | rw [c113b0] | (simp only [i64_w, i32_w]; rw [c113b0]) | skip)
     as_aux_lemma =>
      exact absurd ((laws_FnHandsMeetOfAll.j1_no H).symm.trans hlaw.out) (by decide)
    clear HC112
    (try clear c109); (try clear c111)
    obtain ⟨kq, x186_111, rfl, HA, HJ111, HO_11, HO_23, BK471, BK472, BK473, BK474, BK475, BK491, BK495, HB⟩ := hcut
    cases kq with
    | zero => exact absurd HA.out (by simp [laws_FnHandsMeetOfAll.j1])
    | succ kj111 =>
     have H := HA.out
     clear HA
     simp only [laws_FnHandsMeetOfAll.j1] at H
     by_cases c121 : x186_111 = true
     ·subst c121
      have H1 : (some false) = some r := by rw [if_pos rfl] at H; exact H
      clear H
      have H := H1
      clear H1
      as_aux_lemma =>
       exact absurd ((Option.some.inj H).trans hlaw.out) (by decide)
     replace c121 := Bool.eq_false_iff.mpr c121
     subst c121
     have H1 : (laws_FnHandsMeetOfAll.l0 kj111 t476 t484 t496 t499 t476 (t476.length : Int) 0 a0_0 a0_1 a0_2 a1_0 a1_1 a1_2 a2_0 a2_1 a2_2 a3_0 a3_1 a3_2 a4_0 a4_1) = some r := by rw [if_neg (show ¬ (false = true) by decide)] at H; exact H
     clear H
     have H := H1
     clear H1
     have H' := Am H
     clear H
     obtain ⟨Ao122, co122, eo122⟩ := Kd.R_slice HO_11.out
     subst eo122
     go_wp2
     go_loopg [189] kj111 (fun kq v189 w' => ∃ (x189_3 : Int), v189 = .int .i64 x189_3 ∧ Aside0 (laws_FnHandsMeetOfAll.l0 kq t476 t484 t496 t499 t476 (t476.length : Int) x189_3 a0_0 a0_1 a0_2 a1_0 a1_1 a1_2 a2_0 a2_1 a2_2 a3_0 a3_1 a3_2 a4_0 a4_1 = some r) ∧ Aside0 (kq ≤ kj111) ∧ Aside0 (Kd.R k23 23 w' w.heap.size (fun k_ => some k_ ≠ (v497 : Value).ownBlock ∧ k_ ≠ gb475 ∧ k_ ≠ gb491 ∧ k_ ≠ gb495) (.slice Ao122 t476.length co122) t476) ∧ Aside0 (Kd.R k23 23 w' w.heap.size (fun k_ => some k_ ≠ ((.slice Ao122 t476.length co122) : Value).ownBlock ∧ some k_ ≠ ((.slice Ao122 t476.length co122) : Value).ownBlock ∧ k_ ≠ gb475 ∧ k_ ≠ gb491 ∧ k_ ≠ gb495) v497 t496) ∧ Aside0 (Kd.R k23 23 w' w.heap.size (fun k_ => some k_ ≠ (v497 : Value).ownBlock ∧ k_ ≠ gb475 ∧ k_ ≠ gb491 ∧ k_ ≠ gb495) (.slice Ao122 t476.length co122) t476) ∧ Aside0 (w'.heap[gb471]? = some (.cells #[.int .i64 a0_0, .int .i64 a0_1, .int .i64 a0_2] 25 (0, 0))) ∧ Aside0 (w'.heap[gb472]? = some (.cells #[.int .i64 a1_0, .int .i64 a1_1, .int .i64 a1_2] 25 (0, 0))) ∧ Aside0 (w'.heap[gb473]? = some (.cells #[.int .i64 a2_0, .int .i64 a2_1, .int .i64 a2_2] 25 (0, 0))) ∧ Aside0 (w'.heap[gb474]? = some (.cells #[.int .i64 a3_0, .int .i64 a3_1, .int .i64 a3_2] 25 (0, 0))) ∧ Aside0 (w'.heap[gb475]? = some (.cells #[.int .i64 a4_0, .int .i64 a4_1] 23 (0, 0))) ∧ Aside0 (w'.heap[gb491]? = some (.cells #[.int .i64 t488, .int .i64 t489] 23 (0, 0))) ∧ Aside0 (w'.heap[gb495]? = some (.cells #[.int .i64 t492, .int .i64 t493] 23 (0, 0))) ∧ Aside0 (Below w.heap.size w w'))
     case atStart => exact ⟨(0), (by first | rfl | (simp; done) | (simp [*]; done)), H', ⟨Nat.le_refl _⟩, ⟨kW HO_11⟩, ⟨by (with_reducible repeat (first | apply Kd.R_alloc | apply Kd.R_drewN | apply Kd.R_drew)); exact Kd.R_mono HO_23.out (fun _ hk => ⟨hk.1, ⟨hk.1, ⟨hk.2.1, ⟨hk.2.2.1, hk.2.2.2⟩⟩⟩⟩)⟩, ⟨kW HO_11⟩, kV BK471, kV BK472, kV BK473, kV BK474, kV BK475, kV BK491, kV BK495, ⟨by repeat (first | (with_reducible first | exact HB.out | apply bA | apply bN | apply bD | refine bX ?_ (by assumption)) | exact HB.out)⟩⟩
     case round =>
      clear H'
      (try clear c109); (try clear c111); (try clear c121)
      obtain ⟨x189_3, rfl, HA, HK3, HO_11, HO_23, HO_187, BK471, BK472, BK473, BK474, BK475, BK491, BK495, HB⟩ := hrel
      cases gk with
      | zero => exact absurd HA.out (by simp [laws_FnHandsMeetOfAll.l0])
      | succ k3 =>
       have H := HA.out
       clear HA
       simp only [laws_FnHandsMeetOfAll.l0] at H
       by_cases c123 : x189_3 < (t476.length : Int)
       ·rw [if_pos c123] at H
        have c123b0 : decide (x189_3 < (t476.length : Int)) = true := decide_eq_true c123
        clear c123
        by_cases c124 : 0 ≤ x189_3
        ·rw [if_pos c124] at H
         have c124b0 : decide (0 ≤ x189_3) = true := decide_eq_true c124
         clear c124
         by_cases c125 : x189_3 < (t476.length : Int)
         ·rw [if_pos c125] at H
          have c125b0 : decide (x189_3 < (t476.length : Int)) = true := decide_eq_true c125
          clear c125
          replace H := Option.bind_eq_some_iff.mp H
          obtain ⟨⟨t517, t518, t519⟩, A1260, H⟩ := H
          try dsimp only at H
          have A126 := Am A1260
          clear A1260
          replace H := Option.bind_eq_some_iff.mp H
          obtain ⟨⟨t521, t522, t523⟩, A1270, H⟩ := H
          try dsimp only at H
          have A127 := Am A1270
          clear A1270
          have HC128 := Am H
          clear H
          have p515 : 0 ≤ (x189_3 : Int) := of_decide_eq_true (by first | (with_reducible assumption) | assumption)
          have q515 : x189_3 < (t476.length : Int) := of_decide_eq_true (by first | (with_reducible assumption) | assumption)
          obtain ⟨ad515, e515, hx515_0, hx515_1⟩ := at_T23 (Kd.R_reads' HO_187.out).2.2 x189_3 p515 q515
          cases e515
          replace p515 := eq_true p515
          replace q515 := eq_true q515
          go_upto_region 19 with (first | ((with_reducible refine gate_dst (N := 28) rfl ?_); (try (refine gate_guard (by rfl) ?_; dsimp only)); refine bE 28 #[.int .i64 0, .int .i64 0] 23 ?_; intro gb516 hg w129 hbox hb; have n0_ := Am (Kd.R_below (Kd.R_elderB (kW HO_11) gb516 (Nat.le_of_eq hg.symm)) hb); have n1_ := Am (Kd.R_below (Kd.R_elderB (kW HO_23) gb516 (Nat.le_of_eq hg.symm)) hb); have n2_ := Am (Kd.R_below (Kd.R_elderB (kW HO_187) gb516 (Nat.le_of_eq hg.symm)) hb); have hp0 := pA BK471 hb; have hv := vK HB hb; have n10_ := Am (bT hv hb); have n11_ := Am (hbox); have GE516 := kG hg hv; have hp1 := pK BK471 hb; obtain ⟨NB471_516, NB516_471⟩ := kXY hg hp1 BK471; obtain ⟨NB472_516, NB516_472⟩ := kXY hg hp1 BK472; obtain ⟨NB473_516, NB516_473⟩ := kXY hg hp1 BK473; obtain ⟨NB474_516, NB516_474⟩ := kXY hg hp1 BK474; obtain ⟨NB475_516, NB516_475⟩ := kXY hg hp1 BK475; obtain ⟨NB491_516, NB516_491⟩ := kXY hg hp1 BK491; obtain ⟨NB495_516, NB516_495⟩ := kXY hg hp1 BK495; clear HO_11; clear HO_23; clear HO_187; clear HB; have HO_11 := n0_; have HO_23 := n1_; have HO_187 := n2_; replace BK471 := hp0 BK471; replace BK472 := hp0 BK472; replace BK473 := hp0 BK473; replace BK474 := hp0 BK474; replace BK475 := hp0 BK475; replace BK491 := hp0 BK491; replace BK495 := hp0 BK495; have HB := n10_; have BK516 := n11_; clear n0_ n1_ n2_ n10_ n11_ hp0 hp1 hv; clear hb hbox hg; have nq130 := kO NB516_471; have nq131 := kO NB516_472; have nq132 := kO NB516_473; have nq133 := kO NB516_474; have nq134 := kO NB516_475; have nq135 := kO NB516_491; have nq136 := kO NB516_495; have zq137 := c2 BK516; have nq138 := kO NB471_472; have nq139 := kO NB471_473; have nq140 := kO NB471_474; have nq141 := kO NB471_475; have nq142 := kO NB471_491; have nq143 := kO NB471_495; have zq144 := c3 BK471) | ((with_reducible refine gate_callee (f := 17) rfl ?_); refine gL (some 197) Try.func17 #[.agg #[.int .i64 a0_0, .int .i64 a0_1, .int .i64 a0_2], .agg #[.int .i64 ((rd_T23 t476 x189_3).f0), .int .i64 ((rd_T23 t476 x189_3).f1)]] rfl ?_; (with_reducible refine (impl_HandAt.calls k3 a0_0 a0_1 a0_2 ((rd_T23 t476 x189_3).f0) ((rd_T23 t476 x189_3).f1) t517 t518 t519 _ A126.out).mono ?_); rintro e w145 ⟨rfl, hb⟩; refine ⟨_, rfl, ?_⟩; have n0_ := Am (Kd.R_below (by (with_reducible repeat (first | apply Kd.R_alloc | apply Kd.R_drewN | apply Kd.R_drew)); exact (Kd.R_mono (Kd.R_far (p := ⟨gb516, 1, none⟩) (Kd.R_far (p := ⟨gb516, 0, none⟩) (Kd.R_mono HO_11.out (fun k_ hk => (⟨hk, hk.2⟩ : _ ∧ k_ ≠ gb516))) (fun _ hk => hk.2) (.int .i64 ((rd_T23 t476 x189_3).f0))) (fun _ hk => hk.2) (.int .i64 ((rd_T23 t476 x189_3).f1))) (fun _ h_ => h_.1))) hb); have n1_ := Am (Kd.R_below (by (with_reducible repeat (first | apply Kd.R_alloc | apply Kd.R_drewN | apply Kd.R_drew)); exact (Kd.R_mono (Kd.R_far (p := ⟨gb516, 1, none⟩) (Kd.R_far (p := ⟨gb516, 0, none⟩) (Kd.R_mono HO_23.out (fun k_ hk => (⟨hk, hk.2⟩ : _ ∧ k_ ≠ gb516))) (fun _ hk => hk.2) (.int .i64 ((rd_T23 t476 x189_3).f0))) (fun _ hk => hk.2) (.int .i64 ((rd_T23 t476 x189_3).f1))) (fun _ h_ => h_.1))) hb); have n2_ := Am (Kd.R_below (by (with_reducible repeat (first | apply Kd.R_alloc | apply Kd.R_drewN | apply Kd.R_drew)); exact (Kd.R_mono (Kd.R_far (p := ⟨gb516, 1, none⟩) (Kd.R_far (p := ⟨gb516, 0, none⟩) (Kd.R_mono HO_187.out (fun k_ hk => (⟨hk, hk.2⟩ : _ ∧ k_ ≠ gb516))) (fun _ hk => hk.2) (.int .i64 ((rd_T23 t476 x189_3).f0))) (fun _ hk => hk.2) (.int .i64 ((rd_T23 t476 x189_3).f1))) (fun _ h_ => h_.1))) hb); have hp0 := pB gb516 BK471 hb; have n10_ := Am (kB (g := gb516) (o := .cells #[.int .i64 ((rd_T23 t476 x189_3).f0), .int .i64 ((rd_T23 t476 x189_3).f1)] 23 (0, 0)) (by (with_reducible repeat (first | refine kN ?_ _ | refine kD ?_ | refine kA ?_ _)); refine kP (cs := #[.int .i64 ((rd_T23 t476 x189_3).f0), .int .i64 0]) ?_ 1 _ rfl; (with_reducible repeat (first | refine kN ?_ _ | refine kD ?_ | refine kA ?_ _)); refine kP (cs := #[.int .i64 0, .int .i64 0]) ?_ 0 _ rfl; (with_reducible repeat (first | refine kN ?_ _ | refine kD ?_ | refine kA ?_ _)); exact BK516.out) hb); have hv := vK HB hb; have n11_ := Am (bT hv hb); clear HO_11; clear HO_23; clear HO_187; clear BK516; clear HB; have HO_11 := n0_; have HO_23 := n1_; have HO_187 := n2_; replace BK471 := hp0 NB471_516 BK471; replace BK472 := hp0 NB472_516 BK472; replace BK473 := hp0 NB473_516 BK473; replace BK474 := hp0 NB474_516 BK474; replace BK475 := hp0 NB475_516 BK475; replace BK491 := hp0 NB491_516 BK491; replace BK495 := hp0 NB495_516 BK495; have BK516 := n10_; have HB := n11_; clear n0_ n1_ n2_ n10_ n11_ hp0 hv; (try clear hb); (try clear hk)) | ((with_reducible refine gate_dst (N := 29) rfl ?_); (try (refine gate_guard (by rfl) ?_; dsimp only)); refine bE 29 #[.int .i64 0, .int .i64 0] 23 ?_; intro gb520 hg w146 hbox hb; have n0_ := Am (Kd.R_below (Kd.R_elderB (kW HO_11) gb520 (Nat.le_of_eq hg.symm)) hb); have n1_ := Am (Kd.R_below (Kd.R_elderB (kW HO_23) gb520 (Nat.le_of_eq hg.symm)) hb); have n2_ := Am (Kd.R_below (Kd.R_elderB (kW HO_187) gb520 (Nat.le_of_eq hg.symm)) hb); have hp0 := pA BK471 hb; have hv := vK HB hb; have n11_ := Am (bT hv hb); have n12_ := Am (hbox); have GE520 := kG hg hv; have hp1 := pK BK471 hb; obtain ⟨NB471_520, NB520_471⟩ := kXY hg hp1 BK471; obtain ⟨NB472_520, NB520_472⟩ := kXY hg hp1 BK472; obtain ⟨NB473_520, NB520_473⟩ := kXY hg hp1 BK473; obtain ⟨NB474_520, NB520_474⟩ := kXY hg hp1 BK474; obtain ⟨NB475_520, NB520_475⟩ := kXY hg hp1 BK475; obtain ⟨NB491_520, NB520_491⟩ := kXY hg hp1 BK491; obtain ⟨NB495_520, NB520_495⟩ := kXY hg hp1 BK495; obtain ⟨NB516_520, NB520_516⟩ := kXY hg hp1 BK516; clear HO_11; clear HO_23; clear HO_187; clear HB; have HO_11 := n0_; have HO_23 := n1_; have HO_187 := n2_; replace BK471 := hp0 BK471; replace BK472 := hp0 BK472; replace BK473 := hp0 BK473; replace BK474 := hp0 BK474; replace BK475 := hp0 BK475; replace BK491 := hp0 BK491; replace BK495 := hp0 BK495; replace BK516 := hp0 BK516; have HB := n11_; have BK520 := n12_; clear n0_ n1_ n2_ n11_ n12_ hp0 hp1 hv; clear hb hbox hg; have nq147 := kO NB520_471; have nq148 := kO NB520_472; have nq149 := kO NB520_473; have nq150 := kO NB520_474; have nq151 := kO NB520_475; have nq152 := kO NB520_491; have nq153 := kO NB520_495; have nq154 := kO NB520_516; have zq155 := c2 BK520; have nq156 := kO NB472_473; have nq157 := kO NB472_474; have nq158 := kO NB472_475; have nq159 := kO NB472_491; have nq160 := kO NB472_495; have zq161 := c3 BK472; have zq162 := c2 BK516) | ((with_reducible refine gate_callee (f := 17) rfl ?_); refine gL (some 203) Try.func17 #[.agg #[.int .i64 a1_0, .int .i64 a1_1, .int .i64 a1_2], .agg #[.int .i64 ((rd_T23 t476 x189_3).f0), .int .i64 ((rd_T23 t476 x189_3).f1)]] rfl ?_; (with_reducible refine (impl_HandAt.calls k3 a1_0 a1_1 a1_2 ((rd_T23 t476 x189_3).f0) ((rd_T23 t476 x189_3).f1) t521 t522 t523 _ A127.out).mono ?_); rintro e w163 ⟨rfl, hb⟩; refine ⟨_, rfl, ?_⟩; have n0_ := Am (Kd.R_below (by (with_reducible repeat (first | apply Kd.R_alloc | apply Kd.R_drewN | apply Kd.R_drew)); exact (Kd.R_mono (Kd.R_far (p := ⟨gb520, 1, none⟩) (Kd.R_far (p := ⟨gb520, 0, none⟩) (Kd.R_mono HO_11.out (fun k_ hk => (⟨hk, hk.2⟩ : _ ∧ k_ ≠ gb520))) (fun _ hk => hk.2) (.int .i64 t517)) (fun _ hk => hk.2) (.int .i64 t518)) (fun _ h_ => h_.1))) hb); have n1_ := Am (Kd.R_below (by (with_reducible repeat (first | apply Kd.R_alloc | apply Kd.R_drewN | apply Kd.R_drew)); exact (Kd.R_mono (Kd.R_far (p := ⟨gb520, 1, none⟩) (Kd.R_far (p := ⟨gb520, 0, none⟩) (Kd.R_mono HO_23.out (fun k_ hk => (⟨hk, hk.2⟩ : _ ∧ k_ ≠ gb520))) (fun _ hk => hk.2) (.int .i64 t517)) (fun _ hk => hk.2) (.int .i64 t518)) (fun _ h_ => h_.1))) hb); have n2_ := Am (Kd.R_below (by (with_reducible repeat (first | apply Kd.R_alloc | apply Kd.R_drewN | apply Kd.R_drew)); exact (Kd.R_mono (Kd.R_far (p := ⟨gb520, 1, none⟩) (Kd.R_far (p := ⟨gb520, 0, none⟩) (Kd.R_mono HO_187.out (fun k_ hk => (⟨hk, hk.2⟩ : _ ∧ k_ ≠ gb520))) (fun _ hk => hk.2) (.int .i64 t517)) (fun _ hk => hk.2) (.int .i64 t518)) (fun _ h_ => h_.1))) hb); have hp0 := pB gb520 BK471 hb; have n11_ := Am (kB (g := gb520) (o := .cells #[.int .i64 t517, .int .i64 t518] 23 (0, 0)) (by (with_reducible repeat (first | refine kN ?_ _ | refine kD ?_ | refine kA ?_ _)); refine kP (cs := #[.int .i64 t517, .int .i64 0]) ?_ 1 _ rfl; (with_reducible repeat (first | refine kN ?_ _ | refine kD ?_ | refine kA ?_ _)); refine kP (cs := #[.int .i64 0, .int .i64 0]) ?_ 0 _ rfl; (with_reducible repeat (first | refine kN ?_ _ | refine kD ?_ | refine kA ?_ _)); exact BK520.out) hb); have hv := vK HB hb; have n12_ := Am (bT hv hb); clear HO_11; clear HO_23; clear HO_187; clear BK520; clear HB; have HO_11 := n0_; have HO_23 := n1_; have HO_187 := n2_; replace BK471 := hp0 NB471_520 BK471; replace BK472 := hp0 NB472_520 BK472; replace BK473 := hp0 NB473_520 BK473; replace BK474 := hp0 NB474_520 BK474; replace BK475 := hp0 NB475_520 BK475; replace BK491 := hp0 NB491_520 BK491; replace BK495 := hp0 NB495_520 BK495; replace BK516 := hp0 NB516_520 BK516; have BK520 := n11_; have HB := n12_; clear n0_ n1_ n2_ n11_ n12_ hp0 hv; (try clear hb); (try clear hk)) | ((with_reducible refine gate_dst (N := 31) rfl ?_); (try (refine gate_guard (by rfl) ?_; dsimp only)); refine bE 31 #[.int .i64 0, .int .i64 0] 23 ?_; intro gb524 hg w164 hbox hb; have n0_ := Am (Kd.R_below (Kd.R_elderB (kW HO_11) gb524 (Nat.le_of_eq hg.symm)) hb); have n1_ := Am (Kd.R_below (Kd.R_elderB (kW HO_23) gb524 (Nat.le_of_eq hg.symm)) hb); have n2_ := Am (Kd.R_below (Kd.R_elderB (kW HO_187) gb524 (Nat.le_of_eq hg.symm)) hb); have hp0 := pA BK471 hb; have hv := vK HB hb; have n12_ := Am (bT hv hb); have n13_ := Am (hbox); have GE524 := kG hg hv; have hp1 := pK BK471 hb; obtain ⟨NB471_524, NB524_471⟩ := kXY hg hp1 BK471; obtain ⟨NB472_524, NB524_472⟩ := kXY hg hp1 BK472; obtain ⟨NB473_524, NB524_473⟩ := kXY hg hp1 BK473; obtain ⟨NB474_524, NB524_474⟩ := kXY hg hp1 BK474; obtain ⟨NB475_524, NB524_475⟩ := kXY hg hp1 BK475; obtain ⟨NB491_524, NB524_491⟩ := kXY hg hp1 BK491; obtain ⟨NB495_524, NB524_495⟩ := kXY hg hp1 BK495; obtain ⟨NB516_524, NB524_516⟩ := kXY hg hp1 BK516; obtain ⟨NB520_524, NB524_520⟩ := kXY hg hp1 BK520; clear HO_11; clear HO_23; clear HO_187; clear HB; have HO_11 := n0_; have HO_23 := n1_; have HO_187 := n2_; replace BK471 := hp0 BK471; replace BK472 := hp0 BK472; replace BK473 := hp0 BK473; replace BK474 := hp0 BK474; replace BK475 := hp0 BK475; replace BK491 := hp0 BK491; replace BK495 := hp0 BK495; replace BK516 := hp0 BK516; replace BK520 := hp0 BK520; have HB := n12_; have BK524 := n13_; clear n0_ n1_ n2_ n12_ n13_ hp0 hp1 hv; clear hb hbox hg; have nq165 := kO NB524_471; have nq166 := kO NB524_472; have nq167 := kO NB524_473; have nq168 := kO NB524_474; have nq169 := kO NB524_475; have nq170 := kO NB524_491; have nq171 := kO NB524_495; have nq172 := kO NB524_516; have nq173 := kO NB524_520; have zq174 := c2 BK524))
          (try simp only [Act.put, List.setIfInBounds_toArray, List.set_cons_zero, List.set_cons_succ])
          go_cut [225] (fun v225 wc => ∃ (kq : Nat) (x225_127 : Bool), v225 = .bool x225_127 ∧ Aside0 (laws_FnHandsMeetOfAll.j3 kq t476 t484 t496 t499 x189_3 t476 (t476.length : Int) x189_3 x225_127 a0_0 a0_1 a0_2 a1_0 a1_1 a1_2 a2_0 a2_1 a2_2 a3_0 a3_1 a3_2 a4_0 a4_1 ((rd_T23 t476 x189_3).f0) ((rd_T23 t476 x189_3).f1) = some r) ∧ Aside0 (kq ≤ k3) ∧ Aside0 (Kd.R k23 23 wc w.heap.size (fun k_ => some k_ ≠ (v497 : Value).ownBlock ∧ k_ ≠ gb475 ∧ k_ ≠ gb491 ∧ k_ ≠ gb495 ∧ k_ ≠ gb516 ∧ k_ ≠ gb520 ∧ k_ ≠ gb524) (.slice (some ad515) t476.length co122) t476) ∧ Aside0 (Kd.R k23 23 wc w.heap.size (fun k_ => some k_ ≠ ((.slice (some ad515) t476.length co122) : Value).ownBlock ∧ some k_ ≠ ((.slice (some ad515) t476.length co122) : Value).ownBlock ∧ k_ ≠ gb475 ∧ k_ ≠ gb491 ∧ k_ ≠ gb495 ∧ k_ ≠ gb516 ∧ k_ ≠ gb520 ∧ k_ ≠ gb524) v497 t496) ∧ Aside0 (Kd.R k23 23 wc w.heap.size (fun k_ => some k_ ≠ (v497 : Value).ownBlock ∧ k_ ≠ gb475 ∧ k_ ≠ gb491 ∧ k_ ≠ gb495 ∧ k_ ≠ gb516 ∧ k_ ≠ gb520 ∧ k_ ≠ gb524) (.slice (some ad515) t476.length co122) t476) ∧ Aside0 (wc.heap[gb471]? = some (.cells #[.int .i64 a0_0, .int .i64 a0_1, .int .i64 a0_2] 25 (0, 0))) ∧ Aside0 (wc.heap[gb472]? = some (.cells #[.int .i64 a1_0, .int .i64 a1_1, .int .i64 a1_2] 25 (0, 0))) ∧ Aside0 (wc.heap[gb473]? = some (.cells #[.int .i64 a2_0, .int .i64 a2_1, .int .i64 a2_2] 25 (0, 0))) ∧ Aside0 (wc.heap[gb474]? = some (.cells #[.int .i64 a3_0, .int .i64 a3_1, .int .i64 a3_2] 25 (0, 0))) ∧ Aside0 (wc.heap[gb475]? = some (.cells #[.int .i64 a4_0, .int .i64 a4_1] 23 (0, 0))) ∧ Aside0 (wc.heap[gb491]? = some (.cells #[.int .i64 t488, .int .i64 t489] 23 (0, 0))) ∧ Aside0 (wc.heap[gb495]? = some (.cells #[.int .i64 t492, .int .i64 t493] 23 (0, 0))) ∧ Aside0 (wc.heap[gb516]? = some (.cells #[.int .i64 ((rd_T23 t476 x189_3).f0), .int .i64 ((rd_T23 t476 x189_3).f1)] 23 (0, 0))) ∧ Aside0 (wc.heap[gb520]? = some (.cells #[.int .i64 t517, .int .i64 t518] 23 (0, 0))) ∧ Aside0 (wc.heap[gb524]? = some (.cells #[.int .i64 t521, .int .i64 t522] 23 (0, 0))) ∧ Aside0 (Below w.heap.size w wc))
          case first =>
           have H := HC128.out
           clear HC128
           by_cases c175 : (t519 != t523) = true
           ·rw [if_pos c175] at H
            have c175b0 : (t519 != t523) = true := c175
            (try (have c175b1 : decide (t519 = t523) = false := by simpa using c175))
            (try (have c175b2 : (t519 == t523) = false := by simpa using c175))
            (try (have c175b3 : ¬ (t519 = t523) := by simpa using c175))
            clear c175
            (first | rw [c175b0] | (simp only [i64_w, i32_w]; rw [c175b0]) | skip)
            as_aux_lemma =>
             exact absurd ((laws_FnHandsMeetOfAll.j3_no H).symm.trans hlaw.out) (by decide)
           rw [if_neg c175] at H
           have c175b0 : (t519 != t523) = false := by simpa using c175
           (try (have c175b1 : decide (t519 = t523) = true := by simpa using c175))
           (try (have c175b2 : (t519 == t523) = true := by simpa using c175))
           clear c175
           (first | rw [c175b0] | (simp only [i64_w, i32_w]; rw [c175b0]) | skip)
           by_cases c176 : t519 = true
           ·subst c176
            have H1 : (if (!(t517 == t521) || (!(t518 == t522))) = true then (laws_FnHandsMeetOfAll.j3 k3 t476 t484 t496 t499 x189_3 t476 (t476.length : Int) x189_3 true a0_0 a0_1 a0_2 a1_0 a1_1 a1_2 a2_0 a2_1 a2_2 a3_0 a3_1 a3_2 a4_0 a4_1 ((rd_T23 t476 x189_3).f0) ((rd_T23 t476 x189_3).f1)) else (if t499 = true then ((laws_kIn.f k3 t496 t517 t518).bind fun t525 => (laws_FnHandsMeetOfAll.j3 k3 t476 t484 t496 t499 x189_3 t476 (t476.length : Int) x189_3 (!t525) a0_0 a0_1 a0_2 a1_0 a1_1 a1_2 a2_0 a2_1 a2_2 a3_0 a3_1 a3_2 a4_0 a4_1 ((rd_T23 t476 x189_3).f0) ((rd_T23 t476 x189_3).f1))) else (laws_FnHandsMeetOfAll.j3 k3 t476 t484 t496 t499 x189_3 t476 (t476.length : Int) x189_3 false a0_0 a0_1 a0_2 a1_0 a1_1 a1_2 a2_0 a2_1 a2_2 a3_0 a3_1 a3_2 a4_0 a4_1 ((rd_T23 t476 x189_3).f0) ((rd_T23 t476 x189_3).f1)))) = some r := by rw [if_pos rfl] at H; exact H
            clear H
            have H := H1
            clear H1
            by_cases c177 : (!(t517 == t521) || (!(t518 == t522))) = true
            ·rw [if_pos c177] at H
             have c177b0 : (!(t517 == t521) || (!(t518 == t522))) = true := c177
             clear c177
             as_aux_lemma =>
              exact absurd ((laws_FnHandsMeetOfAll.j3_no H).symm.trans hlaw.out) (by decide)
            rw [if_neg c177] at H
            have c177b0 : (!(t517 == t521) || (!(t518 == t522))) = false := by simpa using c177
            clear c177
            by_cases c178 : t499 = true
            ·subst c178
             have H1 : ((laws_kIn.f k3 t496 t517 t518).bind fun t525 => (laws_FnHandsMeetOfAll.j3 k3 t476 t484 t496 true x189_3 t476 (t476.length : Int) x189_3 (!t525) a0_0 a0_1 a0_2 a1_0 a1_1 a1_2 a2_0 a2_1 a2_2 a3_0 a3_1 a3_2 a4_0 a4_1 ((rd_T23 t476 x189_3).f0) ((rd_T23 t476 x189_3).f1))) = some r := by rw [if_pos rfl] at H; exact H
             clear H
             have H := H1
             clear H1
             replace H := Option.bind_eq_some_iff.mp H
             obtain ⟨t525, A1790, H⟩ := H
             try dsimp only at H
             have A179 := Am A1790
             clear A1790
             as_aux_lemma =>
              have H' := Am H
              clear H
              have nq180 := kO NB520_471; have nq181 := kO NB520_472; have nq182 := kO NB520_473; have nq183 := kO NB520_474; have nq184 := kO NB520_475; have nq185 := kO NB520_491; have nq186 := kO NB520_495; have nq187 := kO NB520_516; have nq188 := kO NB520_524
              have zq189 := c2 BK520
              have nq190 := kO NB524_471; have nq191 := kO NB524_472; have nq192 := kO NB524_473; have nq193 := kO NB524_474; have nq194 := kO NB524_475; have nq195 := kO NB524_491; have nq196 := kO NB524_495; have nq197 := kO NB524_516
              have zq198 := c2 BK524
              obtain ⟨Ao199, co199, eo199⟩ := Kd.R_slice HO_23.out
              subst eo199
              go_wp2_with (first | (go_at_call 18; (with_reducible refine (laws_kIn.calls k3 _ _ t496 t517 t518 t525 _ ?side1 ?side2 A179.out).mono ?_); (case side1 => refine (Kd.R_reads' (e := 23) (base := w.heap.size) (ok := fun k_ => ((((some k_ ≠ (.slice (some ad515) t476.length co122 : Value).ownBlock ∧ (some k_ ≠ (.slice (some ad515) t476.length co122 : Value).ownBlock ∧ (k_ ≠ gb475 ∧ (k_ ≠ gb491 ∧ k_ ≠ gb495)))) ∧ k_ ≠ gb516) ∧ k_ ≠ gb520) ∧ k_ ≠ gb524)) (n := t496.length) (c := co199) ?_).2.2; exact (by (with_reducible repeat (first | apply Kd.R_alloc | apply Kd.R_drewN | apply Kd.R_drew)); exact (Kd.R_mono (Kd.R_far (p := ⟨gb524, 1, none⟩) (Kd.R_far (p := ⟨gb524, 0, none⟩) (Kd.R_mono HO_23.out (fun k_ hk => (⟨hk, hk.2⟩ : _ ∧ k_ ≠ gb524))) (fun _ hk => hk.2) (.int .i64 t521)) (fun _ hk => hk.2) (.int .i64 t522)) (fun _ h_ => h_.1)))); (case side2 => exact (Kd.R_reads' HO_23.out).2.1); rintro e w200 ⟨rfl, hb⟩; have n0_ := Am (Kd.R_below (by (with_reducible repeat (first | apply Kd.R_alloc | apply Kd.R_drewN | apply Kd.R_drew)); exact (Kd.R_mono (Kd.R_far (p := ⟨gb524, 1, none⟩) (Kd.R_far (p := ⟨gb524, 0, none⟩) (Kd.R_mono HO_11.out (fun k_ hk => (⟨hk, hk.2⟩ : _ ∧ k_ ≠ gb524))) (fun _ hk => hk.2) (.int .i64 t521)) (fun _ hk => hk.2) (.int .i64 t522)) (fun _ h_ => h_.1))) hb); have n1_ := Am (Kd.R_below (by (with_reducible repeat (first | apply Kd.R_alloc | apply Kd.R_drewN | apply Kd.R_drew)); exact (Kd.R_mono (Kd.R_far (p := ⟨gb524, 1, none⟩) (Kd.R_far (p := ⟨gb524, 0, none⟩) (Kd.R_mono HO_23.out (fun k_ hk => (⟨hk, hk.2⟩ : _ ∧ k_ ≠ gb524))) (fun _ hk => hk.2) (.int .i64 t521)) (fun _ hk => hk.2) (.int .i64 t522)) (fun _ h_ => h_.1))) hb); have n2_ := Am (Kd.R_below (by (with_reducible repeat (first | apply Kd.R_alloc | apply Kd.R_drewN | apply Kd.R_drew)); exact (Kd.R_mono (Kd.R_far (p := ⟨gb524, 1, none⟩) (Kd.R_far (p := ⟨gb524, 0, none⟩) (Kd.R_mono HO_187.out (fun k_ hk => (⟨hk, hk.2⟩ : _ ∧ k_ ≠ gb524))) (fun _ hk => hk.2) (.int .i64 t521)) (fun _ hk => hk.2) (.int .i64 t522)) (fun _ h_ => h_.1))) hb); have hp0 := pB gb524 BK471 hb; have n12_ := Am (kB (g := gb524) (o := .cells #[.int .i64 t521, .int .i64 t522] 23 (0, 0)) (by (with_reducible repeat (first | refine kN ?_ _ | refine kD ?_ | refine kA ?_ _)); refine kP (cs := #[.int .i64 t521, .int .i64 0]) ?_ 1 _ rfl; (with_reducible repeat (first | refine kN ?_ _ | refine kD ?_ | refine kA ?_ _)); refine kP (cs := #[.int .i64 0, .int .i64 0]) ?_ 0 _ rfl; (with_reducible repeat (first | refine kN ?_ _ | refine kD ?_ | refine kA ?_ _)); exact BK524.out) hb); have hv := vK HB hb; have n13_ := Am (bT hv hb); clear HO_11; clear HO_23; clear HO_187; clear BK524; clear HB; have HO_11 := n0_; have HO_23 := n1_; have HO_187 := n2_; replace BK471 := hp0 NB471_524 BK471; replace BK472 := hp0 NB472_524 BK472; replace BK473 := hp0 NB473_524 BK473; replace BK474 := hp0 NB474_524 BK474; replace BK475 := hp0 NB475_524 BK475; replace BK491 := hp0 NB491_524 BK491; replace BK495 := hp0 NB495_524 BK495; replace BK516 := hp0 NB516_524 BK516; replace BK520 := hp0 NB520_524 BK520; have BK524 := n12_; have HB := n13_; clear n0_ n1_ n2_ n12_ n13_ hp0 hv; (try clear hb); (try clear hk)))
              go_meet
              case rel =>
               refine ⟨_, (!t525), (by first | rfl | (simp; done) | (simp [*]; done)), H', ⟨by have := HJ13.out; have := HJ111.out; have := HK3.out; first | omega | exact Nat.le_refl _⟩, ⟨by (with_reducible repeat (first | apply Kd.R_alloc | apply Kd.R_drewN | apply Kd.R_drew)); exact Kd.R_mono HO_11.out (fun _ hk => ⟨hk.1.1.1.1, ⟨hk.1.1.1.2.1, ⟨hk.1.1.1.2.2.1, ⟨hk.1.1.1.2.2.2, ⟨hk.1.1.2, ⟨hk.1.2, hk.2⟩⟩⟩⟩⟩⟩)⟩, ⟨by (with_reducible repeat (first | apply Kd.R_alloc | apply Kd.R_drewN | apply Kd.R_drew)); exact Kd.R_mono HO_23.out (fun _ hk => ⟨hk.1.1.1.1, ⟨hk.1.1.1.2.1, ⟨hk.1.1.1.2.2.1, ⟨hk.1.1.1.2.2.2.1, ⟨hk.1.1.1.2.2.2.2, ⟨hk.1.1.2, ⟨hk.1.2, hk.2⟩⟩⟩⟩⟩⟩⟩)⟩, ⟨by (with_reducible repeat (first | apply Kd.R_alloc | apply Kd.R_drewN | apply Kd.R_drew)); exact Kd.R_mono HO_187.out (fun _ hk => ⟨hk.1.1.1.1, ⟨hk.1.1.1.2.1, ⟨hk.1.1.1.2.2.1, ⟨hk.1.1.1.2.2.2, ⟨hk.1.1.2, ⟨hk.1.2, hk.2⟩⟩⟩⟩⟩⟩)⟩, ⟨?_⟩, ⟨?_⟩, ⟨?_⟩, ⟨?_⟩, ⟨?_⟩, ⟨?_⟩, ⟨?_⟩, ⟨?_⟩, ⟨?_⟩, ⟨?_⟩, ⟨by repeat (first | (with_reducible first | exact HB.out | apply bA | apply bN | apply bD | refine bX ?_ (by assumption)) | exact HB.out)⟩⟩
               all_goals ((with_reducible repeat (first | refine kN ?_ _ | refine kD ?_ | refine kA ?_ _)); exact Aside0.out (by assumption))
            replace c178 := Bool.eq_false_iff.mpr c178
            subst c178
            have H1 : (laws_FnHandsMeetOfAll.j3 k3 t476 t484 t496 false x189_3 t476 (t476.length : Int) x189_3 false a0_0 a0_1 a0_2 a1_0 a1_1 a1_2 a2_0 a2_1 a2_2 a3_0 a3_1 a3_2 a4_0 a4_1 ((rd_T23 t476 x189_3).f0) ((rd_T23 t476 x189_3).f1)) = some r := by rw [if_neg (show ¬ (false = true) by decide)] at H; exact H
            clear H
            have H := H1
            clear H1
            as_aux_lemma =>
             have H' := Am H
             clear H
             have nq201 := kO NB520_471; have nq202 := kO NB520_472; have nq203 := kO NB520_473; have nq204 := kO NB520_474; have nq205 := kO NB520_475; have nq206 := kO NB520_491; have nq207 := kO NB520_495; have nq208 := kO NB520_516; have nq209 := kO NB520_524
             have zq210 := c2 BK520
             have nq211 := kO NB524_471; have nq212 := kO NB524_472; have nq213 := kO NB524_473; have nq214 := kO NB524_474; have nq215 := kO NB524_475; have nq216 := kO NB524_491; have nq217 := kO NB524_495; have nq218 := kO NB524_516
             have zq219 := c2 BK524
             go_wp2
             go_meet
             case rel => exact ⟨_, (false), (by first | rfl | (simp; done) | (simp [*]; done)), H', ⟨by have := HJ13.out; have := HJ111.out; have := HK3.out; first | omega | exact Nat.le_refl _⟩, ⟨by (with_reducible repeat (first | apply Kd.R_alloc | apply Kd.R_drewN | apply Kd.R_drew)); exact Kd.R_mono (Kd.R_far (p := ⟨gb524, 1, none⟩) (Kd.R_far (p := ⟨gb524, 0, none⟩) (Kd.R_mono HO_11.out (fun k_ hk => (⟨hk, hk.2⟩ : _ ∧ k_ ≠ gb524))) (fun _ hk => hk.2) (.int .i64 t521)) (fun _ hk => hk.2) (.int .i64 t522)) (fun _ hk => ⟨hk.1.1.1.1.1, ⟨hk.1.1.1.1.2.1, ⟨hk.1.1.1.1.2.2.1, ⟨hk.1.1.1.1.2.2.2, ⟨hk.1.1.1.2, ⟨hk.1.1.2, hk.1.2⟩⟩⟩⟩⟩⟩)⟩, ⟨by (with_reducible repeat (first | apply Kd.R_alloc | apply Kd.R_drewN | apply Kd.R_drew)); exact Kd.R_mono (Kd.R_far (p := ⟨gb524, 1, none⟩) (Kd.R_far (p := ⟨gb524, 0, none⟩) (Kd.R_mono HO_23.out (fun k_ hk => (⟨hk, hk.2⟩ : _ ∧ k_ ≠ gb524))) (fun _ hk => hk.2) (.int .i64 t521)) (fun _ hk => hk.2) (.int .i64 t522)) (fun _ hk => ⟨hk.1.1.1.1.1, ⟨hk.1.1.1.1.2.1, ⟨hk.1.1.1.1.2.2.1, ⟨hk.1.1.1.1.2.2.2.1, ⟨hk.1.1.1.1.2.2.2.2, ⟨hk.1.1.1.2, ⟨hk.1.1.2, hk.1.2⟩⟩⟩⟩⟩⟩⟩)⟩, ⟨by (with_reducible repeat (first | apply Kd.R_alloc | apply Kd.R_drewN | apply Kd.R_drew)); exact Kd.R_mono (Kd.R_far (p := ⟨gb524, 1, none⟩) (Kd.R_far (p := ⟨gb524, 0, none⟩) (Kd.R_mono HO_187.out (fun k_ hk => (⟨hk, hk.2⟩ : _ ∧ k_ ≠ gb524))) (fun _ hk => hk.2) (.int .i64 t521)) (fun _ hk => hk.2) (.int .i64 t522)) (fun _ hk => ⟨hk.1.1.1.1.1, ⟨hk.1.1.1.1.2.1, ⟨hk.1.1.1.1.2.2.1, ⟨hk.1.1.1.1.2.2.2, ⟨hk.1.1.1.2, ⟨hk.1.1.2, hk.1.2⟩⟩⟩⟩⟩⟩)⟩, ⟨by (with_reducible repeat (first | refine kN ?_ _ | refine kD ?_ | refine kA ?_ _)); refine kR ?_ NB471_524.out _; (with_reducible repeat (first | refine kN ?_ _ | refine kD ?_ | refine kA ?_ _)); refine kR ?_ NB471_524.out _; (with_reducible repeat (first | refine kN ?_ _ | refine kD ?_ | refine kA ?_ _)); exact BK471.out⟩, ⟨by (with_reducible repeat (first | refine kN ?_ _ | refine kD ?_ | refine kA ?_ _)); refine kR ?_ NB472_524.out _; (with_reducible repeat (first | refine kN ?_ _ | refine kD ?_ | refine kA ?_ _)); refine kR ?_ NB472_524.out _; (with_reducible repeat (first | refine kN ?_ _ | refine kD ?_ | refine kA ?_ _)); exact BK472.out⟩, ⟨by (with_reducible repeat (first | refine kN ?_ _ | refine kD ?_ | refine kA ?_ _)); refine kR ?_ NB473_524.out _; (with_reducible repeat (first | refine kN ?_ _ | refine kD ?_ | refine kA ?_ _)); refine kR ?_ NB473_524.out _; (with_reducible repeat (first | refine kN ?_ _ | refine kD ?_ | refine kA ?_ _)); exact BK473.out⟩, ⟨by (with_reducible repeat (first | refine kN ?_ _ | refine kD ?_ | refine kA ?_ _)); refine kR ?_ NB474_524.out _; (with_reducible repeat (first | refine kN ?_ _ | refine kD ?_ | refine kA ?_ _)); refine kR ?_ NB474_524.out _; (with_reducible repeat (first | refine kN ?_ _ | refine kD ?_ | refine kA ?_ _)); exact BK474.out⟩, ⟨by (with_reducible repeat (first | refine kN ?_ _ | refine kD ?_ | refine kA ?_ _)); refine kR ?_ NB475_524.out _; (with_reducible repeat (first | refine kN ?_ _ | refine kD ?_ | refine kA ?_ _)); refine kR ?_ NB475_524.out _; (with_reducible repeat (first | refine kN ?_ _ | refine kD ?_ | refine kA ?_ _)); exact BK475.out⟩, ⟨by (with_reducible repeat (first | refine kN ?_ _ | refine kD ?_ | refine kA ?_ _)); refine kR ?_ NB491_524.out _; (with_reducible repeat (first | refine kN ?_ _ | refine kD ?_ | refine kA ?_ _)); refine kR ?_ NB491_524.out _; (with_reducible repeat (first | refine kN ?_ _ | refine kD ?_ | refine kA ?_ _)); exact BK491.out⟩, ⟨by (with_reducible repeat (first | refine kN ?_ _ | refine kD ?_ | refine kA ?_ _)); refine kR ?_ NB495_524.out _; (with_reducible repeat (first | refine kN ?_ _ | refine kD ?_ | refine kA ?_ _)); refine kR ?_ NB495_524.out _; (with_reducible repeat (first | refine kN ?_ _ | refine kD ?_ | refine kA ?_ _)); exact BK495.out⟩, ⟨by (with_reducible repeat (first | refine kN ?_ _ | refine kD ?_ | refine kA ?_ _)); refine kR ?_ NB516_524.out _; (with_reducible repeat (first | refine kN ?_ _ | refine kD ?_ | refine kA ?_ _)); refine kR ?_ NB516_524.out _; (with_reducible repeat (first | refine kN ?_ _ | refine kD ?_ | refine kA ?_ _)); exact BK516.out⟩, ⟨by (with_reducible repeat (first | refine kN ?_ _ | refine kD ?_ | refine kA ?_ _)); refine kR ?_ NB520_524.out _; (with_reducible repeat (first | refine kN ?_ _ | refine kD ?_ | refine kA ?_ _)); refine kR ?_ NB520_524.out _; (with_reducible repeat (first | refine kN ?_ _ | refine kD ?_ | refine kA ?_ _)); exact BK520.out⟩, ⟨by (with_reducible repeat (first | refine kN ?_ _ | refine kD ?_ | refine kA ?_ _)); refine kP (cs := #[.int .i64 t521, .int .i64 0]) ?_ 1 _ rfl; (with_reducible repeat (first | refine kN ?_ _ | refine kD ?_ | refine kA ?_ _)); refine kP (cs := #[.int .i64 0, .int .i64 0]) ?_ 0 _ rfl; (with_reducible repeat (first | refine kN ?_ _ | refine kD ?_ | refine kA ?_ _)); exact BK524.out⟩, ⟨by repeat (first | (with_reducible first | exact HB.out | apply bA | apply bN | apply bD | refine bX ?_ (by assumption)) | exact HB.out)⟩⟩
           replace c176 := Bool.eq_false_iff.mpr c176
           subst c176
           have H1 : (laws_FnHandsMeetOfAll.j3 k3 t476 t484 t496 t499 x189_3 t476 (t476.length : Int) x189_3 false a0_0 a0_1 a0_2 a1_0 a1_1 a1_2 a2_0 a2_1 a2_2 a3_0 a3_1 a3_2 a4_0 a4_1 ((rd_T23 t476 x189_3).f0) ((rd_T23 t476 x189_3).f1)) = some r := by rw [if_neg (show ¬ (false = true) by decide)] at H; exact H
           clear H
           have H := H1
           clear H1
           as_aux_lemma =>
            have H' := Am H
            clear H
            go_wp2
            go_meet
            case rel => exact ⟨_, (false), (by first | rfl | (simp; done) | (simp [*]; done)), H', ⟨by have := HJ13.out; have := HJ111.out; have := HK3.out; first | omega | exact Nat.le_refl _⟩, ⟨by (with_reducible repeat (first | apply Kd.R_alloc | apply Kd.R_drewN | apply Kd.R_drew)); exact Kd.R_mono (Kd.R_far (p := ⟨gb524, 1, none⟩) (Kd.R_far (p := ⟨gb524, 0, none⟩) (Kd.R_mono HO_11.out (fun k_ hk => (⟨hk, hk.2⟩ : _ ∧ k_ ≠ gb524))) (fun _ hk => hk.2) (.int .i64 t521)) (fun _ hk => hk.2) (.int .i64 t522)) (fun _ hk => ⟨hk.1.1.1.1.1, ⟨hk.1.1.1.1.2.1, ⟨hk.1.1.1.1.2.2.1, ⟨hk.1.1.1.1.2.2.2, ⟨hk.1.1.1.2, ⟨hk.1.1.2, hk.1.2⟩⟩⟩⟩⟩⟩)⟩, ⟨by (with_reducible repeat (first | apply Kd.R_alloc | apply Kd.R_drewN | apply Kd.R_drew)); exact Kd.R_mono (Kd.R_far (p := ⟨gb524, 1, none⟩) (Kd.R_far (p := ⟨gb524, 0, none⟩) (Kd.R_mono HO_23.out (fun k_ hk => (⟨hk, hk.2⟩ : _ ∧ k_ ≠ gb524))) (fun _ hk => hk.2) (.int .i64 t521)) (fun _ hk => hk.2) (.int .i64 t522)) (fun _ hk => ⟨hk.1.1.1.1.1, ⟨hk.1.1.1.1.2.1, ⟨hk.1.1.1.1.2.2.1, ⟨hk.1.1.1.1.2.2.2.1, ⟨hk.1.1.1.1.2.2.2.2, ⟨hk.1.1.1.2, ⟨hk.1.1.2, hk.1.2⟩⟩⟩⟩⟩⟩⟩)⟩, ⟨by (with_reducible repeat (first | apply Kd.R_alloc | apply Kd.R_drewN | apply Kd.R_drew)); exact Kd.R_mono (Kd.R_far (p := ⟨gb524, 1, none⟩) (Kd.R_far (p := ⟨gb524, 0, none⟩) (Kd.R_mono HO_187.out (fun k_ hk => (⟨hk, hk.2⟩ : _ ∧ k_ ≠ gb524))) (fun _ hk => hk.2) (.int .i64 t521)) (fun _ hk => hk.2) (.int .i64 t522)) (fun _ hk => ⟨hk.1.1.1.1.1, ⟨hk.1.1.1.1.2.1, ⟨hk.1.1.1.1.2.2.1, ⟨hk.1.1.1.1.2.2.2, ⟨hk.1.1.1.2, ⟨hk.1.1.2, hk.1.2⟩⟩⟩⟩⟩⟩)⟩, ⟨by (with_reducible repeat (first | refine kN ?_ _ | refine kD ?_ | refine kA ?_ _)); refine kR ?_ NB471_524.out _; (with_reducible repeat (first | refine kN ?_ _ | refine kD ?_ | refine kA ?_ _)); refine kR ?_ NB471_524.out _; (with_reducible repeat (first | refine kN ?_ _ | refine kD ?_ | refine kA ?_ _)); exact BK471.out⟩, ⟨by (with_reducible repeat (first | refine kN ?_ _ | refine kD ?_ | refine kA ?_ _)); refine kR ?_ NB472_524.out _; (with_reducible repeat (first | refine kN ?_ _ | refine kD ?_ | refine kA ?_ _)); refine kR ?_ NB472_524.out _; (with_reducible repeat (first | refine kN ?_ _ | refine kD ?_ | refine kA ?_ _)); exact BK472.out⟩, ⟨by (with_reducible repeat (first | refine kN ?_ _ | refine kD ?_ | refine kA ?_ _)); refine kR ?_ NB473_524.out _; (with_reducible repeat (first | refine kN ?_ _ | refine kD ?_ | refine kA ?_ _)); refine kR ?_ NB473_524.out _; (with_reducible repeat (first | refine kN ?_ _ | refine kD ?_ | refine kA ?_ _)); exact BK473.out⟩, ⟨by (with_reducible repeat (first | refine kN ?_ _ | refine kD ?_ | refine kA ?_ _)); refine kR ?_ NB474_524.out _; (with_reducible repeat (first | refine kN ?_ _ | refine kD ?_ | refine kA ?_ _)); refine kR ?_ NB474_524.out _; (with_reducible repeat (first | refine kN ?_ _ | refine kD ?_ | refine kA ?_ _)); exact BK474.out⟩, ⟨by (with_reducible repeat (first | refine kN ?_ _ | refine kD ?_ | refine kA ?_ _)); refine kR ?_ NB475_524.out _; (with_reducible repeat (first | refine kN ?_ _ | refine kD ?_ | refine kA ?_ _)); refine kR ?_ NB475_524.out _; (with_reducible repeat (first | refine kN ?_ _ | refine kD ?_ | refine kA ?_ _)); exact BK475.out⟩, ⟨by (with_reducible repeat (first | refine kN ?_ _ | refine kD ?_ | refine kA ?_ _)); refine kR ?_ NB491_524.out _; (with_reducible repeat (first | refine kN ?_ _ | refine kD ?_ | refine kA ?_ _)); refine kR ?_ NB491_524.out _; (with_reducible repeat (first | refine kN ?_ _ | refine kD ?_ | refine kA ?_ _)); exact BK491.out⟩, ⟨by (with_reducible repeat (first | refine kN ?_ _ | refine kD ?_ | refine kA ?_ _)); refine kR ?_ NB495_524.out _; (with_reducible repeat (first | refine kN ?_ _ | refine kD ?_ | refine kA ?_ _)); refine kR ?_ NB495_524.out _; (with_reducible repeat (first | refine kN ?_ _ | refine kD ?_ | refine kA ?_ _)); exact BK495.out⟩, ⟨by (with_reducible repeat (first | refine kN ?_ _ | refine kD ?_ | refine kA ?_ _)); refine kR ?_ NB516_524.out _; (with_reducible repeat (first | refine kN ?_ _ | refine kD ?_ | refine kA ?_ _)); refine kR ?_ NB516_524.out _; (with_reducible repeat (first | refine kN ?_ _ | refine kD ?_ | refine kA ?_ _)); exact BK516.out⟩, ⟨by (with_reducible repeat (first | refine kN ?_ _ | refine kD ?_ | refine kA ?_ _)); refine kR ?_ NB520_524.out _; (with_reducible repeat (first | refine kN ?_ _ | refine kD ?_ | refine kA ?_ _)); refine kR ?_ NB520_524.out _; (with_reducible repeat (first | refine kN ?_ _ | refine kD ?_ | refine kA ?_ _)); exact BK520.out⟩, ⟨by (with_reducible repeat (first | refine kN ?_ _ | refine kD ?_ | refine kA ?_ _)); refine kP (cs := #[.int .i64 t521, .int .i64 0]) ?_ 1 _ rfl; (with_reducible repeat (first | refine kN ?_ _ | refine kD ?_ | refine kA ?_ _)); refine kP (cs := #[.int .i64 0, .int .i64 0]) ?_ 0 _ rfl; (with_reducible repeat (first | refine kN ?_ _ | refine kD ?_ | refine kA ?_ _)); exact BK524.out⟩, ⟨by repeat (first | (with_reducible first | exact HB.out | apply bA | apply bN | apply bD | refine bX ?_ (by assumption)) | exact HB.out)⟩⟩
          clear HC128
          (try clear c20); (try clear c21); (try clear c109); (try clear c111); (try clear c121); (try clear c123); (try clear c123b0); (try clear c124); (try clear c124b0); (try clear c125); (try clear c125b0); (try clear zq137); (try clear zq144); (try clear zq155); (try clear zq161); (try clear zq162); (try clear zq174); (try clear hx515_0); (try clear hx515_1); (try clear p515); (try clear q515)
          obtain ⟨kq, x225_127, rfl, HA, HJ127, HO_11, HO_23, HO_187, BK471, BK472, BK473, BK474, BK475, BK491, BK495, BK516, BK520, BK524, HB⟩ := hcut
          cases kq with
          | zero => exact absurd HA.out (by simp [laws_FnHandsMeetOfAll.j3])
          | succ kj127 =>
           have H := HA.out
           clear HA
           simp only [laws_FnHandsMeetOfAll.j3] at H
           by_cases c220 : x225_127 = true
           ·subst c220
            have H1 : (some false) = some r := by rw [if_pos rfl] at H; exact H
            clear H
            have H := H1
            clear H1
            as_aux_lemma =>
             exact absurd ((Option.some.inj H).trans hlaw.out) (by decide)
           replace c220 := Bool.eq_false_iff.mpr c220
           subst c220
           have H1 : ((impl_NextMeet.f kj127 a0_0 a0_1 a0_2 a1_0 a1_1 a1_2 ((rd_T23 t476 x189_3).f0) ((rd_T23 t476 x189_3).f1)).bind fun bt526 => (if bt526.2.2 = true then (if t484 = 0 then (none) else (if 0 ≤ (Int.tmod (wrap64 (x189_3 + 1)) t484) then (if (Int.tmod (wrap64 (x189_3 + 1)) t484) < (t476.length : Int) then (if (!(bt526.1 == ((rd_T23 t476 (Int.tmod (wrap64 (x189_3 + 1)) t484)).f0)) || (!(bt526.2.1 == ((rd_T23 t476 (Int.tmod (wrap64 (x189_3 + 1)) t484)).f1)))) = true then (some false) else (laws_FnHandsMeetOfAll.l0 kj127 t476 t484 t496 t499 t476 (t476.length : Int) (wrap64 (x189_3 + 1)) a0_0 a0_1 a0_2 a1_0 a1_1 a1_2 a2_0 a2_1 a2_2 a3_0 a3_1 a3_2 a4_0 a4_1)) else (none)) else (none))) else (some false))) = some r := by rw [if_neg (show ¬ (false = true) by decide)] at H; exact H
           clear H
           have H := H1
           clear H1
           replace H := Option.bind_eq_some_iff.mp H
           obtain ⟨⟨t526, t527, t528⟩, A2210, H⟩ := H
           try dsimp only at H
           have A221 := Am A2210
           clear A2210
           by_cases c222 : t528 = true
           ·subst c222
            have H1 : (if t484 = 0 then (none) else (if 0 ≤ (Int.tmod (wrap64 (x189_3 + 1)) t484) then (if (Int.tmod (wrap64 (x189_3 + 1)) t484) < (t476.length : Int) then (if (!(t526 == ((rd_T23 t476 (Int.tmod (wrap64 (x189_3 + 1)) t484)).f0)) || (!(t527 == ((rd_T23 t476 (Int.tmod (wrap64 (x189_3 + 1)) t484)).f1)))) = true then (some false) else (laws_FnHandsMeetOfAll.l0 kj127 t476 t484 t496 t499 t476 (t476.length : Int) (wrap64 (x189_3 + 1)) a0_0 a0_1 a0_2 a1_0 a1_1 a1_2 a2_0 a2_1 a2_2 a3_0 a3_1 a3_2 a4_0 a4_1)) else (none)) else (none))) = some r := by rw [if_pos rfl] at H; exact H
            clear H
            have H := H1
            clear H1
            by_cases c223 : t484 = 0
            ·rw [if_pos c223] at H
             exact absurd H (by simp)
            rw [if_neg c223] at H
            have c223b0 : (t484 == 0) = false := beq_eq_false_iff_ne.mpr c223
            have c223b1 : (t484 != 0) = true := bne_iff_ne.mpr c223
            obtain ⟨ji224, hji224⟩ : ∃ j_ : Int, (Int.tmod (wrap64 (x189_3 + 1)) t484) = j_ := ⟨_, rfl⟩
            replace H : (if 0 ≤ (ji224) then (if (ji224) < (t476.length : Int) then (if (!(t526 == ((rd_T23 t476 (ji224)).f0)) || (!(t527 == ((rd_T23 t476 (ji224)).f1)))) = true then (some false) else (laws_FnHandsMeetOfAll.l0 kj127 t476 t484 t496 t499 t476 (t476.length : Int) (wrap64 (x189_3 + 1)) a0_0 a0_1 a0_2 a1_0 a1_1 a1_2 a2_0 a2_1 a2_2 a3_0 a3_1 a3_2 a4_0 a4_1)) else (none)) else (none)) = some r := by first | (rw [hji224] at H; exact H) | (simp only [hji224] at H ⊢; exact H)
            (try rw [hji224] at A221)
            by_cases c225 : 0 ≤ (ji224)
            ·rw [if_pos c225] at H
             have c225b0 : decide (0 ≤ (ji224)) = true := decide_eq_true c225
             clear c225
             by_cases c226 : (ji224) < (t476.length : Int)
             ·rw [if_pos c226] at H
              have c226b0 : decide ((ji224) < (t476.length : Int)) = true := decide_eq_true c226
              clear c226
              by_cases c227 : (!(t526 == ((rd_T23 t476 (ji224)).f0)) || (!(t527 == ((rd_T23 t476 (ji224)).f1)))) = true
              ·rw [if_pos c227] at H
               have c227b0 : (!(t526 == ((rd_T23 t476 (ji224)).f0)) || (!(t527 == ((rd_T23 t476 (ji224)).f1)))) = true := c227
               clear c227
               as_aux_lemma =>
                exact absurd ((Option.some.inj H).trans hlaw.out) (by decide)
              rw [if_neg c227] at H
              have c227b0 : (!(t526 == ((rd_T23 t476 (ji224)).f0)) || (!(t527 == ((rd_T23 t476 (ji224)).f1)))) = false := by simpa using c227
              clear c227
              as_aux_lemma =>
               have H' := Am H
               clear H
               have nq228 := kO NB471_472; have nq229 := kO NB471_473; have nq230 := kO NB471_474; have nq231 := kO NB471_475; have nq232 := kO NB471_491; have nq233 := kO NB471_495; have nq234 := kO NB471_516; have nq235 := kO NB471_520; have nq236 := kO NB471_524
               have zq237 := c3 BK471
               have nq238 := kO NB472_473; have nq239 := kO NB472_474; have nq240 := kO NB472_475; have nq241 := kO NB472_491; have nq242 := kO NB472_495; have nq243 := kO NB472_516; have nq244 := kO NB472_520; have nq245 := kO NB472_524
               have zq246 := c3 BK472
               have nq247 := kO NB516_473; have nq248 := kO NB516_474; have nq249 := kO NB516_475; have nq250 := kO NB516_491; have nq251 := kO NB516_495; have nq252 := kO NB516_520; have nq253 := kO NB516_524
               have hcz254_0 : wc.cell? ⟨gb516, 0, none⟩ = some (.int .i64 ((rd_T23 t476 x189_3).f0)) := c20 BK516.out
               have hcz254_1 : wc.cell? ⟨gb516, 1, none⟩ = some (.int .i64 ((rd_T23 t476 x189_3).f1)) := c21 BK516.out
               have hfz254_0 := kF BK516.out 0
               have hfz254_1 := kF BK516.out 1
               try go_wp2_with (first | ((with_reducible refine gate_callee (f := 19) rfl ?_); refine gL (some 230) Try.func19 #[.agg #[.int .i64 a0_0, .int .i64 a0_1, .int .i64 a0_2], .agg #[.int .i64 a1_0, .int .i64 a1_1, .int .i64 a1_2], .agg #[.int .i64 ((rd_T23 t476 x189_3).f0), .int .i64 ((rd_T23 t476 x189_3).f1)]] rfl ?_; (with_reducible refine (impl_NextMeet.calls kj127 a0_0 a0_1 a0_2 a1_0 a1_1 a1_2 ((rd_T23 t476 x189_3).f0) ((rd_T23 t476 x189_3).f1) t526 t527 true _ A221.out).mono ?_); rintro e w255 ⟨rfl, hb⟩; refine ⟨_, rfl, ?_⟩; have n0_ := Am (Kd.R_below (kW HO_11) hb); have n1_ := Am (Kd.R_below (kW HO_23) hb); have n2_ := Am (Kd.R_below (kW HO_187) hb); have hp0 := pA BK471 hb; have hv := vK HB hb; have n13_ := Am (bT hv hb); clear HO_11; clear HO_23; clear HO_187; clear HB; have HO_11 := n0_; have HO_23 := n1_; have HO_187 := n2_; replace BK471 := hp0 BK471; replace BK472 := hp0 BK472; replace BK473 := hp0 BK473; replace BK474 := hp0 BK474; replace BK475 := hp0 BK475; replace BK491 := hp0 BK491; replace BK495 := hp0 BK495; replace BK516 := hp0 BK516; replace BK520 := hp0 BK520; replace BK524 := hp0 BK524; have HB := n13_; clear n0_ n1_ n2_ n13_ hp0 hv; (try clear hb)) | ((with_reducible refine gate_dst (N := 33) rfl ?_); (try (refine gate_guard (by rfl) ?_; dsimp only)); refine bE 33 #[.int .i64 0, .int .i64 0] 23 ?_; intro gb529 hg w256 hbox hb; have n0_ := Am (Kd.R_below (Kd.R_elderB (kW HO_11) gb529 (Nat.le_of_eq hg.symm)) hb); have n1_ := Am (Kd.R_below (Kd.R_elderB (kW HO_23) gb529 (Nat.le_of_eq hg.symm)) hb); have n2_ := Am (Kd.R_below (Kd.R_elderB (kW HO_187) gb529 (Nat.le_of_eq hg.symm)) hb); have hp0 := pA BK471 hb; have hv := vK HB hb; have n13_ := Am (bT hv hb); have n14_ := Am (hbox); have GE529 := kG hg hv; have hp1 := pK BK471 hb; obtain ⟨NB471_529, NB529_471⟩ := kXY hg hp1 BK471; obtain ⟨NB472_529, NB529_472⟩ := kXY hg hp1 BK472; obtain ⟨NB473_529, NB529_473⟩ := kXY hg hp1 BK473; obtain ⟨NB474_529, NB529_474⟩ := kXY hg hp1 BK474; obtain ⟨NB475_529, NB529_475⟩ := kXY hg hp1 BK475; obtain ⟨NB491_529, NB529_491⟩ := kXY hg hp1 BK491; obtain ⟨NB495_529, NB529_495⟩ := kXY hg hp1 BK495; obtain ⟨NB516_529, NB529_516⟩ := kXY hg hp1 BK516; obtain ⟨NB520_529, NB529_520⟩ := kXY hg hp1 BK520; obtain ⟨NB524_529, NB529_524⟩ := kXY hg hp1 BK524; clear HO_11; clear HO_23; clear HO_187; clear HB; have HO_11 := n0_; have HO_23 := n1_; have HO_187 := n2_; replace BK471 := hp0 BK471; replace BK472 := hp0 BK472; replace BK473 := hp0 BK473; replace BK474 := hp0 BK474; replace BK475 := hp0 BK475; replace BK491 := hp0 BK491; replace BK495 := hp0 BK495; replace BK516 := hp0 BK516; replace BK520 := hp0 BK520; replace BK524 := hp0 BK524; have HB := n13_; have BK529 := n14_; clear n0_ n1_ n2_ n13_ n14_ hp0 hp1 hv; clear hb hbox hg; have nq257 := kO NB529_471; have nq258 := kO NB529_472; have nq259 := kO NB529_473; have nq260 := kO NB529_474; have nq261 := kO NB529_475; have nq262 := kO NB529_491; have nq263 := kO NB529_495; have nq264 := kO NB529_516; have nq265 := kO NB529_520; have nq266 := kO NB529_524; have hcz267_0 : w256.cell? ⟨gb529, 0, none⟩ = some (.int .i64 0) := (kC BK529.out 0).trans rfl; have hcz267_1 : w256.cell? ⟨gb529, 1, none⟩ = some (.int .i64 0) := (kC BK529.out 1).trans rfl; have hfz267_0 := kF BK529.out 0; have hfz267_1 := kF BK529.out 1))
               have n0_ : Aside0 (Kd.R k23 23 ((w256.setCell ⟨gb529, 0, none⟩ (.int .i64 t526)).setCell ⟨gb529, 1, none⟩ (.int .i64 t527)) w.heap.size (fun k_ => some k_ ≠ (v497 : Value).ownBlock ∧ k_ ≠ gb475 ∧ k_ ≠ gb491 ∧ k_ ≠ gb495 ∧ k_ ≠ gb516 ∧ k_ ≠ gb520 ∧ k_ ≠ gb524 ∧ k_ ≠ gb529) (.slice (some ad515) t476.length co122) t476) := ⟨by (with_reducible repeat (first | apply Kd.R_alloc | apply Kd.R_drewN | apply Kd.R_drew)); exact Kd.R_mono (Kd.R_far (p := ⟨gb529, 1, none⟩) (Kd.R_far (p := ⟨gb529, 0, none⟩) (Kd.R_mono HO_11.out (fun k_ hk => (⟨hk, hk.2⟩ : _ ∧ k_ ≠ gb529))) (fun _ hk => hk.2) (.int .i64 t526)) (fun _ hk => hk.2) (.int .i64 t527)) (fun _ hk => ⟨hk.1.1.1, ⟨hk.1.1.2.1, ⟨hk.1.1.2.2.1, ⟨hk.1.1.2.2.2.1, ⟨hk.1.1.2.2.2.2.1, ⟨hk.1.1.2.2.2.2.2.1, ⟨hk.1.1.2.2.2.2.2.2, hk.1.2⟩⟩⟩⟩⟩⟩⟩)⟩
               have n1_ : Aside0 (Kd.R k23 23 ((w256.setCell ⟨gb529, 0, none⟩ (.int .i64 t526)).setCell ⟨gb529, 1, none⟩ (.int .i64 t527)) w.heap.size (fun k_ => some k_ ≠ (.slice (some ad515) t476.length co122 : Value).ownBlock ∧ some k_ ≠ (.slice (some ad515) t476.length co122 : Value).ownBlock ∧ k_ ≠ gb475 ∧ k_ ≠ gb491 ∧ k_ ≠ gb495 ∧ k_ ≠ gb516 ∧ k_ ≠ gb520 ∧ k_ ≠ gb524 ∧ k_ ≠ gb529) v497 t496) := ⟨by (with_reducible repeat (first | apply Kd.R_alloc | apply Kd.R_drewN | apply Kd.R_drew)); exact Kd.R_mono (Kd.R_far (p := ⟨gb529, 1, none⟩) (Kd.R_far (p := ⟨gb529, 0, none⟩) (Kd.R_mono HO_23.out (fun k_ hk => (⟨hk, hk.2⟩ : _ ∧ k_ ≠ gb529))) (fun _ hk => hk.2) (.int .i64 t526)) (fun _ hk => hk.2) (.int .i64 t527)) (fun _ hk => ⟨hk.1.1.1, ⟨hk.1.1.2.1, ⟨hk.1.1.2.2.1, ⟨hk.1.1.2.2.2.1, ⟨hk.1.1.2.2.2.2.1, ⟨hk.1.1.2.2.2.2.2.1, ⟨hk.1.1.2.2.2.2.2.2.1, ⟨hk.1.1.2.2.2.2.2.2.2, hk.1.2⟩⟩⟩⟩⟩⟩⟩⟩)⟩
               have n2_ : Aside0 (Kd.R k23 23 ((w256.setCell ⟨gb529, 0, none⟩ (.int .i64 t526)).setCell ⟨gb529, 1, none⟩ (.int .i64 t527)) w.heap.size (fun k_ => some k_ ≠ (v497 : Value).ownBlock ∧ k_ ≠ gb475 ∧ k_ ≠ gb491 ∧ k_ ≠ gb495 ∧ k_ ≠ gb516 ∧ k_ ≠ gb520 ∧ k_ ≠ gb524 ∧ k_ ≠ gb529) (.slice (some ad515) t476.length co122) t476) := ⟨by (with_reducible repeat (first | apply Kd.R_alloc | apply Kd.R_drewN | apply Kd.R_drew)); exact Kd.R_mono (Kd.R_far (p := ⟨gb529, 1, none⟩) (Kd.R_far (p := ⟨gb529, 0, none⟩) (Kd.R_mono HO_187.out (fun k_ hk => (⟨hk, hk.2⟩ : _ ∧ k_ ≠ gb529))) (fun _ hk => hk.2) (.int .i64 t526)) (fun _ hk => hk.2) (.int .i64 t527)) (fun _ hk => ⟨hk.1.1.1, ⟨hk.1.1.2.1, ⟨hk.1.1.2.2.1, ⟨hk.1.1.2.2.2.1, ⟨hk.1.1.2.2.2.2.1, ⟨hk.1.1.2.2.2.2.2.1, ⟨hk.1.1.2.2.2.2.2.2, hk.1.2⟩⟩⟩⟩⟩⟩⟩)⟩
               have hq := hqR (W := ((w256.setCell ⟨gb529, 0, none⟩ (.int .i64 t526)).setCell ⟨gb529, 1, none⟩ (.int .i64 t527))) gb529 BK471.out (fun _ _ q_ h_ => by (with_reducible repeat (first | refine kN ?_ _ | refine kD ?_ | refine kA ?_ _ | refine kZ ?_ q_ _)); exact h_)
               have n3_ := Am (hq NB471_529.out BK471.out)
               have n4_ := Am (hq NB472_529.out BK472.out)
               have n5_ := Am (hq NB473_529.out BK473.out)
               have n6_ := Am (hq NB474_529.out BK474.out)
               have n7_ := Am (hq NB475_529.out BK475.out)
               have n8_ := Am (hq NB491_529.out BK491.out)
               have n9_ := Am (hq NB495_529.out BK495.out)
               have n10_ := Am (hq NB516_529.out BK516.out)
               have n11_ := Am (hq NB520_529.out BK520.out)
               have n12_ := Am (hq NB524_529.out BK524.out)
               have n13_ : Aside0 (((w256.setCell ⟨gb529, 0, none⟩ (.int .i64 t526)).setCell ⟨gb529, 1, none⟩ (.int .i64 t527)).heap[gb529]? = some (.cells #[.int .i64 t526, .int .i64 t527] 23 (0, 0))) := ⟨by (with_reducible repeat (first | refine kN ?_ _ | refine kD ?_ | refine kA ?_ _)); refine kP (cs := #[.int .i64 t526, .int .i64 0]) ?_ 1 _ rfl; (with_reducible repeat (first | refine kN ?_ _ | refine kD ?_ | refine kA ?_ _)); refine kP (cs := #[.int .i64 0, .int .i64 0]) ?_ 0 _ rfl; (with_reducible repeat (first | refine kN ?_ _ | refine kD ?_ | refine kA ?_ _)); exact BK529.out⟩
               have n14_ : Aside0 (Below w.heap.size w ((w256.setCell ⟨gb529, 0, none⟩ (.int .i64 t526)).setCell ⟨gb529, 1, none⟩ (.int .i64 t527))) := ⟨by repeat (first | (with_reducible first | exact HB.out | apply bA | apply bN | apply bD | refine bX ?_ (by assumption)) | exact HB.out)⟩
               clear hq
               (try clear HO_11)
               (try clear HO_23)
               (try clear HO_187)
               (try clear BK471)
               (try clear BK472)
               (try clear BK473)
               (try clear BK474)
               (try clear BK475)
               (try clear BK491)
               (try clear BK495)
               (try clear BK516)
               (try clear BK520)
               (try clear BK524)
               (try clear BK529)
               (try clear HB)
               generalize ((w256.setCell ⟨gb529, 0, none⟩ (.int .i64 t526)).setCell ⟨gb529, 1, none⟩ (.int .i64 t527)) = w268 at n0_ n1_ n2_ n3_ n4_ n5_ n6_ n7_ n8_ n9_ n10_ n11_ n12_ n13_ n14_ ⊢
               have HO_11 := n0_; have HO_23 := n1_; have HO_187 := n2_; have BK471 := n3_; have BK472 := n4_; have BK473 := n5_; have BK474 := n6_; have BK475 := n7_; have BK491 := n8_; have BK495 := n9_; have BK516 := n10_; have BK520 := n11_; have BK524 := n12_; have BK529 := n13_; have HB := n14_
               clear n0_ n1_ n2_ n3_ n4_ n5_ n6_ n7_ n8_ n9_ n10_ n11_ n12_ n13_ n14_
               have n0_ := Am (Kd.R_drew HO_11.out)
               have n1_ := Am (Kd.R_drew HO_23.out)
               have n2_ := Am (Kd.R_drew HO_187.out)
               have n3_ := Am (kD BK471.out)
               have n4_ := Am (kD BK472.out)
               have n5_ := Am (kD BK473.out)
               have n6_ := Am (kD BK474.out)
               have n7_ := Am (kD BK475.out)
               have n8_ := Am (kD BK491.out)
               have n9_ := Am (kD BK495.out)
               have n10_ := Am (kD BK516.out)
               have n11_ := Am (kD BK520.out)
               have n12_ := Am (kD BK524.out)
               have n13_ := Am (kD BK529.out)
               have n14_ := Am (bD HB.out)
               clear HO_11 HO_23 HO_187 BK471 BK472 BK473 BK474 BK475 BK491 BK495 BK516 BK520 BK524 BK529 HB
               have HO_11 := n0_; have HO_23 := n1_; have HO_187 := n2_; have BK471 := n3_; have BK472 := n4_; have BK473 := n5_; have BK474 := n6_; have BK475 := n7_; have BK491 := n8_; have BK495 := n9_; have BK516 := n10_; have BK520 := n11_; have BK524 := n12_; have BK529 := n13_; have HB := n14_
               clear n0_ n1_ n2_ n3_ n4_ n5_ n6_ n7_ n8_ n9_ n10_ n11_ n12_ n13_ n14_
               have p530 : 0 ≤ ((ji224) : Int) := of_decide_eq_true (by first | (with_reducible assumption) | assumption)
               have q530 : (ji224) < (t476.length : Int) := of_decide_eq_true (by first | (with_reducible assumption) | assumption)
               obtain ⟨ad530, e530, hx530_0, hx530_1⟩ := at_T23 (Kd.R_reads' HO_11.out).2.2 (ji224) p530 q530
               obtain rfl : ad515 = ad530 := (by injection e530)
               replace p530 := eq_true p530
               replace q530 := eq_true q530
               refine start_ (n := 13) (S := fun w' => w'.cell? ⟨gb529, 0, none⟩ = some (.int .i64 t526) ∧ w'.cell? ⟨gb529, 1, none⟩ = some (.int .i64 t527) ∧ w'.cell? (ad515.add (((ji224)).toNat * 2)) = some (.int .i64 ((rd_T23 t476 (ji224)).f0)) ∧ w'.cell? ⟨(ad515.add (((ji224)).toNat * 2)).block, (ad515.add (((ji224)).toNat * 2)).off + 1, none⟩ = some (.int .i64 ((rd_T23 t476 (ji224)).f1))) (ds := []) (pT 13 0) (by kernel_rfl) rfl rfl ⟨(kC BK529.out 0).trans rfl, (kC BK529.out 1).trans rfl, hx530_0, hx530_1⟩ (fun hHeld => ?_); refine with_tabW laws_FnHandsMeetOfAll.tab22 laws_FnHandsMeetOfAll.bits22 (fun HT_ HW_ => ?_)
               generalize w268.drew = w269 at HO_11 HO_23 HO_187 BK471 BK472 BK473 BK474 BK475 BK491 BK495 BK516 BK520 BK524 BK529 HB hx530_0 hx530_1 hHeld ⊢
               iterate 3
                refine pI (v := ?_) (a' := ?_) rfl (any_of HT_.out (by kernel_rfl)) (fun _ _ _ h => h) (Or.inl ⟨by rfl, ?_⟩) ?_ ?_
                rotate_left
                ·intro w'
                 go_simp
                 with_reducible rfl
                rotate_left
                ·show Act.put _ (some _) _ = _
                 simp only [Act.put, List.setIfInBounds_toArray, List.set_cons_zero, List.set_cons_succ, i64_w, i32_w]
                 rfl
               refine pure_ (i := 4) (N := some 237) (v := ?_) (a' := ?_) #[true, true, true, false, true, false, false, false, false, false, false, false, false] rfl rfl (any_of HT_.out (by kernel_rfl)) (fun _ _ _ h => h) (Or.inl ⟨by rfl, ?_⟩) ?_ ?_
               rotate_left
               ·intro w'
                go_simp
                with_reducible rfl
               rotate_left
               ·simp only [Act.put, List.setIfInBounds_toArray, List.set_cons_zero, List.set_cons_succ, i64_w, i32_w]
                rfl
               refine pure_ (i := 5) (N := some 238) (v := ?_) (a' := ?_) #[true, true, true, false, true, true, false, false, false, false, false, false, false] rfl rfl (any_of HT_.out (by kernel_rfl)) (fun _ _ _ h => h) (Or.inl ⟨by rfl, ?_⟩) ?_ ?_
               rotate_left
               ·intro w'
                go_simp
                with_reducible rfl
               rotate_left
               ·simp only [Act.put, List.setIfInBounds_toArray, List.set_cons_zero, List.set_cons_succ, i64_w, i32_w]
                rfl
               refine pure_ (i := 6) (N := some 239) (v := ?_) (a' := ?_) #[true, true, true, false, true, true, true, false, false, false, false, false, false] rfl rfl (any_of HT_.out (by kernel_rfl)) (fun _ _ _ h => h) (Or.inl ⟨by rfl, ?_⟩) ?_ ?_
               rotate_left
               ·intro w'
                go_simp
                with_reducible rfl
               rotate_left
               ·simp only [Act.put, List.setIfInBounds_toArray, List.set_cons_zero, List.set_cons_succ, i64_w, i32_w]
                rfl
               refine pure_ (i := 7) (N := some 240) (v := ?_) (a' := ?_) #[true, true, true, false, true, true, true, true, false, false, false, false, false] rfl rfl (any_of HT_.out (by kernel_rfl)) (fun _ _ _ h => h) (Or.inl ⟨by rfl, ?_⟩) ?_ ?_
               rotate_left
               ·intro w'
                go_simp
                with_reducible rfl
               rotate_left
               ·simp only [Act.put, List.setIfInBounds_toArray, List.set_cons_zero, List.set_cons_succ, i64_w, i32_w]
                rfl
               refine pure_ (i := 8) (N := some 241) (v := ?_) (a' := ?_) #[true, true, true, false, true, true, true, true, true, false, false, false, false] rfl rfl (any_of HT_.out (by kernel_rfl)) (fun _ _ _ h => h) (Or.inl ⟨by rfl, ?_⟩) ?_ ?_
               rotate_left
               ·intro w'
                go_simp
                with_reducible rfl
               rotate_left
               ·simp only [Act.put, List.setIfInBounds_toArray, List.set_cons_zero, List.set_cons_succ, i64_w, i32_w]
                rfl
               refine pure_ (i := 9) (N := some 242) (v := ?_) (a' := ?_) #[true, true, true, false, true, true, true, true, true, true, false, false, false] rfl rfl (any_of HT_.out (by kernel_rfl)) (fun _ _ _ h => h) (Or.inl ⟨by rfl, ?_⟩) ?_ ?_
               rotate_left
               ·intro w'
                go_simp
                with_reducible rfl
               rotate_left
               ·simp only [Act.put, List.setIfInBounds_toArray, List.set_cons_zero, List.set_cons_succ, i64_w, i32_w]
                rfl
               refine take_ (i := 3) (N := some 236) (v := ?_) (a' := ?_) (pT 13 10) rfl rfl (take_ofW HT_.out HW_.out (by kernel_rfl)) (fun _ _ _ h => h) (Or.inl ⟨by rfl, ?_⟩) hHeld ?_ ?_
               rotate_left
               ·rintro w' ⟨s0, s1, s2, s3⟩
                go_simp
                with_reducible rfl
               rotate_left
               ·simp only [Act.put, List.setIfInBounds_toArray, List.set_cons_zero, List.set_cons_succ, i64_w, i32_w]
                rfl
               iterate 3
                first
                | refine pI (v := ?_) (a' := ?_) rfl (any_of HT_.out (by kernel_rfl)) (fun _ _ _ h => h) (Or.inl ⟨by rfl, ?_⟩) ?_ ?_
                  rotate_left
                  ·intro w'
                   go_simp
                   with_reducible rfl
                  rotate_left
                  ·show Act.put _ (some _) _ = _
                   simp only [Act.put, List.setIfInBounds_toArray, List.set_cons_zero, List.set_cons_succ, i64_w, i32_w]
                   rfl
                | refine tI (v := ?_) (a' := ?_) rfl (take_ofW HT_.out HW_.out (by kernel_rfl)) (fun _ _ _ h => h) (Or.inl ⟨by rfl, ?_⟩) hHeld ?_ ?_
                  rotate_left
                  ·rintro w' ⟨s0, s1, s2, s3⟩
                   go_simp
                   with_reducible rfl
                  rotate_left
                  ·show Act.put _ (some _) _ = _
                   simp only [Act.put, List.setIfInBounds_toArray, List.set_cons_zero, List.set_cons_succ, i64_w, i32_w]
                   rfl
               refine done_ (done_of HT_.out (by kernel_rfl)) ?_
               try go_wp2
               go_roundg kj127
               case measure => have := HJ13.out; have := HJ111.out; have := HK3.out; have := HJ127.out; omega
               case rel =>
                refine ⟨(wrap64 (x189_3 + 1)), (by first | rfl | (simp; done) | (simp [*]; done)), H', ⟨by have := HJ13.out; have := HJ111.out; have := HK3.out; have := HJ127.out; omega⟩, ⟨by (with_reducible repeat (first | apply Kd.R_alloc | apply Kd.R_drewN | apply Kd.R_drew)); exact Kd.R_mono HO_11.out (fun _ hk => ⟨hk.1, ⟨hk.2.1, ⟨hk.2.2.1, hk.2.2.2.1⟩⟩⟩)⟩, ⟨by (with_reducible repeat (first | apply Kd.R_alloc | apply Kd.R_drewN | apply Kd.R_drew)); exact Kd.R_mono HO_23.out (fun _ hk => ⟨hk.1, ⟨hk.2.1, ⟨hk.2.2.1, ⟨hk.2.2.2.1, hk.2.2.2.2.1⟩⟩⟩⟩)⟩, ⟨by (with_reducible repeat (first | apply Kd.R_alloc | apply Kd.R_drewN | apply Kd.R_drew)); exact Kd.R_mono HO_187.out (fun _ hk => ⟨hk.1, ⟨hk.2.1, ⟨hk.2.2.1, hk.2.2.2.1⟩⟩⟩)⟩, ⟨?_⟩, ⟨?_⟩, ⟨?_⟩, ⟨?_⟩, ⟨?_⟩, ⟨?_⟩, ⟨?_⟩, ⟨by repeat (first | (with_reducible first | exact HB.out | apply bA | apply bN | apply bD | refine bX ?_ (by assumption)) | exact HB.out)⟩⟩
                all_goals ((with_reducible repeat (first | refine kN ?_ _ | refine kD ?_ | refine kA ?_ _)); exact Aside0.out (by assumption))
             rw [if_neg c226] at H
             exact absurd H (by simp)
            rw [if_neg c225] at H
            exact absurd H (by simp)
           replace c222 := Bool.eq_false_iff.mpr c222
           subst c222
           have H1 : (some false) = some r := by rw [if_neg (show ¬ (false = true) by decide)] at H; exact H
           clear H
           have H := H1
           clear H1
           as_aux_lemma =>
            exact absurd ((Option.some.inj H).trans hlaw.out) (by decide)
         rw [if_neg c125] at H
         exact absurd H (by simp)
        rw [if_neg c124] at H
        exact absurd H (by simp)
       rw [if_neg c123] at H
       have c123b0 : decide (x189_3 < (t476.length : Int)) = false := decide_eq_false c123
       clear c123
       replace H := Option.bind_eq_some_iff.mp H
       obtain ⟨⟨t531, t534⟩, A2700, H⟩ := H
       try dsimp only at H
       have A270 := Am A2700
       clear A2700
       by_cases c271 : t534 = true
       ·subst c271
        have H1 : ((laws_kTurns.f k3 t531 t476).bind fun t535 => (if t535 = true then (laws_FnHandsMeetOfAll.j4 k3 t484 t496 t499 a2_0 a2_1 a2_2 a3_0 a3_1 a3_2 a4_0 a4_1) else (some false))) = some r := by rw [if_pos rfl] at H; exact H
        clear H
        have H := H1
        clear H1
        replace H := Option.bind_eq_some_iff.mp H
        obtain ⟨t535, A2720, H⟩ := H
        try dsimp only at H
        have A272 := Am A2720
        clear A2720
        by_cases c273 : t535 = true
        ·subst c273
         have H1 : (laws_FnHandsMeetOfAll.j4 k3 t484 t496 t499 a2_0 a2_1 a2_2 a3_0 a3_1 a3_2 a4_0 a4_1) = some r := by rw [if_pos rfl] at H; exact H
         clear H
         have H := H1
         clear H1
         as_aux_lemma =>
          have H' := Am H
          clear H
          have nq274 := kO NB472_471; have nq275 := kO NB472_473; have nq276 := kO NB472_474; have nq277 := kO NB472_475; have nq278 := kO NB472_491; have nq279 := kO NB472_495
          have zq280 := c3 BK472
          have nq281 := kO NB471_473; have nq282 := kO NB471_474; have nq283 := kO NB471_475; have nq284 := kO NB471_491; have nq285 := kO NB471_495
          have zq286 := c3 BK471
          go_wp2_with (first | ((with_reducible refine gate_callee (f := 4) rfl ?_); refine gL (some 250) Try.func4 #[.agg #[.int .i64 a1_0, .int .i64 a1_1, .int .i64 a1_2], .agg #[.int .i64 a0_0, .int .i64 a0_1, .int .i64 a0_2]] rfl ?_; (with_reducible refine (impl_MeetTimes.calls k3 a1_0 a1_1 a1_2 a0_0 a0_1 a0_2 t531 true _ A270.out).mono ?_); rintro e w287 ⟨v532, rfl, ho0, hb⟩; refine ⟨_, rfl, ?_⟩; have n0_ := Am (Kd.R_elder' (kW HO_11) (Kd.R_base ho0) hb); have n1_ := Am (Kd.R_elder' (kW HO_23) (Kd.R_base ho0) hb); have n2_ := Am (Kd.R_elder' (kW HO_187) (Kd.R_base ho0) hb); have n3_ := Am (Kd.R_lower (Kd.R_newB (Kd.R_newB (Kd.R_newB (Kd.R_new' (Kd.R_new' (Kd.R_new' ho0 (Kd.R_lt (kW HO_11))) (Kd.R_lt (kW HO_23))) (Kd.R_lt (kW HO_187))) (g := gb475) (o := .cells #[.int .i64 a4_0, .int .i64 a4_1] 23 (0, 0)) (kU BK475)) (g := gb491) (o := .cells #[.int .i64 t488, .int .i64 t489] 23 (0, 0)) (kU BK491)) (g := gb495) (o := .cells #[.int .i64 t492, .int .i64 t493] 23 (0, 0)) (kU BK495)) (bZ (by repeat (first | (with_reducible first | exact HB.out | apply bA | apply bN | apply bD | refine bX ?_ (by assumption)) | exact HB.out)))); have hp0 := pA BK471 hb; have hv := vK HB hb; have n11_ := Am (bT hv hb); clear HO_11; clear HO_23; clear HO_187; clear HB; have HO_11 := n0_; have HO_23 := n1_; have HO_187 := n2_; have HO533 := n3_; replace BK471 := hp0 BK471; replace BK472 := hp0 BK472; replace BK473 := hp0 BK473; replace BK474 := hp0 BK474; replace BK475 := hp0 BK475; replace BK491 := hp0 BK491; replace BK495 := hp0 BK495; have HB := n11_; clear n0_ n1_ n2_ n3_ n11_ hp0 hv; (try clear hb); (try clear ho0); obtain ⟨Ao288, co288, eo288⟩ := Kd.R_slice HO533.out; subst eo288) | (go_at_call 12; (with_reducible refine (laws_kTurns.calls k3 _ _ t531 _ _ t476 true _ ?side1 ?side2 ?side3 ?side4 A272.out).mono ?_); (case side1 => repeat (first | exact (Kd.R_reads' HO533.out).2.2 | (with_reducible refine Kd.C_alloc ?_ _) | (with_reducible refine Kd.C_drewN ?_ _) | (with_reducible refine Kd.C_drew ?_))); (case side2 => exact (Kd.R_reads' HO533.out).2.1); (case side3 => repeat (first | exact (Kd.R_reads' HO_11.out).2.2 | (with_reducible refine Kd.C_alloc ?_ _) | (with_reducible refine Kd.C_drewN ?_ _) | (with_reducible refine Kd.C_drew ?_))); (case side4 => exact (Kd.R_reads' HO_11.out).2.1); rintro e w' ⟨rfl, ⟨nd, rfl⟩⟩))
          go_meet
          case rel =>
           refine ⟨_, H', ⟨by have := HJ13.out; have := HJ111.out; have := HK3.out; first | omega | exact Nat.le_refl _⟩, ⟨by (with_reducible repeat (first | apply Kd.R_alloc | apply Kd.R_drewN | apply Kd.R_drew)); exact Kd.R_mono HO_23.out (fun _ hk => ⟨hk.1.2.2.1, ⟨hk.1.2.2.2.1, hk.1.2.2.2.2⟩⟩)⟩, ⟨?_⟩, ⟨?_⟩, ⟨?_⟩, ⟨?_⟩, ⟨?_⟩, ⟨?_⟩, ⟨?_⟩, ⟨by repeat (first | (with_reducible first | exact HB.out | apply bA | apply bN | apply bD | refine bX ?_ (by assumption)) | exact HB.out)⟩⟩
           all_goals ((with_reducible repeat (first | refine kN ?_ _ | refine kD ?_ | refine kA ?_ _)); exact Aside0.out (by assumption))
        replace c273 := Bool.eq_false_iff.mpr c273
        subst c273
        have H1 : (some false) = some r := by rw [if_neg (show ¬ (false = true) by decide)] at H; exact H
        clear H
        have H := H1
        clear H1
        as_aux_lemma =>
         exact absurd ((Option.some.inj H).trans hlaw.out) (by decide)
       replace c271 := Bool.eq_false_iff.mpr c271
       subst c271
       have H1 : (some false) = some r := by rw [if_neg (show ¬ (false = true) by decide)] at H; exact H
       clear H
       have H := H1
       clear H1
       as_aux_lemma =>
        exact absurd ((Option.some.inj H).trans hlaw.out) (by decide)
   replace c111 := Bool.eq_false_iff.mpr c111
   subst c111
   have H1 : (laws_FnHandsMeetOfAll.j4 kj13 t484 t496 t499 a2_0 a2_1 a2_2 a3_0 a3_1 a3_2 a4_0 a4_1) = some r := by rw [if_neg (show ¬ (false = true) by decide)] at H; exact H
   clear H
   have H := H1
   clear H1
   as_aux_lemma =>
    have H' := Am H
    clear H
    go_wp2
    go_meet
    case rel =>
     refine ⟨_, H', ⟨by have := HJ13.out; first | omega | exact Nat.le_refl _⟩, ⟨by (with_reducible repeat (first | apply Kd.R_alloc | apply Kd.R_drewN | apply Kd.R_drew)); exact Kd.R_mono HO_23.out (fun _ hk => ⟨hk.2.1, ⟨hk.2.2.1, hk.2.2.2⟩⟩)⟩, ⟨?_⟩, ⟨?_⟩, ⟨?_⟩, ⟨?_⟩, ⟨?_⟩, ⟨?_⟩, ⟨?_⟩, ⟨by repeat (first | (with_reducible first | exact HB.out | apply bA | apply bN | apply bD | refine bX ?_ (by assumption)) | exact HB.out)⟩⟩
     all_goals ((with_reducible repeat (first | refine kN ?_ _ | refine kD ?_ | refine kA ?_ _)); exact Aside0.out (by assumption))
  clear HC110
  (try clear c20); (try clear c21)
  obtain ⟨kq, HA, HJ109, HO_23, BK471, BK472, BK473, BK474, BK475, BK491, BK495, HB⟩ := hcut
  cases kq with
  | zero => exact absurd HA.out (by simp [laws_FnHandsMeetOfAll.j4])
  | succ kj109 =>
   have H := HA.out
   clear HA
   simp only [laws_FnHandsMeetOfAll.j4] at H
   have HC289 := Am H
   clear H
   go_upto_region 28 with (fail)
   go_cut [277] from 187 to 276 (fun v277 wc => ∃ (kq : Nat) (x277_288 : Bool), v277 = .bool x277_288 ∧ Aside0 (laws_FnHandsMeetOfAll.j5 kq x277_288 a2_0 a2_1 a2_2 a3_0 a3_1 a3_2 a4_0 a4_1 = some r) ∧ Aside0 (kq ≤ kj109) ∧ Aside0 (wc.heap[gb471]? = some (.cells #[.int .i64 a0_0, .int .i64 a0_1, .int .i64 a0_2] 25 (0, 0))) ∧ Aside0 (wc.heap[gb472]? = some (.cells #[.int .i64 a1_0, .int .i64 a1_1, .int .i64 a1_2] 25 (0, 0))) ∧ Aside0 (wc.heap[gb473]? = some (.cells #[.int .i64 a2_0, .int .i64 a2_1, .int .i64 a2_2] 25 (0, 0))) ∧ Aside0 (wc.heap[gb474]? = some (.cells #[.int .i64 a3_0, .int .i64 a3_1, .int .i64 a3_2] 25 (0, 0))) ∧ Aside0 (wc.heap[gb475]? = some (.cells #[.int .i64 a4_0, .int .i64 a4_1] 23 (0, 0))) ∧ Aside0 (wc.heap[gb491]? = some (.cells #[.int .i64 t488, .int .i64 t489] 23 (0, 0))) ∧ Aside0 (wc.heap[gb495]? = some (.cells #[.int .i64 t492, .int .i64 t493] 23 (0, 0))) ∧ Aside0 (Below w.heap.size w wc))
   case first =>
    have H := HC289.out
    clear HC289
    by_cases c290 : t499 = true
    ·subst c290
     have H1 : ((laws_kRises.f kj109 t496).bind fun t536 => (if t536 = true then (if (t496.length : Int) < 1 then (laws_FnHandsMeetOfAll.j5 kj109 true a2_0 a2_1 a2_2 a3_0 a3_1 a3_2 a4_0 a4_1) else (laws_FnHandsMeetOfAll.j5 kj109 (decide ((t496.length : Int) > t484)) a2_0 a2_1 a2_2 a3_0 a3_1 a3_2 a4_0 a4_1)) else (laws_FnHandsMeetOfAll.j5 kj109 true a2_0 a2_1 a2_2 a3_0 a3_1 a3_2 a4_0 a4_1))) = some r := by rw [if_pos rfl] at H; exact H
     clear H
     have H := H1
     clear H1
     replace H := Option.bind_eq_some_iff.mp H
     obtain ⟨t536, A2910, H⟩ := H
     try dsimp only at H
     have A291 := Am A2910
     clear A2910
     by_cases c292 : t536 = true
     ·subst c292
      have H1 : (if (t496.length : Int) < 1 then (laws_FnHandsMeetOfAll.j5 kj109 true a2_0 a2_1 a2_2 a3_0 a3_1 a3_2 a4_0 a4_1) else (laws_FnHandsMeetOfAll.j5 kj109 (decide ((t496.length : Int) > t484)) a2_0 a2_1 a2_2 a3_0 a3_1 a3_2 a4_0 a4_1)) = some r := by rw [if_pos rfl] at H; exact H
      clear H
      have H := H1
      clear H1
      by_cases c293 : (t496.length : Int) < 1
      ·rw [if_pos c293] at H
       have c293b0 : decide ((t496.length : Int) < 1) = true := decide_eq_true c293
       have c293b1 : decide (t496.length < 1) = true := decide_eq_true (by omega)
       clear c293
       (first | rw [c293b0] | (simp only [i64_w, i32_w]; rw [c293b0]) | skip)
       as_aux_lemma =>
        exact absurd ((laws_FnHandsMeetOfAll.j5_no H).symm.trans hlaw.out) (by decide)
      rw [if_neg c293] at H
      have c293b0 : decide ((t496.length : Int) < 1) = false := decide_eq_false c293
      have c293b1 : decide (t496.length < 1) = false := decide_eq_false (by omega)
      clear c293
      (first | rw [c293b0] | (simp only [i64_w, i32_w]; rw [c293b0]) | skip)
      as_aux_lemma =>
       have H' := Am H
       clear H
       obtain ⟨Ao294, co294, eo294⟩ := Kd.R_slice HO_23.out
       subst eo294
       go_wp2_with (first | (go_at_call 16; (with_reducible refine (laws_kRises.calls kj109 _ _ t496 true _ ?side1 ?side2 A291.out).mono ?_); (case side1 => repeat (first | exact (Kd.R_reads' HO_23.out).2.2 | (with_reducible refine Kd.C_alloc ?_ _) | (with_reducible refine Kd.C_drewN ?_ _) | (with_reducible refine Kd.C_drew ?_))); (case side2 => exact (Kd.R_reads' HO_23.out).2.1); rintro e w' ⟨rfl, ⟨nd, rfl⟩⟩))
       go_meet
       case rel =>
        refine ⟨_, (decide ((t496.length : Int) > t484)), (by first | rfl | (simp; done) | (simp [*]; done)), H', ⟨by have := HJ13.out; have := HJ109.out; first | omega | exact Nat.le_refl _⟩, ⟨?_⟩, ⟨?_⟩, ⟨?_⟩, ⟨?_⟩, ⟨?_⟩, ⟨?_⟩, ⟨?_⟩, ⟨by repeat (first | (with_reducible first | exact HB.out | apply bA | apply bN | apply bD | refine bX ?_ (by assumption)) | exact HB.out)⟩⟩
        all_goals ((with_reducible repeat (first | refine kN ?_ _ | refine kD ?_ | refine kA ?_ _)); exact Aside0.out (by assumption))
     replace c292 := Bool.eq_false_iff.mpr c292
     subst c292
     have H1 : (laws_FnHandsMeetOfAll.j5 kj109 true a2_0 a2_1 a2_2 a3_0 a3_1 a3_2 a4_0 a4_1) = some r := by rw [if_neg (show ¬ (false = true) by decide)] at H; exact H
     clear H
     have H := H1
     clear H1
     as_aux_lemma =>
      exact absurd ((laws_FnHandsMeetOfAll.j5_no H).symm.trans hlaw.out) (by decide)
    replace c290 := Bool.eq_false_iff.mpr c290
    subst c290
    have H1 : (laws_FnHandsMeetOfAll.j5 kj109 false a2_0 a2_1 a2_2 a3_0 a3_1 a3_2 a4_0 a4_1) = some r := by rw [if_neg (show ¬ (false = true) by decide)] at H; exact H
    clear H
    have H := H1
    clear H1
    as_aux_lemma =>
     have H' := Am H
     clear H
     go_wp2
     go_meet
     case rel =>
      refine ⟨_, (false), (by first | rfl | (simp; done) | (simp [*]; done)), H', ⟨by have := HJ13.out; have := HJ109.out; first | omega | exact Nat.le_refl _⟩, ⟨?_⟩, ⟨?_⟩, ⟨?_⟩, ⟨?_⟩, ⟨?_⟩, ⟨?_⟩, ⟨?_⟩, ⟨by repeat (first | (with_reducible first | exact HB.out | apply bA | apply bN | apply bD | refine bX ?_ (by assumption)) | exact HB.out)⟩⟩
      all_goals ((with_reducible repeat (first | refine kN ?_ _ | refine kD ?_ | refine kA ?_ _)); exact Aside0.out (by assumption))
   clear HC289
   (try clear c20); (try clear c21)
   obtain ⟨kq, x277_288, rfl, HA, HJ288, BK471, BK472, BK473, BK474, BK475, BK491, BK495, HB⟩ := hcut
   cases kq with
   | zero => exact absurd HA.out (by simp [laws_FnHandsMeetOfAll.j5])
   | succ kj288 =>
    have H := HA.out
    clear HA
    simp only [laws_FnHandsMeetOfAll.j5] at H
    by_cases c295 : x277_288 = true
    ·subst c295
     have H1 : (some false) = some r := by rw [if_pos rfl] at H; exact H
     clear H
     have H := H1
     clear H1
     as_aux_lemma =>
      exact absurd ((Option.some.inj H).trans hlaw.out) (by decide)
    replace c295 := Bool.eq_false_iff.mpr c295
    subst c295
    have H1 : ((impl_NextMeet.f kj288 a2_0 a2_1 a2_2 a3_0 a3_1 a3_2 a4_0 a4_1).bind fun bt537 => ((spec_NextMeet.f kj288 a2_0 a2_1 a2_2 a3_0 a3_1 a3_2 a4_0 a4_1).bind fun bt541 => (if (bt537.2.2 != bt541.2.2) = true then (laws_FnHandsMeetOfAll.j6 kj288 bt537.2.2 true a2_0 a2_1 a2_2 a3_0 a3_1 a3_2 a4_0 a4_1 bt537.1 bt537.2.1) else (laws_FnHandsMeetOfAll.j6 kj288 bt537.2.2 (!(bt537.1 == bt541.1) || (!(bt537.2.1 == bt541.2.1))) a2_0 a2_1 a2_2 a3_0 a3_1 a3_2 a4_0 a4_1 bt537.1 bt537.2.1)))) = some r := by rw [if_neg (show ¬ (false = true) by decide)] at H; exact H
    clear H
    have H := H1
    clear H1
    replace H := Option.bind_eq_some_iff.mp H
    obtain ⟨⟨t537, t538, t539⟩, A2960, H⟩ := H
    try dsimp only at H
    have A296 := Am A2960
    clear A2960
    replace H := Option.bind_eq_some_iff.mp H
    obtain ⟨⟨t541, t542, t543⟩, A2970, H⟩ := H
    try dsimp only at H
    have A297 := Am A2970
    clear A2970
    have HC298 := Am H
    clear H
    have nq299 := kO NB473_471; have nq300 := kO NB473_472; have nq301 := kO NB473_474; have nq302 := kO NB473_475; have nq303 := kO NB473_491; have nq304 := kO NB473_495
    have zq305 := c3 BK473
    have nq306 := kO NB474_471; have nq307 := kO NB474_472; have nq308 := kO NB474_475; have nq309 := kO NB474_491; have nq310 := kO NB474_495
    have zq311 := c3 BK474
    have nq312 := kO NB475_471; have nq313 := kO NB475_472; have nq314 := kO NB475_491; have nq315 := kO NB475_495
    have zq316 := c2 BK475
    go_upto_region 32 with (first | ((with_reducible refine gate_callee (f := 19) rfl ?_); refine gL (some 282) Try.func19 #[.agg #[.int .i64 a2_0, .int .i64 a2_1, .int .i64 a2_2], .agg #[.int .i64 a3_0, .int .i64 a3_1, .int .i64 a3_2], .agg #[.int .i64 a4_0, .int .i64 a4_1]] rfl ?_; (with_reducible refine (impl_NextMeet.calls kj288 a2_0 a2_1 a2_2 a3_0 a3_1 a3_2 a4_0 a4_1 t537 t538 t539 _ A296.out).mono ?_); rintro e w317 ⟨rfl, hb⟩; refine ⟨_, rfl, ?_⟩; have hp0 := pA BK471 hb; have hv := vK HB hb; have n7_ := Am (bT hv hb); clear HB; replace BK471 := hp0 BK471; replace BK472 := hp0 BK472; replace BK473 := hp0 BK473; replace BK474 := hp0 BK474; replace BK475 := hp0 BK475; replace BK491 := hp0 BK491; replace BK495 := hp0 BK495; have HB := n7_; clear n7_ hp0 hv; (try clear hb)) | ((with_reducible refine gate_dst (N := 37) rfl ?_); (try (refine gate_guard (by rfl) ?_; dsimp only)); refine bE 37 #[.int .i64 0, .int .i64 0] 23 ?_; intro gb540 hg w318 hbox hb; have hp0 := pA BK471 hb; have hv := vK HB hb; have n7_ := Am (bT hv hb); have n8_ := Am (hbox); have GE540 := kG hg hv; have hp1 := pK BK471 hb; obtain ⟨NB471_540, NB540_471⟩ := kXY hg hp1 BK471; obtain ⟨NB472_540, NB540_472⟩ := kXY hg hp1 BK472; obtain ⟨NB473_540, NB540_473⟩ := kXY hg hp1 BK473; obtain ⟨NB474_540, NB540_474⟩ := kXY hg hp1 BK474; obtain ⟨NB475_540, NB540_475⟩ := kXY hg hp1 BK475; obtain ⟨NB491_540, NB540_491⟩ := kXY hg hp1 BK491; obtain ⟨NB495_540, NB540_495⟩ := kXY hg hp1 BK495; clear HB; replace BK471 := hp0 BK471; replace BK472 := hp0 BK472; replace BK473 := hp0 BK473; replace BK474 := hp0 BK474; replace BK475 := hp0 BK475; replace BK491 := hp0 BK491; replace BK495 := hp0 BK495; have HB := n7_; have BK540 := n8_; clear n7_ n8_ hp0 hp1 hv; clear hb hbox hg; have nq319 := kO NB540_471; have nq320 := kO NB540_472; have nq321 := kO NB540_473; have nq322 := kO NB540_474; have nq323 := kO NB540_475; have nq324 := kO NB540_491; have nq325 := kO NB540_495; have zq326 := c2 BK540; have zq327 := c3 BK473; have zq328 := c3 BK474; have zq329 := c2 BK475) | ((with_reducible refine gate_callee (f := 20) rfl ?_); refine gL (some 289) Try.func20 #[.agg #[.int .i64 a2_0, .int .i64 a2_1, .int .i64 a2_2], .agg #[.int .i64 a3_0, .int .i64 a3_1, .int .i64 a3_2], .agg #[.int .i64 a4_0, .int .i64 a4_1]] rfl ?_; (with_reducible refine (spec_NextMeet.calls kj288 a2_0 a2_1 a2_2 a3_0 a3_1 a3_2 a4_0 a4_1 t541 t542 t543 _ A297.out).mono ?_); rintro e w330 ⟨rfl, hb⟩; refine ⟨_, rfl, ?_⟩; have hp0 := pB gb540 BK471 hb; have n7_ := Am (kB (g := gb540) (o := .cells #[.int .i64 t537, .int .i64 t538] 23 (0, 0)) (by (with_reducible repeat (first | refine kN ?_ _ | refine kD ?_ | refine kA ?_ _)); refine kP (cs := #[.int .i64 t537, .int .i64 0]) ?_ 1 _ rfl; (with_reducible repeat (first | refine kN ?_ _ | refine kD ?_ | refine kA ?_ _)); refine kP (cs := #[.int .i64 0, .int .i64 0]) ?_ 0 _ rfl; (with_reducible repeat (first | refine kN ?_ _ | refine kD ?_ | refine kA ?_ _)); exact BK540.out) hb); have hv := vK HB hb; have n8_ := Am (bT hv hb); clear BK540; clear HB; replace BK471 := hp0 NB471_540 BK471; replace BK472 := hp0 NB472_540 BK472; replace BK473 := hp0 NB473_540 BK473; replace BK474 := hp0 NB474_540 BK474; replace BK475 := hp0 NB475_540 BK475; replace BK491 := hp0 NB491_540 BK491; replace BK495 := hp0 NB495_540 BK495; have BK540 := n7_; have HB := n8_; clear n7_ n8_ hp0 hv; (try clear hb)) | ((with_reducible refine gate_dst (N := 39) rfl ?_); (try (refine gate_guard (by rfl) ?_; dsimp only)); refine bE 39 #[.int .i64 0, .int .i64 0] 23 ?_; intro gb544 hg w331 hbox hb; have hp0 := pA BK471 hb; have hv := vK HB hb; have n8_ := Am (bT hv hb); have n9_ := Am (hbox); have GE544 := kG hg hv; have hp1 := pK BK471 hb; obtain ⟨NB471_544, NB544_471⟩ := kXY hg hp1 BK471; obtain ⟨NB472_544, NB544_472⟩ := kXY hg hp1 BK472; obtain ⟨NB473_544, NB544_473⟩ := kXY hg hp1 BK473; obtain ⟨NB474_544, NB544_474⟩ := kXY hg hp1 BK474; obtain ⟨NB475_544, NB544_475⟩ := kXY hg hp1 BK475; obtain ⟨NB491_544, NB544_491⟩ := kXY hg hp1 BK491; obtain ⟨NB495_544, NB544_495⟩ := kXY hg hp1 BK495; obtain ⟨NB540_544, NB544_540⟩ := kXY hg hp1 BK540; clear HB; replace BK471 := hp0 BK471; replace BK472 := hp0 BK472; replace BK473 := hp0 BK473; replace BK474 := hp0 BK474; replace BK475 := hp0 BK475; replace BK491 := hp0 BK491; replace BK495 := hp0 BK495; replace BK540 := hp0 BK540; have HB := n8_; have BK544 := n9_; clear n8_ n9_ hp0 hp1 hv; clear hb hbox hg; have nq332 := kO NB544_471; have nq333 := kO NB544_472; have nq334 := kO NB544_473; have nq335 := kO NB544_474; have nq336 := kO NB544_475; have nq337 := kO NB544_491; have nq338 := kO NB544_495; have nq339 := kO NB544_540; have zq340 := c2 BK544))
    (try simp only [Act.put, List.setIfInBounds_toArray, List.set_cons_zero, List.set_cons_succ])
    go_cut [299] from 278 to 298 (fun v299 wc => ∃ (kq : Nat) (x299_297 : Bool), v299 = .bool x299_297 ∧ Aside0 (laws_FnHandsMeetOfAll.j6 kq t539 x299_297 a2_0 a2_1 a2_2 a3_0 a3_1 a3_2 a4_0 a4_1 t537 t538 = some r) ∧ Aside0 (kq ≤ kj288) ∧ Aside0 (wc.heap[gb471]? = some (.cells #[.int .i64 a0_0, .int .i64 a0_1, .int .i64 a0_2] 25 (0, 0))) ∧ Aside0 (wc.heap[gb472]? = some (.cells #[.int .i64 a1_0, .int .i64 a1_1, .int .i64 a1_2] 25 (0, 0))) ∧ Aside0 (wc.heap[gb473]? = some (.cells #[.int .i64 a2_0, .int .i64 a2_1, .int .i64 a2_2] 25 (0, 0))) ∧ Aside0 (wc.heap[gb474]? = some (.cells #[.int .i64 a3_0, .int .i64 a3_1, .int .i64 a3_2] 25 (0, 0))) ∧ Aside0 (wc.heap[gb475]? = some (.cells #[.int .i64 a4_0, .int .i64 a4_1] 23 (0, 0))) ∧ Aside0 (wc.heap[gb491]? = some (.cells #[.int .i64 t488, .int .i64 t489] 23 (0, 0))) ∧ Aside0 (wc.heap[gb495]? = some (.cells #[.int .i64 t492, .int .i64 t493] 23 (0, 0))) ∧ Aside0 (wc.heap[gb540]? = some (.cells #[.int .i64 t537, .int .i64 t538] 23 (0, 0))) ∧ Aside0 (wc.heap[gb544]? = some (.cells #[.int .i64 t541, .int .i64 t542] 23 (0, 0))) ∧ Aside0 (Below w.heap.size w wc))
    case first =>
     have H := HC298.out
     clear HC298
     by_cases c341 : (t539 != t543) = true
     ·rw [if_pos c341] at H
      have c341b0 : (t539 != t543) = true := c341
      (try (have c341b1 : decide (t539 = t543) = false := by simpa using c341))
      (try (have c341b2 : (t539 == t543) = false := by simpa using c341))
      (try (have c341b3 : ¬ (t539 = t543) := by simpa using c341))
      clear c341
      (first | rw [c341b0] | (simp only [i64_w, i32_w]; rw [c341b0]) | skip)
      as_aux_lemma =>
       exact absurd ((laws_FnHandsMeetOfAll.j6_no H).symm.trans hlaw.out) (by decide)
     rw [if_neg c341] at H
     have c341b0 : (t539 != t543) = false := by simpa using c341
     (try (have c341b1 : decide (t539 = t543) = true := by simpa using c341))
     (try (have c341b2 : (t539 == t543) = true := by simpa using c341))
     clear c341
     (first | rw [c341b0] | (simp only [i64_w, i32_w]; rw [c341b0]) | skip)
     as_aux_lemma =>
      have H' := Am H
      clear H
      have nq342 := kO NB540_471; have nq343 := kO NB540_472; have nq344 := kO NB540_473; have nq345 := kO NB540_474; have nq346 := kO NB540_475; have nq347 := kO NB540_491; have nq348 := kO NB540_495; have nq349 := kO NB540_544
      have zq350 := c2 BK540
      have nq351 := kO NB544_471; have nq352 := kO NB544_472; have nq353 := kO NB544_473; have nq354 := kO NB544_474; have nq355 := kO NB544_475; have nq356 := kO NB544_491; have nq357 := kO NB544_495
      have zq358 := c2 BK544
      go_wp2
      go_meet
      case rel => exact ⟨_, ((!(t537 == t541) || (!(t538 == t542)))), (by first | rfl | (simp; done) | (simp [*]; done)), H', ⟨by have := HJ13.out; have := HJ109.out; have := HJ288.out; first | omega | exact Nat.le_refl _⟩, ⟨by (with_reducible repeat (first | refine kN ?_ _ | refine kD ?_ | refine kA ?_ _)); refine kR ?_ NB471_544.out _; (with_reducible repeat (first | refine kN ?_ _ | refine kD ?_ | refine kA ?_ _)); refine kR ?_ NB471_544.out _; (with_reducible repeat (first | refine kN ?_ _ | refine kD ?_ | refine kA ?_ _)); exact BK471.out⟩, ⟨by (with_reducible repeat (first | refine kN ?_ _ | refine kD ?_ | refine kA ?_ _)); refine kR ?_ NB472_544.out _; (with_reducible repeat (first | refine kN ?_ _ | refine kD ?_ | refine kA ?_ _)); refine kR ?_ NB472_544.out _; (with_reducible repeat (first | refine kN ?_ _ | refine kD ?_ | refine kA ?_ _)); exact BK472.out⟩, ⟨by (with_reducible repeat (first | refine kN ?_ _ | refine kD ?_ | refine kA ?_ _)); refine kR ?_ NB473_544.out _; (with_reducible repeat (first | refine kN ?_ _ | refine kD ?_ | refine kA ?_ _)); refine kR ?_ NB473_544.out _; (with_reducible repeat (first | refine kN ?_ _ | refine kD ?_ | refine kA ?_ _)); exact BK473.out⟩, ⟨by (with_reducible repeat (first | refine kN ?_ _ | refine kD ?_ | refine kA ?_ _)); refine kR ?_ NB474_544.out _; (with_reducible repeat (first | refine kN ?_ _ | refine kD ?_ | refine kA ?_ _)); refine kR ?_ NB474_544.out _; (with_reducible repeat (first | refine kN ?_ _ | refine kD ?_ | refine kA ?_ _)); exact BK474.out⟩, ⟨by (with_reducible repeat (first | refine kN ?_ _ | refine kD ?_ | refine kA ?_ _)); refine kR ?_ NB475_544.out _; (with_reducible repeat (first | refine kN ?_ _ | refine kD ?_ | refine kA ?_ _)); refine kR ?_ NB475_544.out _; (with_reducible repeat (first | refine kN ?_ _ | refine kD ?_ | refine kA ?_ _)); exact BK475.out⟩, ⟨by (with_reducible repeat (first | refine kN ?_ _ | refine kD ?_ | refine kA ?_ _)); refine kR ?_ NB491_544.out _; (with_reducible repeat (first | refine kN ?_ _ | refine kD ?_ | refine kA ?_ _)); refine kR ?_ NB491_544.out _; (with_reducible repeat (first | refine kN ?_ _ | refine kD ?_ | refine kA ?_ _)); exact BK491.out⟩, ⟨by (with_reducible repeat (first | refine kN ?_ _ | refine kD ?_ | refine kA ?_ _)); refine kR ?_ NB495_544.out _; (with_reducible repeat (first | refine kN ?_ _ | refine kD ?_ | refine kA ?_ _)); refine kR ?_ NB495_544.out _; (with_reducible repeat (first | refine kN ?_ _ | refine kD ?_ | refine kA ?_ _)); exact BK495.out⟩, ⟨by (with_reducible repeat (first | refine kN ?_ _ | refine kD ?_ | refine kA ?_ _)); refine kR ?_ NB540_544.out _; (with_reducible repeat (first | refine kN ?_ _ | refine kD ?_ | refine kA ?_ _)); refine kR ?_ NB540_544.out _; (with_reducible repeat (first | refine kN ?_ _ | refine kD ?_ | refine kA ?_ _)); exact BK540.out⟩, ⟨by (with_reducible repeat (first | refine kN ?_ _ | refine kD ?_ | refine kA ?_ _)); refine kP (cs := #[.int .i64 t541, .int .i64 0]) ?_ 1 _ rfl; (with_reducible repeat (first | refine kN ?_ _ | refine kD ?_ | refine kA ?_ _)); refine kP (cs := #[.int .i64 0, .int .i64 0]) ?_ 0 _ rfl; (with_reducible repeat (first | refine kN ?_ _ | refine kD ?_ | refine kA ?_ _)); exact BK544.out⟩, ⟨by repeat (first | (with_reducible first | exact HB.out | apply bA | apply bN | apply bD | refine bX ?_ (by assumption)) | exact HB.out)⟩⟩
    clear HC298
    (try clear c20); (try clear c21); (try clear c30); (try clear c31); (try clear c32); (try clear c295); (try clear zq305); (try clear zq311); (try clear zq316); (try clear zq326); (try clear zq327); (try clear zq328); (try clear zq329); (try clear zq340)
    obtain ⟨kq, x299_297, rfl, HA, HJ297, BK471, BK472, BK473, BK474, BK475, BK491, BK495, BK540, BK544, HB⟩ := hcut
    cases kq with
    | zero => exact absurd HA.out (by simp [laws_FnHandsMeetOfAll.j6])
    | succ kj297 =>
     have H := HA.out
     clear HA
     simp only [laws_FnHandsMeetOfAll.j6] at H
     by_cases c359 : x299_297 = true
     ·subst c359
      have H1 : (some false) = some r := by rw [if_pos rfl] at H; exact H
      clear H
      have H := H1
      clear H1
      as_aux_lemma =>
       exact absurd ((Option.some.inj H).trans hlaw.out) (by decide)
     replace c359 := Bool.eq_false_iff.mpr c359
     subst c359
     have H1 : (if t539 = true then ((impl_MeetTimes.f kj297 a2_0 a2_1 a2_2 a3_0 a3_1 a3_2).bind fun bt545 => (if bt545.2 = true then ((laws_kIn.f kj297 bt545.1 t537 t538).bind fun t549 => (laws_FnHandsMeetOfAll.j7 kj297 bt545.1 (!t549) a4_0 a4_1 t537 t538)) else (laws_FnHandsMeetOfAll.j7 kj297 bt545.1 true a4_0 a4_1 t537 t538))) else (some true)) = some r := by rw [if_neg (show ¬ (false = true) by decide)] at H; exact H
     clear H
     have H := H1
     clear H1
     by_cases c360 : t539 = true
     ·subst c360
      have H1 : ((impl_MeetTimes.f kj297 a2_0 a2_1 a2_2 a3_0 a3_1 a3_2).bind fun bt545 => (if bt545.2 = true then ((laws_kIn.f kj297 bt545.1 t537 t538).bind fun t549 => (laws_FnHandsMeetOfAll.j7 kj297 bt545.1 (!t549) a4_0 a4_1 t537 t538)) else (laws_FnHandsMeetOfAll.j7 kj297 bt545.1 true a4_0 a4_1 t537 t538))) = some r := by rw [if_pos rfl] at H; exact H
      clear H
      have H := H1
      clear H1
      replace H := Option.bind_eq_some_iff.mp H
      obtain ⟨⟨t545, t548⟩, A3610, H⟩ := H
      try dsimp only at H
      have A361 := Am A3610
      clear A3610
      have HC362 := Am H
      clear H
      have nq363 := kO NB473_471; have nq364 := kO NB473_472; have nq365 := kO NB473_474; have nq366 := kO NB473_475; have nq367 := kO NB473_491; have nq368 := kO NB473_495; have nq369 := kO NB473_540; have nq370 := kO NB473_544
      have zq371 := c3 BK473
      have nq372 := kO NB474_471; have nq373 := kO NB474_472; have nq374 := kO NB474_475; have nq375 := kO NB474_491; have nq376 := kO NB474_495; have nq377 := kO NB474_540; have nq378 := kO NB474_544
      have zq379 := c3 BK474
      go_upto_region 36 with (first | ((with_reducible refine gate_callee (f := 4) rfl ?_); refine gL (some 304) Try.func4 #[.agg #[.int .i64 a2_0, .int .i64 a2_1, .int .i64 a2_2], .agg #[.int .i64 a3_0, .int .i64 a3_1, .int .i64 a3_2]] rfl ?_; (with_reducible refine (impl_MeetTimes.calls kj297 a2_0 a2_1 a2_2 a3_0 a3_1 a3_2 t545 t548 _ A361.out).mono ?_); rintro e w380 ⟨v546, rfl, ho0, hb⟩; refine ⟨_, rfl, ?_⟩; have n0_ := Am (Kd.R_lower (Kd.R_newB (Kd.R_newB (Kd.R_newB (Kd.R_newB (Kd.R_newB ho0 (g := gb475) (o := .cells #[.int .i64 a4_0, .int .i64 a4_1] 23 (0, 0)) (kU BK475)) (g := gb491) (o := .cells #[.int .i64 t488, .int .i64 t489] 23 (0, 0)) (kU BK491)) (g := gb495) (o := .cells #[.int .i64 t492, .int .i64 t493] 23 (0, 0)) (kU BK495)) (g := gb540) (o := .cells #[.int .i64 t537, .int .i64 t538] 23 (0, 0)) (kU BK540)) (g := gb544) (o := .cells #[.int .i64 t541, .int .i64 t542] 23 (0, 0)) (kU BK544)) (bZ (by repeat (first | (with_reducible first | exact HB.out | apply bA | apply bN | apply bD | refine bX ?_ (by assumption)) | exact HB.out)))); have hp0 := pA BK471 hb; have hv := vK HB hb; have n10_ := Am (bT hv hb); clear HB; have HO547 := n0_; replace BK471 := hp0 BK471; replace BK472 := hp0 BK472; replace BK473 := hp0 BK473; replace BK474 := hp0 BK474; replace BK475 := hp0 BK475; replace BK491 := hp0 BK491; replace BK495 := hp0 BK495; replace BK540 := hp0 BK540; replace BK544 := hp0 BK544; have HB := n10_; clear n0_ n10_ hp0 hv; (try clear hb); (try clear ho0)))
      (try simp only [Act.put, List.setIfInBounds_toArray, List.set_cons_zero, List.set_cons_succ])
      go_cut [314] from 300 to 313 (fun v314 wc => ∃ (kq : Nat) (x314_361 : Bool), v314 = .bool x314_361 ∧ Aside0 (laws_FnHandsMeetOfAll.j7 kq t545 x314_361 a4_0 a4_1 t537 t538 = some r) ∧ Aside0 (kq ≤ kj297) ∧ Aside0 (Kd.R k23 23 wc w.heap.size (fun k_ => k_ ≠ gb475 ∧ k_ ≠ gb491 ∧ k_ ≠ gb495 ∧ k_ ≠ gb540 ∧ k_ ≠ gb544) v546 t545) ∧ Aside0 (wc.heap[gb471]? = some (.cells #[.int .i64 a0_0, .int .i64 a0_1, .int .i64 a0_2] 25 (0, 0))) ∧ Aside0 (wc.heap[gb472]? = some (.cells #[.int .i64 a1_0, .int .i64 a1_1, .int .i64 a1_2] 25 (0, 0))) ∧ Aside0 (wc.heap[gb473]? = some (.cells #[.int .i64 a2_0, .int .i64 a2_1, .int .i64 a2_2] 25 (0, 0))) ∧ Aside0 (wc.heap[gb474]? = some (.cells #[.int .i64 a3_0, .int .i64 a3_1, .int .i64 a3_2] 25 (0, 0))) ∧ Aside0 (wc.heap[gb475]? = some (.cells #[.int .i64 a4_0, .int .i64 a4_1] 23 (0, 0))) ∧ Aside0 (wc.heap[gb491]? = some (.cells #[.int .i64 t488, .int .i64 t489] 23 (0, 0))) ∧ Aside0 (wc.heap[gb495]? = some (.cells #[.int .i64 t492, .int .i64 t493] 23 (0, 0))) ∧ Aside0 (wc.heap[gb540]? = some (.cells #[.int .i64 t537, .int .i64 t538] 23 (0, 0))) ∧ Aside0 (wc.heap[gb544]? = some (.cells #[.int .i64 t541, .int .i64 t542] 23 (0, 0))) ∧ Aside0 (Below w.heap.size w wc))
      case first =>
       have H := HC362.out
       clear HC362
       by_cases c381 : t548 = true
       ·subst c381
        have H1 : ((laws_kIn.f kj297 t545 t537 t538).bind fun t549 => (laws_FnHandsMeetOfAll.j7 kj297 t545 (!t549) a4_0 a4_1 t537 t538)) = some r := by rw [if_pos rfl] at H; exact H
        clear H
        have H := H1
        clear H1
        replace H := Option.bind_eq_some_iff.mp H
        obtain ⟨t549, A3820, H⟩ := H
        try dsimp only at H
        have A382 := Am A3820
        clear A3820
        as_aux_lemma =>
         have H' := Am H
         clear H
         have nq383 := kO NB540_471; have nq384 := kO NB540_472; have nq385 := kO NB540_473; have nq386 := kO NB540_474; have nq387 := kO NB540_475; have nq388 := kO NB540_491; have nq389 := kO NB540_495; have nq390 := kO NB540_544
         have zq391 := c2 BK540
         obtain ⟨Ao392, co392, eo392⟩ := Kd.R_slice HO547.out
         subst eo392
         go_wp2_with (first | (go_at_call 18; (with_reducible refine (laws_kIn.calls kj297 _ _ t545 t537 t538 t549 _ ?side1 ?side2 A382.out).mono ?_); (case side1 => repeat (first | exact (Kd.R_reads' HO547.out).2.2 | (with_reducible refine Kd.C_alloc ?_ _) | (with_reducible refine Kd.C_drewN ?_ _) | (with_reducible refine Kd.C_drew ?_))); (case side2 => exact (Kd.R_reads' HO547.out).2.1); rintro e w393 ⟨rfl, hb⟩; have n0_ := Am (Kd.R_below (kW HO547) hb); have hp0 := pA BK471 hb; have hv := vK HB hb; have n10_ := Am (bT hv hb); clear HO547; clear HB; have HO547 := n0_; replace BK471 := hp0 BK471; replace BK472 := hp0 BK472; replace BK473 := hp0 BK473; replace BK474 := hp0 BK474; replace BK475 := hp0 BK475; replace BK491 := hp0 BK491; replace BK495 := hp0 BK495; replace BK540 := hp0 BK540; replace BK544 := hp0 BK544; have HB := n10_; clear n0_ n10_ hp0 hv; (try clear hb)))
         go_meet
         case rel =>
          refine ⟨_, (!t549), (by first | rfl | (simp; done) | (simp [*]; done)), H', ⟨by have := HJ13.out; have := HJ109.out; have := HJ288.out; have := HJ297.out; first | omega | exact Nat.le_refl _⟩, ⟨by (with_reducible repeat (first | apply Kd.R_alloc | apply Kd.R_drewN | apply Kd.R_drew)); exact Kd.R_mono HO547.out (fun _ hk => ⟨hk.1.1.1.1.2, ⟨hk.1.1.1.2, ⟨hk.1.1.2, ⟨hk.1.2, hk.2⟩⟩⟩⟩)⟩, ⟨?_⟩, ⟨?_⟩, ⟨?_⟩, ⟨?_⟩, ⟨?_⟩, ⟨?_⟩, ⟨?_⟩, ⟨?_⟩, ⟨?_⟩, ⟨by repeat (first | (with_reducible first | exact HB.out | apply bA | apply bN | apply bD | refine bX ?_ (by assumption)) | exact HB.out)⟩⟩
          all_goals ((with_reducible repeat (first | refine kN ?_ _ | refine kD ?_ | refine kA ?_ _)); exact Aside0.out (by assumption))
       replace c381 := Bool.eq_false_iff.mpr c381
       subst c381
       have H1 : (laws_FnHandsMeetOfAll.j7 kj297 t545 true a4_0 a4_1 t537 t538) = some r := by rw [if_neg (show ¬ (false = true) by decide)] at H; exact H
       clear H
       have H := H1
       clear H1
       as_aux_lemma =>
        exact absurd ((laws_FnHandsMeetOfAll.j7_no H).symm.trans hlaw.out) (by decide)
      clear HC362
      (try clear c20); (try clear c21); (try clear c30); (try clear c31); (try clear c32); (try clear c295); (try clear c359); (try clear c360); (try clear zq305); (try clear zq311); (try clear zq316); (try clear zq326); (try clear zq327); (try clear zq328); (try clear zq329); (try clear zq340); (try clear zq371); (try clear zq379)
      obtain ⟨kq, x314_361, rfl, HA, HJ361, HO_41, BK471, BK472, BK473, BK474, BK475, BK491, BK495, BK540, BK544, HB⟩ := hcut
      cases kq with
      | zero => exact absurd HA.out (by simp [laws_FnHandsMeetOfAll.j7])
      | succ kj361 =>
       have H := HA.out
       clear HA
       simp only [laws_FnHandsMeetOfAll.j7] at H
       by_cases c394 : x314_361 = true
       ·subst c394
        have H1 : (some false) = some r := by rw [if_pos rfl] at H; exact H
        clear H
        have H := H1
        clear H1
        as_aux_lemma =>
         exact absurd ((Option.some.inj H).trans hlaw.out) (by decide)
       replace c394 := Bool.eq_false_iff.mpr c394
       subst c394
       have H1 : (laws_FnHandsMeetOfAll.l1 kj361 (decide ((wrap64 (t537 * a4_1)) > (wrap64 (a4_0 * t538)))) t545 (t545.length : Int) 0 a4_0 a4_1 t537 t538) = some r := by rw [if_neg (show ¬ (false = true) by decide)] at H; exact H
       clear H
       have H := H1
       clear H1
       have H' := Am H
       clear H
       have nq395 := kO NB540_471; have nq396 := kO NB540_472; have nq397 := kO NB540_473; have nq398 := kO NB540_474; have nq399 := kO NB540_475; have nq400 := kO NB540_491; have nq401 := kO NB540_495; have nq402 := kO NB540_544
       have zq403 := c2 BK540
       have nq404 := kO NB475_471; have nq405 := kO NB475_472; have nq406 := kO NB475_473; have nq407 := kO NB475_474; have nq408 := kO NB475_491; have nq409 := kO NB475_495; have nq410 := kO NB475_544
       have zq411 := c2 BK475
       obtain ⟨Ao412, co412, eo412⟩ := Kd.R_slice HO_41.out
       subst eo412
       go_wp2
       obtain ⟨lt_, hLt_⟩ : ∃ b : Bool, b = decide ((wrap64 (a4_0 * t538)) < (wrap64 (t537 * a4_1))) := ⟨_, rfl⟩
       rw [← hLt_]
       replace H' : Aside0 (laws_FnHandsMeetOfAll.l1 kj361 lt_ t545 (t545.length : Int) 0 a4_0 a4_1 t537 t538 = some r) := by rw [hLt_]; exact H'
       clear hLt_
       go_loopg [328] kj361 (fun kq v328 w' => ∃ (x328_6 : Int), v328 = .int .i64 x328_6 ∧ Aside0 (laws_FnHandsMeetOfAll.l1 kq lt_ t545 (t545.length : Int) x328_6 a4_0 a4_1 t537 t538 = some r) ∧ Aside0 (kq ≤ kj361) ∧ Aside0 (Kd.R k23 23 w' w.heap.size (fun k_ => k_ ≠ gb475 ∧ k_ ≠ gb491 ∧ k_ ≠ gb495 ∧ k_ ≠ gb540 ∧ k_ ≠ gb544) (.slice Ao412 t545.length co412) t545) ∧ Aside0 (w'.heap[gb471]? = some (.cells #[.int .i64 a0_0, .int .i64 a0_1, .int .i64 a0_2] 25 (0, 0))) ∧ Aside0 (w'.heap[gb472]? = some (.cells #[.int .i64 a1_0, .int .i64 a1_1, .int .i64 a1_2] 25 (0, 0))) ∧ Aside0 (w'.heap[gb473]? = some (.cells #[.int .i64 a2_0, .int .i64 a2_1, .int .i64 a2_2] 25 (0, 0))) ∧ Aside0 (w'.heap[gb474]? = some (.cells #[.int .i64 a3_0, .int .i64 a3_1, .int .i64 a3_2] 25 (0, 0))) ∧ Aside0 (w'.heap[gb475]? = some (.cells #[.int .i64 a4_0, .int .i64 a4_1] 23 (0, 0))) ∧ Aside0 (w'.heap[gb491]? = some (.cells #[.int .i64 t488, .int .i64 t489] 23 (0, 0))) ∧ Aside0 (w'.heap[gb495]? = some (.cells #[.int .i64 t492, .int .i64 t493] 23 (0, 0))) ∧ Aside0 (w'.heap[gb540]? = some (.cells #[.int .i64 t537, .int .i64 t538] 23 (0, 0))) ∧ Aside0 (w'.heap[gb544]? = some (.cells #[.int .i64 t541, .int .i64 t542] 23 (0, 0))) ∧ Aside0 (Below w.heap.size w w'))
       case atStart => exact ⟨(0), (by first | rfl | (simp; done) | (simp [*]; done)), H', ⟨Nat.le_refl _⟩, ⟨kW HO_41⟩, kV BK471, kV BK472, kV BK473, kV BK474, kV BK475, kV BK491, kV BK495, kV BK540, kV BK544, ⟨by repeat (first | (with_reducible first | exact HB.out | apply bA | apply bN | apply bD | refine bX ?_ (by assumption)) | exact HB.out)⟩⟩
       case round =>
        clear H'
        (try clear c20); (try clear c21); (try clear c30); (try clear c31); (try clear c32); (try clear c295); (try clear c359); (try clear c360); (try clear c394); (try clear zq305); (try clear zq311); (try clear zq316); (try clear zq326); (try clear zq327); (try clear zq328); (try clear zq329); (try clear zq340); (try clear zq371); (try clear zq379); (try clear zq403); (try clear zq411)
        obtain ⟨x328_6, rfl, HA, HK6, HO_326, BK471, BK472, BK473, BK474, BK475, BK491, BK495, BK540, BK544, HB⟩ := hrel
        cases gk with
        | zero => exact absurd HA.out (by simp [laws_FnHandsMeetOfAll.l1])
        | succ k6 =>
         have H := HA.out
         clear HA
         simp only [laws_FnHandsMeetOfAll.l1] at H
         by_cases c413 : x328_6 < (t545.length : Int)
         ·rw [if_pos c413] at H
          have c413b0 : decide (x328_6 < (t545.length : Int)) = true := decide_eq_true c413
          clear c413
          by_cases c414 : 0 ≤ x328_6
          ·rw [if_pos c414] at H
           have c414b0 : decide (0 ≤ x328_6) = true := decide_eq_true c414
           clear c414
           by_cases c415 : x328_6 < (t545.length : Int)
           ·rw [if_pos c415] at H
            have c415b0 : decide (x328_6 < (t545.length : Int)) = true := decide_eq_true c415
            clear c415
            by_cases c416 : (wrap64 (((rd_T23 t545 x328_6).f0) * a4_1)) > (wrap64 (a4_0 * ((rd_T23 t545 x328_6).f1)))
            ·rw [if_pos c416] at H
             have c416b0 : decide ((wrap64 (a4_0 * ((rd_T23 t545 x328_6).f1))) < (wrap64 (((rd_T23 t545 x328_6).f0) * a4_1))) = true := decide_eq_true c416
             clear c416
             by_cases c417 : lt_ = true
             ·subst c417
              rw [if_pos rfl] at H
              by_cases c418 : (wrap64 (((rd_T23 t545 x328_6).f0) * t538)) < (wrap64 (t537 * ((rd_T23 t545 x328_6).f1)))
              ·rw [if_pos c418] at H
               have c418b0 : decide ((wrap64 (((rd_T23 t545 x328_6).f0) * t538)) < (wrap64 (t537 * ((rd_T23 t545 x328_6).f1)))) = true := decide_eq_true c418
               clear c418
               as_aux_lemma =>
                exact absurd ((Option.some.inj H).trans hlaw.out) (by decide)
              rw [if_neg c418] at H
              have c418b0 : decide ((wrap64 (((rd_T23 t545 x328_6).f0) * t538)) < (wrap64 (t537 * ((rd_T23 t545 x328_6).f1)))) = false := decide_eq_false c418
              clear c418
              as_aux_lemma =>
               have H' := Am H
               clear H
               have p550 : 0 ≤ (x328_6 : Int) := of_decide_eq_true (by first | (with_reducible assumption) | assumption)
               have q550 : x328_6 < (t545.length : Int) := of_decide_eq_true (by first | (with_reducible assumption) | assumption)
               obtain ⟨ad550, e550, hx550_0, hx550_1⟩ := at_T23 (Kd.R_reads' HO_326.out).2.2 x328_6 p550 q550
               cases e550
               replace p550 := eq_true p550
               replace q550 := eq_true q550
               go_wp2_with (first | ((with_reducible refine gate_dst (N := 45) rfl ?_); (try (refine gate_guard (by rfl) ?_; dsimp only)); refine bE 45 #[.int .i64 0, .int .i64 0] 23 ?_; intro gb551 hg w419 hbox hb; have n0_ := Am (Kd.R_below (Kd.R_elderB (kW HO_326) gb551 (Nat.le_of_eq hg.symm)) hb); have hp0 := pA BK471 hb; have hv := vK HB hb; have n10_ := Am (bT hv hb); have n11_ := Am (hbox); have GE551 := kG hg hv; have hp1 := pK BK471 hb; obtain ⟨NB471_551, NB551_471⟩ := kXY hg hp1 BK471; obtain ⟨NB472_551, NB551_472⟩ := kXY hg hp1 BK472; obtain ⟨NB473_551, NB551_473⟩ := kXY hg hp1 BK473; obtain ⟨NB474_551, NB551_474⟩ := kXY hg hp1 BK474; obtain ⟨NB475_551, NB551_475⟩ := kXY hg hp1 BK475; obtain ⟨NB491_551, NB551_491⟩ := kXY hg hp1 BK491; obtain ⟨NB495_551, NB551_495⟩ := kXY hg hp1 BK495; obtain ⟨NB540_551, NB551_540⟩ := kXY hg hp1 BK540; obtain ⟨NB544_551, NB551_544⟩ := kXY hg hp1 BK544; clear HO_326; clear HB; have HO_326 := n0_; replace BK471 := hp0 BK471; replace BK472 := hp0 BK472; replace BK473 := hp0 BK473; replace BK474 := hp0 BK474; replace BK475 := hp0 BK475; replace BK491 := hp0 BK491; replace BK495 := hp0 BK495; replace BK540 := hp0 BK540; replace BK544 := hp0 BK544; have HB := n10_; have BK551 := n11_; clear n0_ n10_ n11_ hp0 hp1 hv; clear hb hbox hg; have nq420 := kO NB551_471; have nq421 := kO NB551_472; have nq422 := kO NB551_473; have nq423 := kO NB551_474; have nq424 := kO NB551_475; have nq425 := kO NB551_491; have nq426 := kO NB551_495; have nq427 := kO NB551_540; have nq428 := kO NB551_544; have hcz429_0 : w419.cell? ⟨gb551, 0, none⟩ = some (.int .i64 0) := (kC BK551.out 0).trans rfl; have hcz429_1 : w419.cell? ⟨gb551, 1, none⟩ = some (.int .i64 0) := (kC BK551.out 1).trans rfl; have hfz429_0 := kF BK551.out 0; have hfz429_1 := kF BK551.out 1; have nq430 := kO NB475_471; have nq431 := kO NB475_472; have nq432 := kO NB475_473; have nq433 := kO NB475_474; have nq434 := kO NB475_491; have nq435 := kO NB475_495; have nq436 := kO NB475_540; have nq437 := kO NB475_544; have zq438 := c2 BK475; have nq439 := kO NB540_471; have nq440 := kO NB540_472; have nq441 := kO NB540_473; have nq442 := kO NB540_474; have nq443 := kO NB540_491; have nq444 := kO NB540_495; have nq445 := kO NB540_544; have zq446 := c2 BK540))
               go_roundg k6
               case measure => have := HJ13.out; have := HJ109.out; have := HJ288.out; have := HJ297.out; have := HJ361.out; have := HK6.out; omega
               case rel => exact ⟨(wrap64 (x328_6 + 1)), (by first | rfl | (simp; done) | (simp [*]; done)), H', ⟨by have := HJ13.out; have := HJ109.out; have := HJ288.out; have := HJ297.out; have := HJ361.out; have := HK6.out; omega⟩, ⟨by (with_reducible repeat (first | apply Kd.R_alloc | apply Kd.R_drewN | apply Kd.R_drew)); exact Kd.R_mono (Kd.R_far (p := ⟨gb551, 1, none⟩) (Kd.R_far (p := ⟨gb551, 0, none⟩) (Kd.R_mono HO_326.out (fun k_ hk => (⟨hk, hk.2⟩ : _ ∧ k_ ≠ gb551))) (fun _ hk => hk.2) (.int .i64 ((rd_T23 t545 x328_6).f0))) (fun _ hk => hk.2) (.int .i64 ((rd_T23 t545 x328_6).f1))) (fun _ hk => ⟨hk.1.1.1, ⟨hk.1.1.2.1, ⟨hk.1.1.2.2.1, ⟨hk.1.1.2.2.2.1, hk.1.1.2.2.2.2⟩⟩⟩⟩)⟩, ⟨by (with_reducible repeat (first | refine kN ?_ _ | refine kD ?_ | refine kA ?_ _)); refine kR ?_ NB471_551.out _; (with_reducible repeat (first | refine kN ?_ _ | refine kD ?_ | refine kA ?_ _)); refine kR ?_ NB471_551.out _; (with_reducible repeat (first | refine kN ?_ _ | refine kD ?_ | refine kA ?_ _)); exact BK471.out⟩, ⟨by (with_reducible repeat (first | refine kN ?_ _ | refine kD ?_ | refine kA ?_ _)); refine kR ?_ NB472_551.out _; (with_reducible repeat (first | refine kN ?_ _ | refine kD ?_ | refine kA ?_ _)); refine kR ?_ NB472_551.out _; (with_reducible repeat (first | refine kN ?_ _ | refine kD ?_ | refine kA ?_ _)); exact BK472.out⟩, ⟨by (with_reducible repeat (first | refine kN ?_ _ | refine kD ?_ | refine kA ?_ _)); refine kR ?_ NB473_551.out _; (with_reducible repeat (first | refine kN ?_ _ | refine kD ?_ | refine kA ?_ _)); refine kR ?_ NB473_551.out _; (with_reducible repeat (first | refine kN ?_ _ | refine kD ?_ | refine kA ?_ _)); exact BK473.out⟩, ⟨by (with_reducible repeat (first | refine kN ?_ _ | refine kD ?_ | refine kA ?_ _)); refine kR ?_ NB474_551.out _; (with_reducible repeat (first | refine kN ?_ _ | refine kD ?_ | refine kA ?_ _)); refine kR ?_ NB474_551.out _; (with_reducible repeat (first | refine kN ?_ _ | refine kD ?_ | refine kA ?_ _)); exact BK474.out⟩, ⟨by (with_reducible repeat (first | refine kN ?_ _ | refine kD ?_ | refine kA ?_ _)); refine kR ?_ NB475_551.out _; (with_reducible repeat (first | refine kN ?_ _ | refine kD ?_ | refine kA ?_ _)); refine kR ?_ NB475_551.out _; (with_reducible repeat (first | refine kN ?_ _ | refine kD ?_ | refine kA ?_ _)); exact BK475.out⟩, ⟨by (with_reducible repeat (first | refine kN ?_ _ | refine kD ?_ | refine kA ?_ _)); refine kR ?_ NB491_551.out _; (with_reducible repeat (first | refine kN ?_ _ | refine kD ?_ | refine kA ?_ _)); refine kR ?_ NB491_551.out _; (with_reducible repeat (first | refine kN ?_ _ | refine kD ?_ | refine kA ?_ _)); exact BK491.out⟩, ⟨by (with_reducible repeat (first | refine kN ?_ _ | refine kD ?_ | refine kA ?_ _)); refine kR ?_ NB495_551.out _; (with_reducible repeat (first | refine kN ?_ _ | refine kD ?_ | refine kA ?_ _)); refine kR ?_ NB495_551.out _; (with_reducible repeat (first | refine kN ?_ _ | refine kD ?_ | refine kA ?_ _)); exact BK495.out⟩, ⟨by (with_reducible repeat (first | refine kN ?_ _ | refine kD ?_ | refine kA ?_ _)); refine kR ?_ NB540_551.out _; (with_reducible repeat (first | refine kN ?_ _ | refine kD ?_ | refine kA ?_ _)); refine kR ?_ NB540_551.out _; (with_reducible repeat (first | refine kN ?_ _ | refine kD ?_ | refine kA ?_ _)); exact BK540.out⟩, ⟨by (with_reducible repeat (first | refine kN ?_ _ | refine kD ?_ | refine kA ?_ _)); refine kR ?_ NB544_551.out _; (with_reducible repeat (first | refine kN ?_ _ | refine kD ?_ | refine kA ?_ _)); refine kR ?_ NB544_551.out _; (with_reducible repeat (first | refine kN ?_ _ | refine kD ?_ | refine kA ?_ _)); exact BK544.out⟩, ⟨by repeat (first | (with_reducible first | exact HB.out | apply bA | apply bN | apply bD | refine bX ?_ (by assumption)) | exact HB.out)⟩⟩
             rw [if_neg c417] at H
             have c417b0 : lt_ = false := by simpa using c417
             clear c417
             as_aux_lemma =>
              exact absurd ((Option.some.inj H).trans hlaw.out) (by decide)
            rw [if_neg c416] at H
            have c416b0 : decide ((wrap64 (a4_0 * ((rd_T23 t545 x328_6).f1))) < (wrap64 (((rd_T23 t545 x328_6).f0) * a4_1))) = false := decide_eq_false c416
            clear c416
            as_aux_lemma =>
             have H' := Am H
             clear H
             have p550 : 0 ≤ (x328_6 : Int) := of_decide_eq_true (by first | (with_reducible assumption) | assumption)
             have q550 : x328_6 < (t545.length : Int) := of_decide_eq_true (by first | (with_reducible assumption) | assumption)
             obtain ⟨ad550, e550, hx550_0, hx550_1⟩ := at_T23 (Kd.R_reads' HO_326.out).2.2 x328_6 p550 q550
             cases e550
             replace p550 := eq_true p550
             replace q550 := eq_true q550
             go_wp2_with (first | ((with_reducible refine gate_dst (N := 45) rfl ?_); (try (refine gate_guard (by rfl) ?_; dsimp only)); refine bE 45 #[.int .i64 0, .int .i64 0] 23 ?_; intro gb551 hg w447 hbox hb; have n0_ := Am (Kd.R_below (Kd.R_elderB (kW HO_326) gb551 (Nat.le_of_eq hg.symm)) hb); have hp0 := pA BK471 hb; have hv := vK HB hb; have n10_ := Am (bT hv hb); have n11_ := Am (hbox); have GE551 := kG hg hv; have hp1 := pK BK471 hb; obtain ⟨NB471_551, NB551_471⟩ := kXY hg hp1 BK471; obtain ⟨NB472_551, NB551_472⟩ := kXY hg hp1 BK472; obtain ⟨NB473_551, NB551_473⟩ := kXY hg hp1 BK473; obtain ⟨NB474_551, NB551_474⟩ := kXY hg hp1 BK474; obtain ⟨NB475_551, NB551_475⟩ := kXY hg hp1 BK475; obtain ⟨NB491_551, NB551_491⟩ := kXY hg hp1 BK491; obtain ⟨NB495_551, NB551_495⟩ := kXY hg hp1 BK495; obtain ⟨NB540_551, NB551_540⟩ := kXY hg hp1 BK540; obtain ⟨NB544_551, NB551_544⟩ := kXY hg hp1 BK544; clear HO_326; clear HB; have HO_326 := n0_; replace BK471 := hp0 BK471; replace BK472 := hp0 BK472; replace BK473 := hp0 BK473; replace BK474 := hp0 BK474; replace BK475 := hp0 BK475; replace BK491 := hp0 BK491; replace BK495 := hp0 BK495; replace BK540 := hp0 BK540; replace BK544 := hp0 BK544; have HB := n10_; have BK551 := n11_; clear n0_ n10_ n11_ hp0 hp1 hv; clear hb hbox hg; have nq448 := kO NB551_471; have nq449 := kO NB551_472; have nq450 := kO NB551_473; have nq451 := kO NB551_474; have nq452 := kO NB551_475; have nq453 := kO NB551_491; have nq454 := kO NB551_495; have nq455 := kO NB551_540; have nq456 := kO NB551_544; have hcz457_0 : w447.cell? ⟨gb551, 0, none⟩ = some (.int .i64 0) := (kC BK551.out 0).trans rfl; have hcz457_1 : w447.cell? ⟨gb551, 1, none⟩ = some (.int .i64 0) := (kC BK551.out 1).trans rfl; have hfz457_0 := kF BK551.out 0; have hfz457_1 := kF BK551.out 1; have nq458 := kO NB475_471; have nq459 := kO NB475_472; have nq460 := kO NB475_473; have nq461 := kO NB475_474; have nq462 := kO NB475_491; have nq463 := kO NB475_495; have nq464 := kO NB475_540; have nq465 := kO NB475_544; have zq466 := c2 BK475))
             go_roundg k6
             case measure => have := HJ13.out; have := HJ109.out; have := HJ288.out; have := HJ297.out; have := HJ361.out; have := HK6.out; omega
             case rel => exact ⟨(wrap64 (x328_6 + 1)), (by first | rfl | (simp; done) | (simp [*]; done)), H', ⟨by have := HJ13.out; have := HJ109.out; have := HJ288.out; have := HJ297.out; have := HJ361.out; have := HK6.out; omega⟩, ⟨by (with_reducible repeat (first | apply Kd.R_alloc | apply Kd.R_drewN | apply Kd.R_drew)); exact Kd.R_mono (Kd.R_far (p := ⟨gb551, 1, none⟩) (Kd.R_far (p := ⟨gb551, 0, none⟩) (Kd.R_mono HO_326.out (fun k_ hk => (⟨hk, hk.2⟩ : _ ∧ k_ ≠ gb551))) (fun _ hk => hk.2) (.int .i64 ((rd_T23 t545 x328_6).f0))) (fun _ hk => hk.2) (.int .i64 ((rd_T23 t545 x328_6).f1))) (fun _ hk => ⟨hk.1.1.1, ⟨hk.1.1.2.1, ⟨hk.1.1.2.2.1, ⟨hk.1.1.2.2.2.1, hk.1.1.2.2.2.2⟩⟩⟩⟩)⟩, ⟨by (with_reducible repeat (first | refine kN ?_ _ | refine kD ?_ | refine kA ?_ _)); refine kR ?_ NB471_551.out _; (with_reducible repeat (first | refine kN ?_ _ | refine kD ?_ | refine kA ?_ _)); refine kR ?_ NB471_551.out _; (with_reducible repeat (first | refine kN ?_ _ | refine kD ?_ | refine kA ?_ _)); exact BK471.out⟩, ⟨by (with_reducible repeat (first | refine kN ?_ _ | refine kD ?_ | refine kA ?_ _)); refine kR ?_ NB472_551.out _; (with_reducible repeat (first | refine kN ?_ _ | refine kD ?_ | refine kA ?_ _)); refine kR ?_ NB472_551.out _; (with_reducible repeat (first | refine kN ?_ _ | refine kD ?_ | refine kA ?_ _)); exact BK472.out⟩, ⟨by (with_reducible repeat (first | refine kN ?_ _ | refine kD ?_ | refine kA ?_ _)); refine kR ?_ NB473_551.out _; (with_reducible repeat (first | refine kN ?_ _ | refine kD ?_ | refine kA ?_ _)); refine kR ?_ NB473_551.out _; (with_reducible repeat (first | refine kN ?_ _ | refine kD ?_ | refine kA ?_ _)); exact BK473.out⟩, ⟨by (with_reducible repeat (first | refine kN ?_ _ | refine kD ?_ | refine kA ?_ _)); refine kR ?_ NB474_551.out _; (with_reducible repeat (first | refine kN ?_ _ | refine kD ?_ | refine kA ?_ _)); refine kR ?_ NB474_551.out _; (with_reducible repeat (first | refine kN ?_ _ | refine kD ?_ | refine kA ?_ _)); exact BK474.out⟩, ⟨by (with_reducible repeat (first | refine kN ?_ _ | refine kD ?_ | refine kA ?_ _)); refine kR ?_ NB475_551.out _; (with_reducible repeat (first | refine kN ?_ _ | refine kD ?_ | refine kA ?_ _)); refine kR ?_ NB475_551.out _; (with_reducible repeat (first | refine kN ?_ _ | refine kD ?_ | refine kA ?_ _)); exact BK475.out⟩, ⟨by (with_reducible repeat (first | refine kN ?_ _ | refine kD ?_ | refine kA ?_ _)); refine kR ?_ NB491_551.out _; (with_reducible repeat (first | refine kN ?_ _ | refine kD ?_ | refine kA ?_ _)); refine kR ?_ NB491_551.out _; (with_reducible repeat (first | refine kN ?_ _ | refine kD ?_ | refine kA ?_ _)); exact BK491.out⟩, ⟨by (with_reducible repeat (first | refine kN ?_ _ | refine kD ?_ | refine kA ?_ _)); refine kR ?_ NB495_551.out _; (with_reducible repeat (first | refine kN ?_ _ | refine kD ?_ | refine kA ?_ _)); refine kR ?_ NB495_551.out _; (with_reducible repeat (first | refine kN ?_ _ | refine kD ?_ | refine kA ?_ _)); exact BK495.out⟩, ⟨by (with_reducible repeat (first | refine kN ?_ _ | refine kD ?_ | refine kA ?_ _)); refine kR ?_ NB540_551.out _; (with_reducible repeat (first | refine kN ?_ _ | refine kD ?_ | refine kA ?_ _)); refine kR ?_ NB540_551.out _; (with_reducible repeat (first | refine kN ?_ _ | refine kD ?_ | refine kA ?_ _)); exact BK540.out⟩, ⟨by (with_reducible repeat (first | refine kN ?_ _ | refine kD ?_ | refine kA ?_ _)); refine kR ?_ NB544_551.out _; (with_reducible repeat (first | refine kN ?_ _ | refine kD ?_ | refine kA ?_ _)); refine kR ?_ NB544_551.out _; (with_reducible repeat (first | refine kN ?_ _ | refine kD ?_ | refine kA ?_ _)); exact BK544.out⟩, ⟨by repeat (first | (with_reducible first | exact HB.out | apply bA | apply bN | apply bD | refine bX ?_ (by assumption)) | exact HB.out)⟩⟩
           rw [if_neg c415] at H
           exact absurd H (by simp)
          rw [if_neg c414] at H
          exact absurd H (by simp)
         rw [if_neg c413] at H
         have c413b0 : decide (x328_6 < (t545.length : Int)) = false := decide_eq_false c413
         clear c413
         as_aux_lemma =>
          obtain rfl := Option.some.inj H
          go_wp2
          go_ret
          exact ⟨by first | rfl | (simp [errW_none, errW_some] <;> rfl) | (simp [*, errW_none, errW_some] <;> rfl), by repeat (first | (with_reducible first | exact HB.out | apply bA | apply bN | apply bD | refine bX ?_ (by assumption)) | exact HB.out)⟩
     replace c360 := Bool.eq_false_iff.mpr c360
     subst c360
     have H1 : (some true) = some r := by rw [if_neg (show ¬ (false = true) by decide)] at H; exact H
     clear H
     have H := H1
     clear H1
     as_aux_lemma =>
      obtain rfl := Option.some.inj H
      go_wp2
      go_ret
      exact ⟨by first | rfl | (simp [errW_none, errW_some] <;> rfl) | (simp [*, errW_none, errW_some] <;> rfl), by repeat (first | (with_reducible first | exact HB.out | apply bA | apply bN | apply bD | refine bX ?_ (by assumption)) | exact HB.out)⟩
/-- THE ONE PURE STATEMENT of laws_FnHandsMeetOfAll: yours. -/
def laws_FnHandsMeetOfAll.Pure : Prop := ∀ (a0_0 : Int) (a0_1 : Int) (a0_2 : Int) (a1_0 : Int) (a1_1 : Int) (a1_2 : Int) (a2_0 : Int) (a2_1 : Int) (a2_2 : Int) (a3_0 : Int) (a3_1 : Int) (a3_2 : Int) (a4_0 : Int) (a4_1 : Int), (Lit.int .i64 a0_0).wf = true → (Lit.int .i64 a0_1).wf = true → (Lit.int .i64 a0_2).wf = true → (Lit.int .i64 a1_0).wf = true → (Lit.int .i64 a1_1).wf = true → (Lit.int .i64 a1_2).wf = true → (Lit.int .i64 a2_0).wf = true → (Lit.int .i64 a2_1).wf = true → (Lit.int .i64 a2_2).wf = true → (Lit.int .i64 a3_0).wf = true → (Lit.int .i64 a3_1).wf = true → (Lit.int .i64 a3_2).wf = true → (Lit.int .i64 a4_0).wf = true → (Lit.int .i64 a4_1).wf = true → ∃ k, laws_FnHandsMeetOfAll.f k a0_0 a0_1 a0_2 a1_0 a1_1 a1_2 a2_0 a2_1 a2_2 a3_0 a3_1 a3_2 a4_0 a4_1 = some true
theorem laws_FnHandsMeetOfAll.walk (P : laws_FnHandsMeetOfAll.Pure) (a0_0 : Int) (a0_1 : Int) (a0_2 : Int) (a1_0 : Int) (a1_1 : Int) (a1_2 : Int) (a2_0 : Int) (a2_1 : Int) (a2_2 : Int) (a3_0 : Int) (a3_1 : Int) (a3_2 : Int) (a4_0 : Int) (a4_1 : Int) (w : World) (w0_0 : (Lit.int .i64 a0_0).wf = true) (w0_1 : (Lit.int .i64 a0_1).wf = true) (w0_2 : (Lit.int .i64 a0_2).wf = true) (w1_0 : (Lit.int .i64 a1_0).wf = true) (w1_1 : (Lit.int .i64 a1_1).wf = true) (w1_2 : (Lit.int .i64 a1_2).wf = true) (w2_0 : (Lit.int .i64 a2_0).wf = true) (w2_1 : (Lit.int .i64 a2_1).wf = true) (w2_2 : (Lit.int .i64 a2_2).wf = true) (w3_0 : (Lit.int .i64 a3_0).wf = true) (w3_1 : (Lit.int .i64 a3_1).wf = true) (w3_2 : (Lit.int .i64 a3_2).wf = true) (w4_0 : (Lit.int .i64 a4_0).wf = true) (w4_1 : (Lit.int .i64 a4_1).wf = true) :
  Calls Try.prog 3 #[.agg #[.int .i64 a0_0, .int .i64 a0_1, .int .i64 a0_2], .agg #[.int .i64 a1_0, .int .i64 a1_1, .int .i64 a1_2], .agg #[.int .i64 a2_0, .int .i64 a2_1, .int .i64 a2_2], .agg #[.int .i64 a3_0, .int .i64 a3_1, .int .i64 a3_2], .agg #[.int .i64 a4_0, .int .i64 a4_1]] w fun e w' => e = .returned (.bool true) ∧ Below w.heap.size w w' := by
 obtain ⟨k, h⟩ := P a0_0 a0_1 a0_2 a1_0 a1_1 a1_2 a2_0 a2_1 a2_2 a3_0 a3_1 a3_2 a4_0 a4_1 w0_0 w0_1 w0_2 w1_0 w1_1 w1_2 w2_0 w2_1 w2_2 w3_0 w3_1 w3_2 w4_0 w4_1
 refine (laws_FnHandsMeetOfAll.calls k a0_0 a0_1 a0_2 a1_0 a1_1 a1_2 a2_0 a2_1 a2_2 a3_0 a3_1 a3_2 a4_0 a4_1 true w ⟨rfl⟩ h).mono ?_
 rintro e w' ⟨rfl, hd⟩
 exact ⟨rfl, hd⟩

end Go.Proofs.Ytbgklddlcmgakaa.PFnHandsMeetOfAll
