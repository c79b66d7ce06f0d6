-- WRITTEN BY A PROGRAM OF THIS SESSION (wip/tools): its own text, not the kit's printed one. PARTS
import Derived.Test.YtpmldpfoiljmcaaPFnTurnsAddedOfAllx0
import Derived.Test.YtpmldpfoiljmcaaPFnTurnsAddedOfAllx1
import Derived.Test.YtpmldpfoiljmcaaPFnTurnsAddedOfAllx2
import Derived.Test.YtpmldpfoiljmcaaPFnTurnsAddedOfAllx3
import Derived.Test.YtpmldpfoiljmcaaPFnTurnsAddedOfAllx4
import Derived.Test.YtpmldpfoiljmcaaPFnTurnsAddedOfAllx5
import Derived.Test.YtpmldpfoiljmcaaPFnTurnsAddedOfAllx6c
import Derived.Test.YtpmldpfoiljmcaaPFnTurnsAddedOfAllx6s
import Derived.Test.YtpmldpfoiljmcaaPFnTurnsAddedOfAllx6t0
import Derived.Test.YtpmldpfoiljmcaaPFnTurnsAddedOfAllx6t1
import Derived.Test.YtpmldpfoiljmcaaPFnTurnsAddedOfAllx6t2
import Derived.Test.YtpmldpfoiljmcaaPFnTurnsAddedOfAllx6t3
import Derived.Test.YtpmldpfoiljmcaaPFnTurnsAddedOfAllx6t4
import Derived.Test.YtpmldpfoiljmcaaPFnTurnsAddedOfAllx6t5
namespace Go.Proofs.Ytpmldpfoiljmcaa.PFnTurnsAddedOfAll
open Go.RowKit Go.Proofs.YtpmldpfoiljmcaaW.PrintWords Go.Proofs.YtpmldpfoiljmcaaW.PrintLast Go.Proofs.YtpmldpfoiljmcaaW.PrintMore
attribute [local go_sem] max2_int min2_int max_two min_two max_three min_three max_four min_four   -- for this text's walks alone
set_option linter.unusedVariables false
set_option linter.unusedSimpArgs false

attribute [local go_sem high] eqA23
set_option maxHeartbeats 8000000 in
set_option maxRecDepth 100000 in
theorem laws_FnTurnsAddedOfAll.calls (k : Nat) (a0_0 : Int) (a0_1 : Int) (a1_0 : Int) (a1_1 : Int) (a2_0 : Int) (a2_1 : Int) (a3 : Int) (a4 : Int) (a5 : Int) (r : Bool) (w : World) (hlaw : Aside0 (r = true)) (h : laws_FnTurnsAddedOfAll.f k a0_0 a0_1 a1_0 a1_1 a2_0 a2_1 a3 a4 a5 = some r) :
  Calls Try.prog 3 #[.agg #[.int .i64 a0_0, .int .i64 a0_1], .agg #[.int .i64 a1_0, .int .i64 a1_1], .agg #[.int .i64 a2_0, .int .i64 a2_1], .int .i64 a3, .int .i64 a4, .int .i64 a5] w fun e w' => e = .returned (.bool r) ∧ Below w.heap.size w w' := by
 have nx5 : laws_FnTurnsAddedOfAll.S5 := laws_FnTurnsAddedOfAll.T5
 have nx4 : laws_FnTurnsAddedOfAll.S4 := laws_FnTurnsAddedOfAll.T4 nx5
 have nx3 : laws_FnTurnsAddedOfAll.S3 := laws_FnTurnsAddedOfAll.T3 nx4
 have nx2 : laws_FnTurnsAddedOfAll.S2 := laws_FnTurnsAddedOfAll.T2 nx3
 have nx1 : laws_FnTurnsAddedOfAll.S1 := laws_FnTurnsAddedOfAll.T1 nx2
 have nx0 : laws_FnTurnsAddedOfAll.S0 := laws_FnTurnsAddedOfAll.T0 nx1
 have hu23 := Try.underlying23
 have HB := Am (Below.refl w.heap.size w)
 have H : ((impl_AddTurns.f k a0_0 a0_1 a1_0 a1_1).bind fun bt275 => ((spec_AddTurns.f k a0_0 a0_1 a1_0 a1_1).bind fun bt279 => ((impl_LessTurn.f k a0_0 a0_1 a1_0 a1_1).bind fun bt283 => ((spec_LessTurn.f k a0_0 a0_1 a1_0 a1_1).bind fun bt287 => ((impl_CompareTurns.f k a0_0 a0_1 a1_0 a1_1).bind fun bt291 => ((spec_CompareTurns.f k a0_0 a0_1 a1_0 a1_1).bind fun bt293 => ((impl_MirrorTurn.f k a0_0 a0_1).bind fun bt295 => ((spec_MirrorTurn.f k a0_0 a0_1).bind fun bt299 => (if (bt275.2.2 != bt279.2.2) = true then (laws_FnTurnsAddedOfAll.j0 k a3 a4 a5 bt275.2.2 bt291.1 bt291.2 bt295.2.2 true a0_0 a0_1 a1_0 a1_1 a2_0 a2_1 bt275.1 bt275.2.1 bt295.1 bt295.2.1) else (if (!(bt275.1 == bt279.1) || (!(bt275.2.1 == bt279.2.1))) = true then (laws_FnTurnsAddedOfAll.j0 k a3 a4 a5 bt275.2.2 bt291.1 bt291.2 bt295.2.2 true a0_0 a0_1 a1_0 a1_1 a2_0 a2_1 bt275.1 bt275.2.1 bt295.1 bt295.2.1) else (if (bt283.2.2 != bt287.2.2) = true then (laws_FnTurnsAddedOfAll.j0 k a3 a4 a5 bt275.2.2 bt291.1 bt291.2 bt295.2.2 true a0_0 a0_1 a1_0 a1_1 a2_0 a2_1 bt275.1 bt275.2.1 bt295.1 bt295.2.1) else (if (!(bt283.1 == bt287.1) || (!(bt283.2.1 == bt287.2.1))) = true then (laws_FnTurnsAddedOfAll.j0 k a3 a4 a5 bt275.2.2 bt291.1 bt291.2 bt295.2.2 true a0_0 a0_1 a1_0 a1_1 a2_0 a2_1 bt275.1 bt275.2.1 bt295.1 bt295.2.1) else (if (bt291.2 != bt293.2) = true then (laws_FnTurnsAddedOfAll.j0 k a3 a4 a5 bt275.2.2 bt291.1 bt291.2 bt295.2.2 true a0_0 a0_1 a1_0 a1_1 a2_0 a2_1 bt275.1 bt275.2.1 bt295.1 bt295.2.1) else (if bt291.1 = bt293.1 then (if (bt295.2.2 != bt299.2.2) = true then (laws_FnTurnsAddedOfAll.j0 k a3 a4 a5 bt275.2.2 bt291.1 bt291.2 bt295.2.2 true a0_0 a0_1 a1_0 a1_1 a2_0 a2_1 bt275.1 bt275.2.1 bt295.1 bt295.2.1) else (if (!(bt295.1 == bt299.1) || (!(bt295.2.1 == bt299.2.1))) = true then (laws_FnTurnsAddedOfAll.j0 k a3 a4 a5 bt275.2.2 bt291.1 bt291.2 bt295.2.2 true a0_0 a0_1 a1_0 a1_1 a2_0 a2_1 bt275.1 bt275.2.1 bt295.1 bt295.2.1) else ((impl_IsTurn.f k a0_0 a0_1).bind fun t303 => (if (bt295.2.2 != t303) = true then (laws_FnTurnsAddedOfAll.j0 k a3 a4 a5 bt275.2.2 bt291.1 bt291.2 bt295.2.2 true a0_0 a0_1 a1_0 a1_1 a2_0 a2_1 bt275.1 bt275.2.1 bt295.1 bt295.2.1) else ((impl_IsTurn.f k a0_0 a0_1).bind fun t304 => ((spec_IsTurn.f k a0_0 a0_1).bind fun t305 => (if (t304 != t305) = true then (laws_FnTurnsAddedOfAll.j0 k a3 a4 a5 bt275.2.2 bt291.1 bt291.2 bt295.2.2 true a0_0 a0_1 a1_0 a1_1 a2_0 a2_1 bt275.1 bt275.2.1 bt295.1 bt295.2.1) else ((impl_IsTurn.f k a0_0 a0_1).bind fun t306 => (if t306 = true then ((impl_IsTurn.f k a1_0 a1_1).bind fun t307 => (if (bt291.2 != t307) = true then (laws_FnTurnsAddedOfAll.j0 k a3 a4 a5 bt275.2.2 bt291.1 bt291.2 bt295.2.2 true a0_0 a0_1 a1_0 a1_1 a2_0 a2_1 bt275.1 bt275.2.1 bt295.1 bt295.2.1) else (if bt275.2.2 = true then (if bt291.2 = true then (if bt283.2.2 = true then (laws_FnTurnsAddedOfAll.j0 k a3 a4 a5 bt275.2.2 bt291.1 bt291.2 bt295.2.2 (!bt291.2) a0_0 a0_1 a1_0 a1_1 a2_0 a2_1 bt275.1 bt275.2.1 bt295.1 bt295.2.1) else (laws_FnTurnsAddedOfAll.j0 k a3 a4 a5 bt275.2.2 bt291.1 bt291.2 bt295.2.2 false a0_0 a0_1 a1_0 a1_1 a2_0 a2_1 bt275.1 bt275.2.1 bt295.1 bt295.2.1)) else (laws_FnTurnsAddedOfAll.j0 k a3 a4 a5 bt275.2.2 bt291.1 bt291.2 bt295.2.2 true a0_0 a0_1 a1_0 a1_1 a2_0 a2_1 bt275.1 bt275.2.1 bt295.1 bt295.2.1)) else (if bt283.2.2 = true then (laws_FnTurnsAddedOfAll.j0 k a3 a4 a5 bt275.2.2 bt291.1 bt291.2 bt295.2.2 (!bt291.2) a0_0 a0_1 a1_0 a1_1 a2_0 a2_1 bt275.1 bt275.2.1 bt295.1 bt295.2.1) else (laws_FnTurnsAddedOfAll.j0 k a3 a4 a5 bt275.2.2 bt291.1 bt291.2 bt295.2.2 false a0_0 a0_1 a1_0 a1_1 a2_0 a2_1 bt275.1 bt275.2.1 bt295.1 bt295.2.1))))) else (if (bt291.2 != false) = true then (laws_FnTurnsAddedOfAll.j0 k a3 a4 a5 bt275.2.2 bt291.1 bt291.2 bt295.2.2 true a0_0 a0_1 a1_0 a1_1 a2_0 a2_1 bt275.1 bt275.2.1 bt295.1 bt295.2.1) else (if bt275.2.2 = true then (if bt291.2 = true then (if bt283.2.2 = true then (laws_FnTurnsAddedOfAll.j0 k a3 a4 a5 bt275.2.2 bt291.1 bt291.2 bt295.2.2 (!bt291.2) a0_0 a0_1 a1_0 a1_1 a2_0 a2_1 bt275.1 bt275.2.1 bt295.1 bt295.2.1) else (laws_FnTurnsAddedOfAll.j0 k a3 a4 a5 bt275.2.2 bt291.1 bt291.2 bt295.2.2 false a0_0 a0_1 a1_0 a1_1 a2_0 a2_1 bt275.1 bt275.2.1 bt295.1 bt295.2.1)) else (laws_FnTurnsAddedOfAll.j0 k a3 a4 a5 bt275.2.2 bt291.1 bt291.2 bt295.2.2 true a0_0 a0_1 a1_0 a1_1 a2_0 a2_1 bt275.1 bt275.2.1 bt295.1 bt295.2.1)) else (if bt283.2.2 = true then (laws_FnTurnsAddedOfAll.j0 k a3 a4 a5 bt275.2.2 bt291.1 bt291.2 bt295.2.2 (!bt291.2) a0_0 a0_1 a1_0 a1_1 a2_0 a2_1 bt275.1 bt275.2.1 bt295.1 bt295.2.1) else (laws_FnTurnsAddedOfAll.j0 k a3 a4 a5 bt275.2.2 bt291.1 bt291.2 bt295.2.2 false a0_0 a0_1 a1_0 a1_1 a2_0 a2_1 bt275.1 bt275.2.1 bt295.1 bt295.2.1))))))))))))) else (laws_FnTurnsAddedOfAll.j0 k a3 a4 a5 bt275.2.2 bt291.1 bt291.2 bt295.2.2 true a0_0 a0_1 a1_0 a1_1 a2_0 a2_1 bt275.1 bt275.2.1 bt295.1 bt295.2.1))))))))))))))) = some r := h
 clear h
 replace H := Option.bind_eq_some_iff.mp H
 obtain ⟨⟨t275, t276, t277⟩, A70, H⟩ := H
 try dsimp only at H
 have A7 := Am A70
 clear A70
 replace H := Option.bind_eq_some_iff.mp H
 obtain ⟨⟨t279, t280, t281⟩, A80, H⟩ := H
 try dsimp only at H
 have A8 := Am A80
 clear A80
 replace H := Option.bind_eq_some_iff.mp H
 obtain ⟨⟨t283, t284, t285⟩, A90, H⟩ := H
 try dsimp only at H
 have A9 := Am A90
 clear A90
 replace H := Option.bind_eq_some_iff.mp H
 obtain ⟨⟨t287, t288, t289⟩, A100, H⟩ := H
 try dsimp only at H
 have A10 := Am A100
 clear A100
 replace H := Option.bind_eq_some_iff.mp H
 obtain ⟨⟨t291, t292⟩, A110, H⟩ := H
 try dsimp only at H
 have A11 := Am A110
 clear A110
 replace H := Option.bind_eq_some_iff.mp H
 obtain ⟨⟨t293, t294⟩, A120, H⟩ := H
 try dsimp only at H
 have A12 := Am A120
 clear A120
 replace H := Option.bind_eq_some_iff.mp H
 obtain ⟨⟨t295, t296, t297⟩, A130, H⟩ := H
 try dsimp only at H
 have A13 := Am A130
 clear A130
 replace H := Option.bind_eq_some_iff.mp H
 obtain ⟨⟨t299, t300, t301⟩, A140, H⟩ := H
 try dsimp only at H
 have A14 := Am A140
 clear A140
 have HC15 := Am H
 clear H
 go_enter Try.func3, Try.ntmps3
 go_upto_region 9 with (first | ((with_reducible refine gate_dst (N := 6) rfl ?_); refine box_event ?hg (N := 6) ?hd (cs := #[.int .i64 a0_0, .int .i64 a0_1]) (t := 23) ?hr ?_; (case hd => rfl); (case hg => rfl); (case hr => first | (go_simp; done) | (go_simp; rfl)); intro gb272 hg w16 hbox hb; have hv := hvK (w := w) hb (by repeat (first | (with_reducible first | exact HB.out | apply bA | apply bN | apply bD) | exact HB.out)); have n0_ := Am (bT hv hb); have n1_ := Am (hbox); have GW272 := kG hg hv; have GE272 := kG hg hv; clear HB; have HB := n0_; have BK272 := n1_; clear n0_ n1_ hv; clear hb hbox hg) | ((with_reducible refine gate_dst (N := 7) rfl ?_); refine box_event ?hg (N := 7) ?hd (cs := #[.int .i64 a1_0, .int .i64 a1_1]) (t := 23) ?hr ?_; (case hd => rfl); (case hg => rfl); (case hr => first | (go_simp; done) | (go_simp; rfl)); intro gb273 hg w17 hbox hb; have hp0 := hpA BK272.out hb (fun _ _ h_ => by (with_reducible repeat (first | refine kN ?_ _ | refine kD ?_ | refine kA ?_ _)); exact h_); have hv := hvK (w := w) hb (by repeat (first | (with_reducible first | exact HB.out | apply bA | apply bN | apply bD | refine bX ?_ (by assumption)) | exact HB.out)); have n1_ := Am (bT hv hb); have n2_ := Am (hbox); have GW273 := kG hg hv; have GE273 := kG hg hv; have hp1 := hpK BK272.out hb (fun _ _ h_ => by (with_reducible repeat (first | refine kN ?_ _ | refine kD ?_ | refine kA ?_ _)); exact h_); have NB272_273 := kX hg (hp1 BK272.out); have NB273_272 := kY hg (hp1 BK272.out); clear HB; replace BK272 := hp0 BK272; have HB := n1_; have BK273 := n2_; clear n1_ n2_ hp0 hp1 hv; clear hb hbox hg) | ((with_reducible refine gate_dst (N := 8) rfl ?_); refine box_event ?hg (N := 8) ?hd (cs := #[.int .i64 a2_0, .int .i64 a2_1]) (t := 23) ?hr ?_; (case hd => rfl); (case hg => rfl); (case hr => first | (go_simp; done) | (go_simp; rfl)); intro gb274 hg w18 hbox hb; have hp0 := hpA BK272.out hb (fun _ _ h_ => by (with_reducible repeat (first | refine kN ?_ _ | refine kD ?_ | refine kA ?_ _)); exact h_); have hv := hvK (w := w) hb (by repeat (first | (with_reducible first | exact HB.out | apply bA | apply bN | apply bD | refine bX ?_ (by assumption)) | exact HB.out)); have n2_ := Am (bT hv hb); have n3_ := Am (hbox); have GW274 := kG hg hv; have GE274 := kG hg hv; have hp1 := hpK BK272.out hb (fun _ _ h_ => by (with_reducible repeat (first | refine kN ?_ _ | refine kD ?_ | refine kA ?_ _)); exact h_); have NB272_274 := kX hg (hp1 BK272.out); have NB274_272 := kY hg (hp1 BK272.out); have NB273_274 := kX hg (hp1 BK273.out); have NB274_273 := kY hg (hp1 BK273.out); clear HB; replace BK272 := hp0 BK272; replace BK273 := hp0 BK273; have HB := n2_; have BK274 := n3_; clear n2_ n3_ hp0 hp1 hv; clear hb hbox hg; have hnb19 := NB272_273.out; have hnc19 := NB273_272.out; have hnb20 := NB272_274.out; have hnc20 := NB274_272.out; have hcz21_0 := c20 BK272.out; have hcz21_1 := c21 BK272.out; have hfz21_0 := kF BK272.out 0; have hfz21_1 := kF BK272.out 1; have hnb22 := NB273_274.out; have hnc22 := NB274_273.out; have hcz23_0 := c20 BK273.out; have hcz23_1 := c21 BK273.out; have hfz23_0 := kF BK273.out 0; have hfz23_1 := kF BK273.out 1) | ((with_reducible refine gate_callee (f := 4) rfl ?_); refine goesL_ (some 56) rfl rfl Try.func4 (by kernel_rfl) rfl #[.agg #[.int .i64 a0_0, .int .i64 a0_1], .agg #[.int .i64 a1_0, .int .i64 a1_1]] rfl (by (try simp only [List.map_toArray, List.map_cons, List.map_nil]); first | done | rfl | (simp only [List.length_drop, List.length_take]; rfl)) ?_; (with_reducible refine (impl_AddTurns.calls k a0_0 a0_1 a1_0 a1_1 t275 t276 t277 _ A7.out).mono ?_); rintro e w24 ⟨rfl, hb⟩; refine ⟨_, rfl, ?_⟩; have hp0 := hpA BK272.out hb (fun _ _ h_ => by (with_reducible repeat (first | refine kN ?_ _ | refine kD ?_ | refine kA ?_ _)); exact h_); have hv := hvK (w := w) hb (by repeat (first | (with_reducible first | exact HB.out | apply bA | apply bN | apply bD | refine bX ?_ (by assumption)) | exact HB.out)); have n3_ := Am (bT hv hb); clear HB; replace BK272 := hp0 BK272; replace BK273 := hp0 BK273; replace BK274 := hp0 BK274; have HB := n3_; clear n3_ hp0 hv; (try clear hb)) | ((with_reducible refine gate_dst (N := 13) rfl ?_); refine box_event ?hg (N := 13) ?hd (cs := #[.int .i64 0, .int .i64 0]) (t := 23) ?hr ?_; (case hd => rfl); (case hg => rfl); (case hr => first | (go_simp; done) | (go_simp; rfl)); intro gb278 hg w25 hbox hb; have hp0 := hpA BK272.out hb (fun _ _ h_ => by (with_reducible repeat (first | refine kN ?_ _ | refine kD ?_ | refine kA ?_ _)); exact h_); have hv := hvK (w := w) hb (by repeat (first | (with_reducible first | exact HB.out | apply bA | apply bN | apply bD | refine bX ?_ (by assumption)) | exact HB.out)); have n3_ := Am (bT hv hb); have n4_ := Am (hbox); have GW278 := kG hg hv; have GE278 := kG hg hv; have hp1 := hpK BK272.out hb (fun _ _ h_ => by (with_reducible repeat (first | refine kN ?_ _ | refine kD ?_ | refine kA ?_ _)); exact h_); have NB272_278 := kX hg (hp1 BK272.out); have NB278_272 := kY hg (hp1 BK272.out); have NB273_278 := kX hg (hp1 BK273.out); have NB278_273 := kY hg (hp1 BK273.out); have NB274_278 := kX hg (hp1 BK274.out); have NB278_274 := kY hg (hp1 BK274.out); clear HB; replace BK272 := hp0 BK272; replace BK273 := hp0 BK273; replace BK274 := hp0 BK274; have HB := n3_; have BK278 := n4_; clear n3_ n4_ hp0 hp1 hv; clear hb hbox hg; have hnb26 := NB278_272.out; have hnc26 := NB272_278.out; have hnb27 := NB278_273.out; have hnc27 := NB273_278.out; have hnb28 := NB278_274.out; have hnc28 := NB274_278.out; have hcz29_0 := c20 BK278.out; have hcz29_1 := c21 BK278.out; have hfz29_0 := kF BK278.out 0; have hfz29_1 := kF BK278.out 1; have hcz30_0 := c20 BK272.out; have hcz30_1 := c21 BK272.out; have hfz30_0 := kF BK272.out 0; have hfz30_1 := kF BK272.out 1; have hcz31_0 := c20 BK273.out; have hcz31_1 := c21 BK273.out; have hfz31_0 := kF BK273.out 0; have hfz31_1 := kF BK273.out 1) | ((with_reducible refine gate_callee (f := 5) rfl ?_); refine goesL_ (some 62) rfl rfl Try.func5 (by kernel_rfl) rfl #[.agg #[.int .i64 a0_0, .int .i64 a0_1], .agg #[.int .i64 a1_0, .int .i64 a1_1]] rfl (by (try simp only [List.map_toArray, List.map_cons, List.map_nil]); first | done | rfl | (simp only [List.length_drop, List.length_take]; rfl)) ?_; (with_reducible refine (spec_AddTurns.calls k a0_0 a0_1 a1_0 a1_1 t279 t280 t281 _ A8.out).mono ?_); rintro e w32 ⟨rfl, hb⟩; refine ⟨_, rfl, ?_⟩; have hp0 := hpB gb278 BK272.out hb (fun _ _ q_ h_ => by (with_reducible repeat (first | refine kN ?_ _ | refine kD ?_ | refine kA ?_ _ | refine kZ ?_ q_ _)); exact h_); have n3_ := Am (kB (g := gb278) (o := .cells #[.int .i64 t275, .int .i64 t276] 23 (0, 0)) (by (with_reducible repeat (first | refine kN ?_ _ | refine kD ?_ | refine kA ?_ _)); refine kP (cs := #[.int .i64 t275, .int .i64 0]) ?_ 1 _ rfl; (with_reducible repeat (first | refine kN ?_ _ | refine kD ?_ | refine kA ?_ _)); refine kP (cs := #[.int .i64 0, .int .i64 0]) ?_ 0 _ rfl; (with_reducible repeat (first | refine kN ?_ _ | refine kD ?_ | refine kA ?_ _)); exact BK278.out) hb); have hv := hvK (w := w) hb (by repeat (first | (with_reducible first | exact HB.out | apply bA | apply bN | apply bD | refine bX ?_ (by assumption)) | exact HB.out)); have n4_ := Am (bT hv hb); clear BK278; clear HB; replace BK272 := hp0 NB272_278 BK272; replace BK273 := hp0 NB273_278 BK273; replace BK274 := hp0 NB274_278 BK274; have BK278 := n3_; have HB := n4_; clear n3_ n4_ hp0 hv; (try clear hb)) | ((with_reducible refine gate_dst (N := 15) rfl ?_); refine box_event ?hg (N := 15) ?hd (cs := #[.int .i64 0, .int .i64 0]) (t := 23) ?hr ?_; (case hd => rfl); (case hg => rfl); (case hr => first | (go_simp; done) | (go_simp; rfl)); intro gb282 hg w33 hbox hb; have hp0 := hpA BK272.out hb (fun _ _ h_ => by (with_reducible repeat (first | refine kN ?_ _ | refine kD ?_ | refine kA ?_ _)); exact h_); have hv := hvK (w := w) hb (by repeat (first | (with_reducible first | exact HB.out | apply bA | apply bN | apply bD | refine bX ?_ (by assumption)) | exact HB.out)); have n4_ := Am (bT hv hb); have n5_ := Am (hbox); have GW282 := kG hg hv; have GE282 := kG hg hv; have hp1 := hpK BK272.out hb (fun _ _ h_ => by (with_reducible repeat (first | refine kN ?_ _ | refine kD ?_ | refine kA ?_ _)); exact h_); have NB272_282 := kX hg (hp1 BK272.out); have NB282_272 := kY hg (hp1 BK272.out); have NB273_282 := kX hg (hp1 BK273.out); have NB282_273 := kY hg (hp1 BK273.out); have NB274_282 := kX hg (hp1 BK274.out); have NB282_274 := kY hg (hp1 BK274.out); have NB278_282 := kX hg (hp1 BK278.out); have NB282_278 := kY hg (hp1 BK278.out); clear HB; replace BK272 := hp0 BK272; replace BK273 := hp0 BK273; replace BK274 := hp0 BK274; replace BK278 := hp0 BK278; have HB := n4_; have BK282 := n5_; clear n4_ n5_ hp0 hp1 hv; clear hb hbox hg; have hnb34 := NB282_272.out; have hnc34 := NB272_282.out; have hnb35 := NB282_273.out; have hnc35 := NB273_282.out; have hnb36 := NB282_274.out; have hnc36 := NB274_282.out; have hnb37 := NB282_278.out; have hnc37 := NB278_282.out; have hcz38_0 := c20 BK282.out; have hcz38_1 := c21 BK282.out; have hfz38_0 := kF BK282.out 0; have hfz38_1 := kF BK282.out 1; have hcz39_0 := c20 BK272.out; have hcz39_1 := c21 BK272.out; have hfz39_0 := kF BK272.out 0; have hfz39_1 := kF BK272.out 1; have hcz40_0 := c20 BK273.out; have hcz40_1 := c21 BK273.out; have hfz40_0 := kF BK273.out 0; have hfz40_1 := kF BK273.out 1) | ((with_reducible refine gate_callee (f := 6) rfl ?_); refine goesL_ (some 68) rfl rfl Try.func6 (by kernel_rfl) rfl #[.agg #[.int .i64 a0_0, .int .i64 a0_1], .agg #[.int .i64 a1_0, .int .i64 a1_1]] rfl (by (try simp only [List.map_toArray, List.map_cons, List.map_nil]); first | done | rfl | (simp only [List.length_drop, List.length_take]; rfl)) ?_; (with_reducible refine (impl_LessTurn.calls k a0_0 a0_1 a1_0 a1_1 t283 t284 t285 _ A9.out).mono ?_); rintro e w41 ⟨rfl, hb⟩; refine ⟨_, rfl, ?_⟩; have hp0 := hpB gb282 BK272.out hb (fun _ _ q_ h_ => by (with_reducible repeat (first | refine kN ?_ _ | refine kD ?_ | refine kA ?_ _ | refine kZ ?_ q_ _)); exact h_); have n4_ := Am (kB (g := gb282) (o := .cells #[.int .i64 t279, .int .i64 t280] 23 (0, 0)) (by (with_reducible repeat (first | refine kN ?_ _ | refine kD ?_ | refine kA ?_ _)); refine kP (cs := #[.int .i64 t279, .int .i64 0]) ?_ 1 _ rfl; (with_reducible repeat (first | refine kN ?_ _ | refine kD ?_ | refine kA ?_ _)); refine kP (cs := #[.int .i64 0, .int .i64 0]) ?_ 0 _ rfl; (with_reducible repeat (first | refine kN ?_ _ | refine kD ?_ | refine kA ?_ _)); exact BK282.out) hb); have hv := hvK (w := w) hb (by repeat (first | (with_reducible first | exact HB.out | apply bA | apply bN | apply bD | refine bX ?_ (by assumption)) | exact HB.out)); have n5_ := Am (bT hv hb); clear BK282; clear HB; replace BK272 := hp0 NB272_282 BK272; replace BK273 := hp0 NB273_282 BK273; replace BK274 := hp0 NB274_282 BK274; replace BK278 := hp0 NB278_282 BK278; have BK282 := n4_; have HB := n5_; clear n4_ n5_ hp0 hv; (try clear hb)) | ((with_reducible refine gate_dst (N := 17) rfl ?_); refine box_event ?hg (N := 17) ?hd (cs := #[.int .i64 0, .int .i64 0]) (t := 23) ?hr ?_; (case hd => rfl); (case hg => rfl); (case hr => first | (go_simp; done) | (go_simp; rfl)); intro gb286 hg w42 hbox hb; have hp0 := hpA BK272.out hb (fun _ _ h_ => by (with_reducible repeat (first | refine kN ?_ _ | refine kD ?_ | refine kA ?_ _)); exact h_); have hv := hvK (w := w) hb (by repeat (first | (with_reducible first | exact HB.out | apply bA | apply bN | apply bD | refine bX ?_ (by assumption)) | exact HB.out)); have n5_ := Am (bT hv hb); have n6_ := Am (hbox); have GW286 := kG hg hv; have GE286 := kG hg hv; have hp1 := hpK BK272.out hb (fun _ _ h_ => by (with_reducible repeat (first | refine kN ?_ _ | refine kD ?_ | refine kA ?_ _)); exact h_); have NB272_286 := kX hg (hp1 BK272.out); have NB286_272 := kY hg (hp1 BK272.out); have NB273_286 := kX hg (hp1 BK273.out); have NB286_273 := kY hg (hp1 BK273.out); have NB274_286 := kX hg (hp1 BK274.out); have NB286_274 := kY hg (hp1 BK274.out); have NB278_286 := kX hg (hp1 BK278.out); have NB286_278 := kY hg (hp1 BK278.out); have NB282_286 := kX hg (hp1 BK282.out); have NB286_282 := kY hg (hp1 BK282.out); clear HB; replace BK272 := hp0 BK272; replace BK273 := hp0 BK273; replace BK274 := hp0 BK274; replace BK278 := hp0 BK278; replace BK282 := hp0 BK282; have HB := n5_; have BK286 := n6_; clear n5_ n6_ hp0 hp1 hv; clear hb hbox hg; have hnb43 := NB286_272.out; have hnc43 := NB272_286.out; have hnb44 := NB286_273.out; have hnc44 := NB273_286.out; have hnb45 := NB286_274.out; have hnc45 := NB274_286.out; have hnb46 := NB286_278.out; have hnc46 := NB278_286.out; have hnb47 := NB286_282.out; have hnc47 := NB282_286.out; have hcz48_0 := c20 BK286.out; have hcz48_1 := c21 BK286.out; have hfz48_0 := kF BK286.out 0; have hfz48_1 := kF BK286.out 1; have hcz49_0 := c20 BK272.out; have hcz49_1 := c21 BK272.out; have hfz49_0 := kF BK272.out 0; have hfz49_1 := kF BK272.out 1; have hcz50_0 := c20 BK273.out; have hcz50_1 := c21 BK273.out; have hfz50_0 := kF BK273.out 0; have hfz50_1 := kF BK273.out 1) | ((with_reducible refine gate_callee (f := 7) rfl ?_); refine goesL_ (some 74) rfl rfl Try.func7 (by kernel_rfl) rfl #[.agg #[.int .i64 a0_0, .int .i64 a0_1], .agg #[.int .i64 a1_0, .int .i64 a1_1]] rfl (by (try simp only [List.map_toArray, List.map_cons, List.map_nil]); first | done | rfl | (simp only [List.length_drop, List.length_take]; rfl)) ?_; (with_reducible refine (spec_LessTurn.calls k a0_0 a0_1 a1_0 a1_1 t287 t288 t289 _ A10.out).mono ?_); rintro e w51 ⟨rfl, hb⟩; refine ⟨_, rfl, ?_⟩; have hp0 := hpB gb286 BK272.out hb (fun _ _ q_ h_ => by (with_reducible repeat (first | refine kN ?_ _ | refine kD ?_ | refine kA ?_ _ | refine kZ ?_ q_ _)); exact h_); have n5_ := Am (kB (g := gb286) (o := .cells #[.int .i64 t283, .int .i64 t284] 23 (0, 0)) (by (with_reducible repeat (first | refine kN ?_ _ | refine kD ?_ | refine kA ?_ _)); refine kP (cs := #[.int .i64 t283, .int .i64 0]) ?_ 1 _ rfl; (with_reducible repeat (first | refine kN ?_ _ | refine kD ?_ | refine kA ?_ _)); refine kP (cs := #[.int .i64 0, .int .i64 0]) ?_ 0 _ rfl; (with_reducible repeat (first | refine kN ?_ _ | refine kD ?_ | refine kA ?_ _)); exact BK286.out) hb); have hv := hvK (w := w) hb (by repeat (first | (with_reducible first | exact HB.out | apply bA | apply bN | apply bD | refine bX ?_ (by assumption)) | exact HB.out)); have n6_ := Am (bT hv hb); clear BK286; clear HB; replace BK272 := hp0 NB272_286 BK272; replace BK273 := hp0 NB273_286 BK273; replace BK274 := hp0 NB274_286 BK274; replace BK278 := hp0 NB278_286 BK278; replace BK282 := hp0 NB282_286 BK282; have BK286 := n5_; have HB := n6_; clear n5_ n6_ hp0 hv; (try clear hb)) | ((with_reducible refine gate_dst (N := 19) rfl ?_); refine box_event ?hg (N := 19) ?hd (cs := #[.int .i64 0, .int .i64 0]) (t := 23) ?hr ?_; (case hd => rfl); (case hg => rfl); (case hr => first | (go_simp; done) | (go_simp; rfl)); intro gb290 hg w52 hbox hb; have hp0 := hpA BK272.out hb (fun _ _ h_ => by (with_reducible repeat (first | refine kN ?_ _ | refine kD ?_ | refine kA ?_ _)); exact h_); have hv := hvK (w := w) hb (by repeat (first | (with_reducible first | exact HB.out | apply bA | apply bN | apply bD | refine bX ?_ (by assumption)) | exact HB.out)); have n6_ := Am (bT hv hb); have n7_ := Am (hbox); have GW290 := kG hg hv; have GE290 := kG hg hv; have hp1 := hpK BK272.out hb (fun _ _ h_ => by (with_reducible repeat (first | refine kN ?_ _ | refine kD ?_ | refine kA ?_ _)); exact h_); have NB272_290 := kX hg (hp1 BK272.out); have NB290_272 := kY hg (hp1 BK272.out); have NB273_290 := kX hg (hp1 BK273.out); have NB290_273 := kY hg (hp1 BK273.out); have NB274_290 := kX hg (hp1 BK274.out); have NB290_274 := kY hg (hp1 BK274.out); have NB278_290 := kX hg (hp1 BK278.out); have NB290_278 := kY hg (hp1 BK278.out); have NB282_290 := kX hg (hp1 BK282.out); have NB290_282 := kY hg (hp1 BK282.out); have NB286_290 := kX hg (hp1 BK286.out); have NB290_286 := kY hg (hp1 BK286.out); clear HB; replace BK272 := hp0 BK272; replace BK273 := hp0 BK273; replace BK274 := hp0 BK274; replace BK278 := hp0 BK278; replace BK282 := hp0 BK282; replace BK286 := hp0 BK286; have HB := n6_; have BK290 := n7_; clear n6_ n7_ hp0 hp1 hv; clear hb hbox hg; have hnb53 := NB290_272.out; have hnc53 := NB272_290.out; have hnb54 := NB290_273.out; have hnc54 := NB273_290.out; have hnb55 := NB290_274.out; have hnc55 := NB274_290.out; have hnb56 := NB290_278.out; have hnc56 := NB278_290.out; have hnb57 := NB290_282.out; have hnc57 := NB282_290.out; have hnb58 := NB290_286.out; have hnc58 := NB286_290.out; have hcz59_0 := c20 BK290.out; have hcz59_1 := c21 BK290.out; have hfz59_0 := kF BK290.out 0; have hfz59_1 := kF BK290.out 1; have hcz60_0 := c20 BK272.out; have hcz60_1 := c21 BK272.out; have hfz60_0 := kF BK272.out 0; have hfz60_1 := kF BK272.out 1; have hcz61_0 := c20 BK273.out; have hcz61_1 := c21 BK273.out; have hfz61_0 := kF BK273.out 0; have hfz61_1 := kF BK273.out 1) | ((with_reducible refine gate_callee (f := 8) rfl ?_); refine goesL_ (some 80) rfl rfl Try.func8 (by kernel_rfl) rfl #[.agg #[.int .i64 a0_0, .int .i64 a0_1], .agg #[.int .i64 a1_0, .int .i64 a1_1]] rfl (by (try simp only [List.map_toArray, List.map_cons, List.map_nil]); first | done | rfl | (simp only [List.length_drop, List.length_take]; rfl)) ?_; (with_reducible refine (impl_CompareTurns.calls k a0_0 a0_1 a1_0 a1_1 t291 t292 _ A11.out).mono ?_); rintro e w62 ⟨rfl, hb⟩; refine ⟨_, rfl, ?_⟩; have hp0 := hpB gb290 BK272.out hb (fun _ _ q_ h_ => by (with_reducible repeat (first | refine kN ?_ _ | refine kD ?_ | refine kA ?_ _ | refine kZ ?_ q_ _)); exact h_); have n6_ := Am (kB (g := gb290) (o := .cells #[.int .i64 t287, .int .i64 t288] 23 (0, 0)) (by (with_reducible repeat (first | refine kN ?_ _ | refine kD ?_ | refine kA ?_ _)); refine kP (cs := #[.int .i64 t287, .int .i64 0]) ?_ 1 _ rfl; (with_reducible repeat (first | refine kN ?_ _ | refine kD ?_ | refine kA ?_ _)); refine kP (cs := #[.int .i64 0, .int .i64 0]) ?_ 0 _ rfl; (with_reducible repeat (first | refine kN ?_ _ | refine kD ?_ | refine kA ?_ _)); exact BK290.out) hb); have hv := hvK (w := w) hb (by repeat (first | (with_reducible first | exact HB.out | apply bA | apply bN | apply bD | refine bX ?_ (by assumption)) | exact HB.out)); have n7_ := Am (bT hv hb); clear BK290; clear HB; replace BK272 := hp0 NB272_290 BK272; replace BK273 := hp0 NB273_290 BK273; replace BK274 := hp0 NB274_290 BK274; replace BK278 := hp0 NB278_290 BK278; replace BK282 := hp0 NB282_290 BK282; replace BK286 := hp0 NB286_290 BK286; have BK290 := n6_; have HB := n7_; clear n6_ n7_ hp0 hv; (try clear hb); have hcz63_0 := c20 BK272.out; have hcz63_1 := c21 BK272.out; have hfz63_0 := kF BK272.out 0; have hfz63_1 := kF BK272.out 1; have hcz64_0 := c20 BK273.out; have hcz64_1 := c21 BK273.out; have hfz64_0 := kF BK273.out 0; have hfz64_1 := kF BK273.out 1) | ((with_reducible refine gate_callee (f := 9) rfl ?_); refine goesL_ (some 86) rfl rfl Try.func9 (by kernel_rfl) rfl #[.agg #[.int .i64 a0_0, .int .i64 a0_1], .agg #[.int .i64 a1_0, .int .i64 a1_1]] rfl (by (try simp only [List.map_toArray, List.map_cons, List.map_nil]); first | done | rfl | (simp only [List.length_drop, List.length_take]; rfl)) ?_; (with_reducible refine (spec_CompareTurns.calls k a0_0 a0_1 a1_0 a1_1 t293 t294 _ A12.out).mono ?_); rintro e w65 ⟨rfl, hb⟩; refine ⟨_, rfl, ?_⟩; have hp0 := hpA BK272.out hb (fun _ _ h_ => by (with_reducible repeat (first | refine kN ?_ _ | refine kD ?_ | refine kA ?_ _)); exact h_); have hv := hvK (w := w) hb (by repeat (first | (with_reducible first | exact HB.out | apply bA | apply bN | apply bD | refine bX ?_ (by assumption)) | exact HB.out)); have n7_ := Am (bT hv hb); clear HB; replace BK272 := hp0 BK272; replace BK273 := hp0 BK273; replace BK274 := hp0 BK274; replace BK278 := hp0 BK278; replace BK282 := hp0 BK282; replace BK286 := hp0 BK286; replace BK290 := hp0 BK290; have HB := n7_; clear n7_ hp0 hv; (try clear hb); have hcz66_0 := c20 BK272.out; have hcz66_1 := c21 BK272.out; have hfz66_0 := kF BK272.out 0; have hfz66_1 := kF BK272.out 1) | ((with_reducible refine gate_callee (f := 10) rfl ?_); refine goesL_ (some 91) rfl rfl Try.func10 (by kernel_rfl) rfl #[.agg #[.int .i64 a0_0, .int .i64 a0_1]] rfl (by (try simp only [List.map_toArray, List.map_cons, List.map_nil]); first | done | rfl | (simp only [List.length_drop, List.length_take]; rfl)) ?_; (with_reducible refine (impl_MirrorTurn.calls k a0_0 a0_1 t295 t296 t297 _ A13.out).mono ?_); rintro e w67 ⟨rfl, hb⟩; refine ⟨_, rfl, ?_⟩; have hp0 := hpA BK272.out hb (fun _ _ h_ => by (with_reducible repeat (first | refine kN ?_ _ | refine kD ?_ | refine kA ?_ _)); exact h_); have hv := hvK (w := w) hb (by repeat (first | (with_reducible first | exact HB.out | apply bA | apply bN | apply bD | refine bX ?_ (by assumption)) | exact HB.out)); have n7_ := Am (bT hv hb); clear HB; replace BK272 := hp0 BK272; replace BK273 := hp0 BK273; replace BK274 := hp0 BK274; replace BK278 := hp0 BK278; replace BK282 := hp0 BK282; replace BK286 := hp0 BK286; replace BK290 := hp0 BK290; have HB := n7_; clear n7_ hp0 hv; (try clear hb)) | ((with_reducible refine gate_dst (N := 25) rfl ?_); refine box_event ?hg (N := 25) ?hd (cs := #[.int .i64 0, .int .i64 0]) (t := 23) ?hr ?_; (case hd => rfl); (case hg => rfl); (case hr => first | (go_simp; done) | (go_simp; rfl)); intro gb298 hg w68 hbox hb; have hp0 := hpA BK272.out hb (fun _ _ h_ => by (with_reducible repeat (first | refine kN ?_ _ | refine kD ?_ | refine kA ?_ _)); exact h_); have hv := hvK (w := w) hb (by repeat (first | (with_reducible first | exact HB.out | apply bA | apply bN | apply bD | refine bX ?_ (by assumption)) | exact HB.out)); have n7_ := Am (bT hv hb); have n8_ := Am (hbox); have GW298 := kG hg hv; have GE298 := kG hg hv; have hp1 := hpK BK272.out hb (fun _ _ h_ => by (with_reducible repeat (first | refine kN ?_ _ | refine kD ?_ | refine kA ?_ _)); exact h_); have NB272_298 := kX hg (hp1 BK272.out); have NB298_272 := kY hg (hp1 BK272.out); have NB273_298 := kX hg (hp1 BK273.out); have NB298_273 := kY hg (hp1 BK273.out); have NB274_298 := kX hg (hp1 BK274.out); have NB298_274 := kY hg (hp1 BK274.out); have NB278_298 := kX hg (hp1 BK278.out); have NB298_278 := kY hg (hp1 BK278.out); have NB282_298 := kX hg (hp1 BK282.out); have NB298_282 := kY hg (hp1 BK282.out); have NB286_298 := kX hg (hp1 BK286.out); have NB298_286 := kY hg (hp1 BK286.out); have NB290_298 := kX hg (hp1 BK290.out); have NB298_290 := kY hg (hp1 BK290.out); clear HB; replace BK272 := hp0 BK272; replace BK273 := hp0 BK273; replace BK274 := hp0 BK274; replace BK278 := hp0 BK278; replace BK282 := hp0 BK282; replace BK286 := hp0 BK286; replace BK290 := hp0 BK290; have HB := n7_; have BK298 := n8_; clear n7_ n8_ hp0 hp1 hv; clear hb hbox hg; have hnb69 := NB298_272.out; have hnc69 := NB272_298.out; have hnb70 := NB298_273.out; have hnc70 := NB273_298.out; have hnb71 := NB298_274.out; have hnc71 := NB274_298.out; have hnb72 := NB298_278.out; have hnc72 := NB278_298.out; have hnb73 := NB298_282.out; have hnc73 := NB282_298.out; have hnb74 := NB298_286.out; have hnc74 := NB286_298.out; have hnb75 := NB298_290.out; have hnc75 := NB290_298.out; have hcz76_0 := c20 BK298.out; have hcz76_1 := c21 BK298.out; have hfz76_0 := kF BK298.out 0; have hfz76_1 := kF BK298.out 1; have hcz77_0 := c20 BK272.out; have hcz77_1 := c21 BK272.out; have hfz77_0 := kF BK272.out 0; have hfz77_1 := kF BK272.out 1) | ((with_reducible refine gate_callee (f := 11) rfl ?_); refine goesL_ (some 96) rfl rfl Try.func11 (by kernel_rfl) rfl #[.agg #[.int .i64 a0_0, .int .i64 a0_1]] rfl (by (try simp only [List.map_toArray, List.map_cons, List.map_nil]); first | done | rfl | (simp only [List.length_drop, List.length_take]; rfl)) ?_; (with_reducible refine (spec_MirrorTurn.calls k a0_0 a0_1 t299 t300 t301 _ A14.out).mono ?_); rintro e w78 ⟨rfl, hb⟩; refine ⟨_, rfl, ?_⟩; have hp0 := hpB gb298 BK272.out hb (fun _ _ q_ h_ => by (with_reducible repeat (first | refine kN ?_ _ | refine kD ?_ | refine kA ?_ _ | refine kZ ?_ q_ _)); exact h_); have n7_ := Am (kB (g := gb298) (o := .cells #[.int .i64 t295, .int .i64 t296] 23 (0, 0)) (by (with_reducible repeat (first | refine kN ?_ _ | refine kD ?_ | refine kA ?_ _)); refine kP (cs := #[.int .i64 t295, .int .i64 0]) ?_ 1 _ rfl; (with_reducible repeat (first | refine kN ?_ _ | refine kD ?_ | refine kA ?_ _)); refine kP (cs := #[.int .i64 0, .int .i64 0]) ?_ 0 _ rfl; (with_reducible repeat (first | refine kN ?_ _ | refine kD ?_ | refine kA ?_ _)); exact BK298.out) hb); have hv := hvK (w := w) hb (by repeat (first | (with_reducible first | exact HB.out | apply bA | apply bN | apply bD | refine bX ?_ (by assumption)) | exact HB.out)); have n8_ := Am (bT hv hb); clear BK298; clear HB; replace BK272 := hp0 NB272_298 BK272; replace BK273 := hp0 NB273_298 BK273; replace BK274 := hp0 NB274_298 BK274; replace BK278 := hp0 NB278_298 BK278; replace BK282 := hp0 NB282_298 BK282; replace BK286 := hp0 NB286_298 BK286; replace BK290 := hp0 NB290_298 BK290; have BK298 := n7_; have HB := n8_; clear n7_ n8_ hp0 hv; (try clear hb)) | ((with_reducible refine gate_dst (N := 27) rfl ?_); refine box_event ?hg (N := 27) ?hd (cs := #[.int .i64 0, .int .i64 0]) (t := 23) ?hr ?_; (case hd => rfl); (case hg => rfl); (case hr => first | (go_simp; done) | (go_simp; rfl)); intro gb302 hg w79 hbox hb; have hp0 := hpA BK272.out hb (fun _ _ h_ => by (with_reducible repeat (first | refine kN ?_ _ | refine kD ?_ | refine kA ?_ _)); exact h_); have hv := hvK (w := w) hb (by repeat (first | (with_reducible first | exact HB.out | apply bA | apply bN | apply bD | refine bX ?_ (by assumption)) | exact HB.out)); have n8_ := Am (bT hv hb); have n9_ := Am (hbox); have GW302 := kG hg hv; have GE302 := kG hg hv; have hp1 := hpK BK272.out hb (fun _ _ h_ => by (with_reducible repeat (first | refine kN ?_ _ | refine kD ?_ | refine kA ?_ _)); exact h_); have NB272_302 := kX hg (hp1 BK272.out); have NB302_272 := kY hg (hp1 BK272.out); have NB273_302 := kX hg (hp1 BK273.out); have NB302_273 := kY hg (hp1 BK273.out); have NB274_302 := kX hg (hp1 BK274.out); have NB302_274 := kY hg (hp1 BK274.out); have NB278_302 := kX hg (hp1 BK278.out); have NB302_278 := kY hg (hp1 BK278.out); have NB282_302 := kX hg (hp1 BK282.out); have NB302_282 := kY hg (hp1 BK282.out); have NB286_302 := kX hg (hp1 BK286.out); have NB302_286 := kY hg (hp1 BK286.out); have NB290_302 := kX hg (hp1 BK290.out); have NB302_290 := kY hg (hp1 BK290.out); have NB298_302 := kX hg (hp1 BK298.out); have NB302_298 := kY hg (hp1 BK298.out); clear HB; replace BK272 := hp0 BK272; replace BK273 := hp0 BK273; replace BK274 := hp0 BK274; replace BK278 := hp0 BK278; replace BK282 := hp0 BK282; replace BK286 := hp0 BK286; replace BK290 := hp0 BK290; replace BK298 := hp0 BK298; have HB := n8_; have BK302 := n9_; clear n8_ n9_ hp0 hp1 hv; clear hb hbox hg; have hnb80 := NB302_272.out; have hnc80 := NB272_302.out; have hnb81 := NB302_273.out; have hnc81 := NB273_302.out; have hnb82 := NB302_274.out; have hnc82 := NB274_302.out; have hnb83 := NB302_278.out; have hnc83 := NB278_302.out; have hnb84 := NB302_282.out; have hnc84 := NB282_302.out; have hnb85 := NB302_286.out; have hnc85 := NB286_302.out; have hnb86 := NB302_290.out; have hnc86 := NB290_302.out; have hnb87 := NB302_298.out; have hnc87 := NB298_302.out; have hcz88_0 := c20 BK302.out; have hcz88_1 := c21 BK302.out; have hfz88_0 := kF BK302.out 0; have hfz88_1 := kF BK302.out 1))
 (try simp only [Act.put, List.setIfInBounds_toArray, List.set_cons_zero, List.set_cons_succ])
 go_cut [173] (fun v173 wc => ∃ (kq : Nat) (x173_14 : Bool), v173 = .bool x173_14 ∧ Aside0 (laws_FnTurnsAddedOfAll.j0 kq a3 a4 a5 t277 t291 t292 t297 x173_14 a0_0 a0_1 a1_0 a1_1 a2_0 a2_1 t275 t276 t295 t296 = some r) ∧ Aside0 (kq ≤ k) ∧ Aside0 (wc.heap[gb272]? = some (.cells #[.int .i64 a0_0, .int .i64 a0_1] 23 (0, 0))) ∧ Aside0 (wc.heap[gb273]? = some (.cells #[.int .i64 a1_0, .int .i64 a1_1] 23 (0, 0))) ∧ Aside0 (wc.heap[gb274]? = some (.cells #[.int .i64 a2_0, .int .i64 a2_1] 23 (0, 0))) ∧ Aside0 (wc.heap[gb278]? = some (.cells #[.int .i64 t275, .int .i64 t276] 23 (0, 0))) ∧ Aside0 (wc.heap[gb282]? = some (.cells #[.int .i64 t279, .int .i64 t280] 23 (0, 0))) ∧ Aside0 (wc.heap[gb286]? = some (.cells #[.int .i64 t283, .int .i64 t284] 23 (0, 0))) ∧ Aside0 (wc.heap[gb290]? = some (.cells #[.int .i64 t287, .int .i64 t288] 23 (0, 0))) ∧ Aside0 (wc.heap[gb298]? = some (.cells #[.int .i64 t295, .int .i64 t296] 23 (0, 0))) ∧ Aside0 (wc.heap[gb302]? = some (.cells #[.int .i64 t299, .int .i64 t300] 23 (0, 0))) ∧ Aside0 (Below w.heap.size w wc))
 case first =>
  have H := HC15.out
  clear HC15
  by_cases c89 : (t277 != t281) = true
  ·rw [if_pos c89] at H
   have c89b0 : (t277 != t281) = true := c89
   (try (have c89b1 : decide (t277 = t281) = false := by simpa using c89))
   (try (have c89b2 : (t277 == t281) = false := by simpa using c89))
   (try (have c89b3 : ¬ (t277 = t281) := by simpa using c89))
   clear c89
   (first | rw [c89b0] | (simp only [i64_w, i32_w]; rw [c89b0]) | skip)
   as_aux_lemma =>
    exact absurd ((laws_FnTurnsAddedOfAll.j0_no H).symm.trans hlaw.out) (by decide)
  rw [if_neg c89] at H
  have c89b0 : (t277 != t281) = false := by simpa using c89
  (try (have c89b1 : decide (t277 = t281) = true := by simpa using c89))
  (try (have c89b2 : (t277 == t281) = true := by simpa using c89))
  clear c89
  (first | rw [c89b0] | (simp only [i64_w, i32_w]; rw [c89b0]) | skip)
  by_cases c90 : (!(t275 == t279) || (!(t276 == t280))) = true
  ·rw [if_pos c90] at H
   have c90b0 : (!(t275 == t279) || (!(t276 == t280))) = true := c90
   clear c90
   as_aux_lemma =>
    exact absurd ((laws_FnTurnsAddedOfAll.j0_no H).symm.trans hlaw.out) (by decide)
  rw [if_neg c90] at H
  have c90b0 : (!(t275 == t279) || (!(t276 == t280))) = false := by simpa using c90
  clear c90
  by_cases c91 : (t285 != t289) = true
  ·rw [if_pos c91] at H
   have c91b0 : (t285 != t289) = true := c91
   (try (have c91b1 : decide (t285 = t289) = false := by simpa using c91))
   (try (have c91b2 : (t285 == t289) = false := by simpa using c91))
   (try (have c91b3 : ¬ (t285 = t289) := by simpa using c91))
   clear c91
   as_aux_lemma =>
    exact absurd ((laws_FnTurnsAddedOfAll.j0_no H).symm.trans hlaw.out) (by decide)
  rw [if_neg c91] at H
  have c91b0 : (t285 != t289) = false := by simpa using c91
  (try (have c91b1 : decide (t285 = t289) = true := by simpa using c91))
  (try (have c91b2 : (t285 == t289) = true := by simpa using c91))
  clear c91
  by_cases c92 : (!(t283 == t287) || (!(t284 == t288))) = true
  ·rw [if_pos c92] at H
   have c92b0 : (!(t283 == t287) || (!(t284 == t288))) = true := c92
   clear c92
   as_aux_lemma =>
    exact absurd ((laws_FnTurnsAddedOfAll.j0_no H).symm.trans hlaw.out) (by decide)
  rw [if_neg c92] at H
  have c92b0 : (!(t283 == t287) || (!(t284 == t288))) = false := by simpa using c92
  clear c92
  by_cases c93 : (t292 != t294) = true
  ·rw [if_pos c93] at H
   have c93b0 : (t292 != t294) = true := c93
   (try (have c93b1 : decide (t292 = t294) = false := by simpa using c93))
   (try (have c93b2 : (t292 == t294) = false := by simpa using c93))
   (try (have c93b3 : ¬ (t292 = t294) := by simpa using c93))
   clear c93
   as_aux_lemma =>
    exact absurd ((laws_FnTurnsAddedOfAll.j0_no H).symm.trans hlaw.out) (by decide)
  rw [if_neg c93] at H
  have c93b0 : (t292 != t294) = false := by simpa using c93
  (try (have c93b1 : decide (t292 = t294) = true := by simpa using c93))
  (try (have c93b2 : (t292 == t294) = true := by simpa using c93))
  clear c93
  by_cases c94 : t291 = t293
  ·rw [if_pos c94] at H
   have c94b0 : (t291 == t293) = true := beq_iff_eq.mpr c94
   have c94b1 : (t291 != t293) = false := bne_eq_false_iff_eq.mpr c94
   clear c94
   by_cases c95 : (t297 != t301) = true
   ·rw [if_pos c95] at H
    have c95b0 : (t297 != t301) = true := c95
    (try (have c95b1 : decide (t297 = t301) = false := by simpa using c95))
    (try (have c95b2 : (t297 == t301) = false := by simpa using c95))
    (try (have c95b3 : ¬ (t297 = t301) := by simpa using c95))
    clear c95
    as_aux_lemma =>
     exact absurd ((laws_FnTurnsAddedOfAll.j0_no H).symm.trans hlaw.out) (by decide)
   rw [if_neg c95] at H
   have c95b0 : (t297 != t301) = false := by simpa using c95
   (try (have c95b1 : decide (t297 = t301) = true := by simpa using c95))
   (try (have c95b2 : (t297 == t301) = true := by simpa using c95))
   clear c95
   by_cases c96 : (!(t295 == t299) || (!(t296 == t300))) = true
   ·rw [if_pos c96] at H
    have c96b0 : (!(t295 == t299) || (!(t296 == t300))) = true := c96
    clear c96
    as_aux_lemma =>
     exact absurd ((laws_FnTurnsAddedOfAll.j0_no H).symm.trans hlaw.out) (by decide)
   rw [if_neg c96] at H
   have c96b0 : (!(t295 == t299) || (!(t296 == t300))) = false := by simpa using c96
   clear c96
   replace H := Option.bind_eq_some_iff.mp H
   obtain ⟨t303, A970, H⟩ := H
   try dsimp only at H
   have A97 := Am A970
   clear A970
   by_cases c98 : (t297 != t303) = true
   ·rw [if_pos c98] at H
    have c98b0 : (t297 != t303) = true := c98
    (try (have c98b1 : decide (t297 = t303) = false := by simpa using c98))
    (try (have c98b2 : (t297 == t303) = false := by simpa using c98))
    (try (have c98b3 : ¬ (t297 = t303) := by simpa using c98))
    clear c98
    as_aux_lemma =>
     exact absurd ((laws_FnTurnsAddedOfAll.j0_no H).symm.trans hlaw.out) (by decide)
   rw [if_neg c98] at H
   have c98b0 : (t297 != t303) = false := by simpa using c98
   (try (have c98b1 : decide (t297 = t303) = true := by simpa using c98))
   (try (have c98b2 : (t297 == t303) = true := by simpa using c98))
   clear c98
   replace H := Option.bind_eq_some_iff.mp H
   obtain ⟨t304, A990, H⟩ := H
   try dsimp only at H
   have A99 := Am A990
   clear A990
   replace H := Option.bind_eq_some_iff.mp H
   obtain ⟨t305, A1000, H⟩ := H
   try dsimp only at H
   have A100 := Am A1000
   clear A1000
   by_cases c101 : (t304 != t305) = true
   ·rw [if_pos c101] at H
    have c101b0 : (t304 != t305) = true := c101
    (try (have c101b1 : decide (t304 = t305) = false := by simpa using c101))
    (try (have c101b2 : (t304 == t305) = false := by simpa using c101))
    (try (have c101b3 : ¬ (t304 = t305) := by simpa using c101))
    clear c101
    as_aux_lemma =>
     exact absurd ((laws_FnTurnsAddedOfAll.j0_no H).symm.trans hlaw.out) (by decide)
   rw [if_neg c101] at H
   have c101b0 : (t304 != t305) = false := by simpa using c101
   (try (have c101b1 : decide (t304 = t305) = true := by simpa using c101))
   (try (have c101b2 : (t304 == t305) = true := by simpa using c101))
   clear c101
   replace H := Option.bind_eq_some_iff.mp H
   obtain ⟨t306, A1020, H⟩ := H
   try dsimp only at H
   have A102 := Am A1020
   clear A1020
   by_cases c103 : t306 = true
   ·subst c103
    have H1 : ((impl_IsTurn.f k a1_0 a1_1).bind fun t307 => (if (t292 != t307) = true then (laws_FnTurnsAddedOfAll.j0 k a3 a4 a5 t277 t291 t292 t297 true a0_0 a0_1 a1_0 a1_1 a2_0 a2_1 t275 t276 t295 t296) else (if t277 = true then (if t292 = true then (if t285 = true then (laws_FnTurnsAddedOfAll.j0 k a3 a4 a5 t277 t291 t292 t297 (!t292) a0_0 a0_1 a1_0 a1_1 a2_0 a2_1 t275 t276 t295 t296) else (laws_FnTurnsAddedOfAll.j0 k a3 a4 a5 t277 t291 t292 t297 false a0_0 a0_1 a1_0 a1_1 a2_0 a2_1 t275 t276 t295 t296)) else (laws_FnTurnsAddedOfAll.j0 k a3 a4 a5 t277 t291 t292 t297 true a0_0 a0_1 a1_0 a1_1 a2_0 a2_1 t275 t276 t295 t296)) else (if t285 = true then (laws_FnTurnsAddedOfAll.j0 k a3 a4 a5 t277 t291 t292 t297 (!t292) a0_0 a0_1 a1_0 a1_1 a2_0 a2_1 t275 t276 t295 t296) else (laws_FnTurnsAddedOfAll.j0 k a3 a4 a5 t277 t291 t292 t297 false a0_0 a0_1 a1_0 a1_1 a2_0 a2_1 t275 t276 t295 t296))))) = some r := by rw [if_pos rfl] at H; exact H
    clear H
    have H := H1
    clear H1
    replace H := Option.bind_eq_some_iff.mp H
    obtain ⟨t307, A1040, H⟩ := H
    try dsimp only at H
    have A104 := Am A1040
    clear A1040
    by_cases c105 : (t292 != t307) = true
    ·rw [if_pos c105] at H
     have c105b0 : (t292 != t307) = true := c105
     (try (have c105b1 : decide (t292 = t307) = false := by simpa using c105))
     (try (have c105b2 : (t292 == t307) = false := by simpa using c105))
     (try (have c105b3 : ¬ (t292 = t307) := by simpa using c105))
     clear c105
     as_aux_lemma =>
      exact absurd ((laws_FnTurnsAddedOfAll.j0_no H).symm.trans hlaw.out) (by decide)
    rw [if_neg c105] at H
    have c105b0 : (t292 != t307) = false := by simpa using c105
    (try (have c105b1 : decide (t292 = t307) = true := by simpa using c105))
    (try (have c105b2 : (t292 == t307) = true := by simpa using c105))
    clear c105
    by_cases c106 : t277 = true
    ·subst c106
     have H1 : (if t292 = true then (if t285 = true then (laws_FnTurnsAddedOfAll.j0 k a3 a4 a5 true t291 t292 t297 (!t292) a0_0 a0_1 a1_0 a1_1 a2_0 a2_1 t275 t276 t295 t296) else (laws_FnTurnsAddedOfAll.j0 k a3 a4 a5 true t291 t292 t297 false a0_0 a0_1 a1_0 a1_1 a2_0 a2_1 t275 t276 t295 t296)) else (laws_FnTurnsAddedOfAll.j0 k a3 a4 a5 true t291 t292 t297 true a0_0 a0_1 a1_0 a1_1 a2_0 a2_1 t275 t276 t295 t296)) = some r := by rw [if_pos rfl] at H; exact H
     clear H
     have H := H1
     clear H1
     by_cases c107 : t292 = true
     ·subst c107
      have H1 : (if t285 = true then (laws_FnTurnsAddedOfAll.j0 k a3 a4 a5 true t291 true t297 (!true) a0_0 a0_1 a1_0 a1_1 a2_0 a2_1 t275 t276 t295 t296) else (laws_FnTurnsAddedOfAll.j0 k a3 a4 a5 true t291 true t297 false a0_0 a0_1 a1_0 a1_1 a2_0 a2_1 t275 t276 t295 t296)) = some r := by rw [if_pos rfl] at H; exact H
      clear H
      have H := H1
      clear H1
      by_cases c108 : t285 = true
      ·subst c108
       have H1 : (laws_FnTurnsAddedOfAll.j0 k a3 a4 a5 true t291 true t297 (!true) a0_0 a0_1 a1_0 a1_1 a2_0 a2_1 t275 t276 t295 t296) = some r := by rw [if_pos rfl] at H; exact H
       clear H
       have H := H1
       clear H1
       as_aux_lemma =>
        have H' := Am H
        clear H
        try go_wp2
        have hq := hqR (W := ((w79.setCell ⟨gb302, 0, none⟩ (.int .i64 t299)).setCell ⟨gb302, 1, none⟩ (.int .i64 t300))) gb302 BK272.out (fun _ _ q_ h_ => by (with_reducible repeat (first | refine kN ?_ _ | refine kD ?_ | refine kA ?_ _ | refine kZ ?_ q_ _)); exact h_)
        have n0_ := Am (hq NB272_302.out BK272.out)
        have n1_ := Am (hq NB273_302.out BK273.out)
        have n2_ := Am (hq NB274_302.out BK274.out)
        have n3_ := Am (hq NB278_302.out BK278.out)
        have n4_ := Am (hq NB282_302.out BK282.out)
        have n5_ := Am (hq NB286_302.out BK286.out)
        have n6_ := Am (hq NB290_302.out BK290.out)
        have n7_ := Am (hq NB298_302.out BK298.out)
        have n8_ : Aside0 (((w79.setCell ⟨gb302, 0, none⟩ (.int .i64 t299)).setCell ⟨gb302, 1, none⟩ (.int .i64 t300)).heap[gb302]? = some (.cells #[.int .i64 t299, .int .i64 t300] 23 (0, 0))) := ⟨by (with_reducible repeat (first | refine kN ?_ _ | refine kD ?_ | refine kA ?_ _)); refine kP (cs := #[.int .i64 t299, .int .i64 0]) ?_ 1 _ rfl; (with_reducible repeat (first | refine kN ?_ _ | refine kD ?_ | refine kA ?_ _)); refine kP (cs := #[.int .i64 0, .int .i64 0]) ?_ 0 _ rfl; (with_reducible repeat (first | refine kN ?_ _ | refine kD ?_ | refine kA ?_ _)); exact BK302.out⟩
        have n9_ : Aside0 (Below w.heap.size w ((w79.setCell ⟨gb302, 0, none⟩ (.int .i64 t299)).setCell ⟨gb302, 1, none⟩ (.int .i64 t300))) := ⟨by repeat (first | (with_reducible first | exact HB.out | apply bA | apply bN | apply bD | refine bX ?_ (by assumption)) | exact HB.out)⟩
        clear hq
        (try clear BK272)
        (try clear BK273)
        (try clear BK274)
        (try clear BK278)
        (try clear BK282)
        (try clear BK286)
        (try clear BK290)
        (try clear BK298)
        (try clear BK302)
        (try clear HB)
        generalize ((w79.setCell ⟨gb302, 0, none⟩ (.int .i64 t299)).setCell ⟨gb302, 1, none⟩ (.int .i64 t300)) = w109 at n0_ n1_ n2_ n3_ n4_ n5_ n6_ n7_ n8_ n9_ ⊢
        have BK272 := n0_; have BK273 := n1_; have BK274 := n2_; have BK278 := n3_; have BK282 := n4_; have BK286 := n5_; have BK290 := n6_; have BK298 := n7_; have BK302 := n8_; have HB := n9_
        clear n0_ n1_ n2_ n3_ n4_ n5_ n6_ n7_ n8_ n9_
        have n0_ := Am (kD BK272.out)
        have n1_ := Am (kD BK273.out)
        have n2_ := Am (kD BK274.out)
        have n3_ := Am (kD BK278.out)
        have n4_ := Am (kD BK282.out)
        have n5_ := Am (kD BK286.out)
        have n6_ := Am (kD BK290.out)
        have n7_ := Am (kD BK298.out)
        have n8_ := Am (kD BK302.out)
        have n9_ := Am (bD HB.out)
        clear BK272 BK273 BK274 BK278 BK282 BK286 BK290 BK298 BK302 HB
        have BK272 := n0_; have BK273 := n1_; have BK274 := n2_; have BK278 := n3_; have BK282 := n4_; have BK286 := n5_; have BK290 := n6_; have BK298 := n7_; have BK302 := n8_; have HB := n9_
        clear n0_ n1_ n2_ n3_ n4_ n5_ n6_ n7_ n8_ n9_
        refine start_ (n := 75) (S := fun w' => w'.cell? ⟨gb278, 0, none⟩ = some (.int .i64 t275) ∧ w'.cell? ⟨gb278, 1, none⟩ = some (.int .i64 t276) ∧ w'.cell? ⟨gb282, 0, none⟩ = some (.int .i64 t279) ∧ w'.cell? ⟨gb282, 1, none⟩ = some (.int .i64 t280) ∧ w'.cell? ⟨gb286, 0, none⟩ = some (.int .i64 t283) ∧ w'.cell? ⟨gb286, 1, none⟩ = some (.int .i64 t284) ∧ w'.cell? ⟨gb290, 0, none⟩ = some (.int .i64 t287) ∧ w'.cell? ⟨gb290, 1, none⟩ = some (.int .i64 t288) ∧ w'.cell? ⟨gb298, 0, none⟩ = some (.int .i64 t295) ∧ w'.cell? ⟨gb298, 1, none⟩ = some (.int .i64 t296) ∧ w'.cell? ⟨gb302, 0, none⟩ = some (.int .i64 t299) ∧ w'.cell? ⟨gb302, 1, none⟩ = some (.int .i64 t300) ∧ w'.cell? ⟨gb272, 0, none⟩ = some (.int .i64 a0_0) ∧ w'.cell? ⟨gb272, 1, none⟩ = some (.int .i64 a0_1) ∧ w'.cell? ⟨gb273, 0, none⟩ = some (.int .i64 a1_0) ∧ w'.cell? ⟨gb273, 1, none⟩ = some (.int .i64 a1_1)) (ds := []) (pT 75 0) (by kernel_rfl) rfl rfl ⟨c20 BK278.out, c21 BK278.out, c20 BK282.out, c21 BK282.out, c20 BK286.out, c21 BK286.out, c20 BK290.out, c21 BK290.out, c20 BK298.out, c21 BK298.out, c20 BK302.out, c21 BK302.out, c20 BK272.out, c21 BK272.out, c20 BK273.out, c21 BK273.out⟩ (fun hHeld => ?_); refine with_tabW laws_FnTurnsAddedOfAll.tab9 laws_FnTurnsAddedOfAll.bits9 (fun HT_ HW_ => ?_)
        generalize w109.drew = w110 at BK272 BK273 BK274 BK278 BK282 BK286 BK290 BK298 BK302 HB hHeld ⊢
        iterate 41
         first
         | refine pI (v := ?_) (a' := ?_) rfl (any_of HT_.out (by kernel_rfl)) (fun _ _ _ h => h) (Or.inl ⟨by rfl, ?_⟩) ?_ ?_
           rotate_left
           ·intro w'
            go_simp
            with_reducible rfl
           rotate_left
           ·show Act.put _ (some _) _ = _
            simp only [Act.put, List.setIfInBounds_toArray, List.set_cons_zero, List.set_cons_succ, i64_w, i32_w]
            rfl
         | refine tI (v := ?_) (a' := ?_) rfl (take_ofW HT_.out HW_.out (by kernel_rfl)) (fun _ _ _ h => h) (Or.inl ⟨by rfl, ?_⟩) hHeld ?_ ?_
           rotate_left
           ·rintro w' ⟨s0, s1, s2, s3, s4, s5, s6, s7, s8, s9, s10, s11, s12, s13, s14, s15⟩
            go_simp
            with_reducible rfl
           rotate_left
           ·show Act.put _ (some _) _ = _
            simp only [Act.put, List.setIfInBounds_toArray, List.set_cons_zero, List.set_cons_succ, i64_w, i32_w]
            rfl
        refine one_ (i := 41) (N := some 140) (pT 75 42) rfl rfl (one_of HT_.out (by kernel_rfl)) (by decide) (fun K hK => ?_)
        refine goes_ Try.func12 (by kernel_rfl) rfl #[.agg #[.int .i64 a0_0, .int .i64 a0_1]] (by rfl) rfl rfl (by (try simp only [List.map_toArray, List.map_cons, List.map_nil]); first | done | rfl | (simp only [List.length_drop, List.length_take]; rfl)) ?_
        with_reducible refine (impl_IsTurn.calls k a0_0 a0_1 t303 _ A97.out).mono ?_
        rintro e w111 ⟨rfl, hb⟩
        refine ⟨_, rfl, ?_⟩
        have hp0 := hpA BK272.out hb (fun _ _ h_ => by (with_reducible repeat (first | refine kN ?_ _ | refine kD ?_ | refine kA ?_ _)); exact h_)
        have hv := hvK (w := w) hb (by repeat (first | (with_reducible first | exact HB.out | apply bA | apply bN | apply bD | refine bX ?_ (by assumption)) | exact HB.out))
        have n9_ := Am (bT hv hb)
        clear HB
        replace BK272 := hp0 BK272; replace BK273 := hp0 BK273; replace BK274 := hp0 BK274; replace BK278 := hp0 BK278; replace BK282 := hp0 BK282; replace BK286 := hp0 BK286; replace BK290 := hp0 BK290; replace BK298 := hp0 BK298; replace BK302 := hp0 BK302
        have HB := n9_
        clear n9_ hp0 hv
        (try clear hb)
        (try clear hHeld)
        refine hK.out _ _ ⟨c20 BK278.out, c21 BK278.out, c20 BK282.out, c21 BK282.out, c20 BK286.out, c21 BK286.out, c20 BK290.out, c21 BK290.out, c20 BK298.out, c21 BK298.out, c20 BK302.out, c21 BK302.out, c20 BK272.out, c21 BK272.out, c20 BK273.out, c21 BK273.out⟩ (fun hHeld => ?_)
        clear hK K
        refine norm_ (a' := ?_) ?_ ?_
        rotate_left
        ·show Act.put _ (some 140) _ = _
         simp only [Act.put, List.setIfInBounds_toArray, List.set_cons_zero, List.set_cons_succ, i64_w, i32_w]
         rfl
        iterate 4
         first
         | refine pI (v := ?_) (a' := ?_) rfl (any_of HT_.out (by kernel_rfl)) (fun _ _ _ h => h) (Or.inl ⟨by rfl, ?_⟩) ?_ ?_
           rotate_left
           ·intro w'
            go_simp
            with_reducible rfl
           rotate_left
           ·show Act.put _ (some _) _ = _
            simp only [Act.put, List.setIfInBounds_toArray, List.set_cons_zero, List.set_cons_succ, i64_w, i32_w]
            rfl
         | refine tI (v := ?_) (a' := ?_) rfl (take_ofW HT_.out HW_.out (by kernel_rfl)) (fun _ _ _ h => h) (Or.inl ⟨by rfl, ?_⟩) hHeld ?_ ?_
           rotate_left
           ·rintro w' ⟨s0, s1, s2, s3, s4, s5, s6, s7, s8, s9, s10, s11, s12, s13, s14, s15⟩
            go_simp
            with_reducible rfl
           rotate_left
           ·show Act.put _ (some _) _ = _
            simp only [Act.put, List.setIfInBounds_toArray, List.set_cons_zero, List.set_cons_succ, i64_w, i32_w]
            rfl
        refine take_ (i := 47) (N := some 146) (v := ?_) (a' := ?_) #[true, true, true, true, true, true, true, true, true, true, true, true, true, true, true, true, true, true, true, true, true, true, true, true, true, true, true, true, true, true, true, true, true, true, true, true, true, true, true, true, true, true, true, true, true, true, false, true, false, false, false, false, false, false, false, false, false, false, false, false, false, false, false, false, false, false, false, false, false, false, false, false, false, false, false] rfl rfl (take_ofW HT_.out HW_.out (by kernel_rfl)) (fun _ _ _ h => h) (Or.inl ⟨by rfl, ?_⟩) hHeld ?_ ?_
        rotate_left
        ·rintro w' ⟨s0, s1, s2, s3, s4, s5, s6, s7, s8, s9, s10, s11, s12, s13, s14, s15⟩
         go_simp
         with_reducible rfl
        rotate_left
        ·simp only [Act.put, List.setIfInBounds_toArray, List.set_cons_zero, List.set_cons_succ, i64_w, i32_w]
         rfl
        refine one_ (i := 46) (N := some 145) (pT 75 48) rfl rfl (one_of HT_.out (by kernel_rfl)) (by decide) (fun K hK => ?_)
        refine goes_ Try.func12 (by kernel_rfl) rfl #[.agg #[.int .i64 a0_0, .int .i64 a0_1]] (by rfl) rfl rfl (by (try simp only [List.map_toArray, List.map_cons, List.map_nil]); first | done | rfl | (simp only [List.length_drop, List.length_take]; rfl)) ?_
        with_reducible refine (impl_IsTurn.calls k a0_0 a0_1 t304 _ A99.out).mono ?_
        rintro e w112 ⟨rfl, hb⟩
        refine ⟨_, rfl, ?_⟩
        have hp0 := hpA BK272.out hb (fun _ _ h_ => by (with_reducible repeat (first | refine kN ?_ _ | refine kD ?_ | refine kA ?_ _)); exact h_)
        have hv := hvK (w := w) hb (by repeat (first | (with_reducible first | exact HB.out | apply bA | apply bN | apply bD | refine bX ?_ (by assumption)) | exact HB.out))
        have n9_ := Am (bT hv hb)
        clear HB
        replace BK272 := hp0 BK272; replace BK273 := hp0 BK273; replace BK274 := hp0 BK274; replace BK278 := hp0 BK278; replace BK282 := hp0 BK282; replace BK286 := hp0 BK286; replace BK290 := hp0 BK290; replace BK298 := hp0 BK298; replace BK302 := hp0 BK302
        have HB := n9_
        clear n9_ hp0 hv
        (try clear hb)
        (try clear hHeld)
        refine hK.out _ _ ⟨c20 BK278.out, c21 BK278.out, c20 BK282.out, c21 BK282.out, c20 BK286.out, c21 BK286.out, c20 BK290.out, c21 BK290.out, c20 BK298.out, c21 BK298.out, c20 BK302.out, c21 BK302.out, c20 BK272.out, c21 BK272.out, c20 BK273.out, c21 BK273.out⟩ (fun hHeld => ?_)
        clear hK K
        refine norm_ (a' := ?_) ?_ ?_
        rotate_left
        ·show Act.put _ (some 145) _ = _
         simp only [Act.put, List.setIfInBounds_toArray, List.set_cons_zero, List.set_cons_succ, i64_w, i32_w]
         rfl
        refine one_ (i := 48) (N := some 147) (pT 75 49) rfl rfl (one_of HT_.out (by kernel_rfl)) (by decide) (fun K hK => ?_)
        refine goes_ Try.func13 (by kernel_rfl) rfl #[.agg #[.int .i64 a0_0, .int .i64 a0_1]] (by rfl) rfl rfl (by (try simp only [List.map_toArray, List.map_cons, List.map_nil]); first | done | rfl | (simp only [List.length_drop, List.length_take]; rfl)) ?_
        with_reducible refine (spec_IsTurn.calls k a0_0 a0_1 t305 _ A100.out).mono ?_
        rintro e w113 ⟨rfl, hb⟩
        refine ⟨_, rfl, ?_⟩
        have hp0 := hpA BK272.out hb (fun _ _ h_ => by (with_reducible repeat (first | refine kN ?_ _ | refine kD ?_ | refine kA ?_ _)); exact h_)
        have hv := hvK (w := w) hb (by repeat (first | (with_reducible first | exact HB.out | apply bA | apply bN | apply bD | refine bX ?_ (by assumption)) | exact HB.out))
        have n9_ := Am (bT hv hb)
        clear HB
        replace BK272 := hp0 BK272; replace BK273 := hp0 BK273; replace BK274 := hp0 BK274; replace BK278 := hp0 BK278; replace BK282 := hp0 BK282; replace BK286 := hp0 BK286; replace BK290 := hp0 BK290; replace BK298 := hp0 BK298; replace BK302 := hp0 BK302
        have HB := n9_
        clear n9_ hp0 hv
        (try clear hb)
        (try clear hHeld)
        refine hK.out _ _ ⟨c20 BK278.out, c21 BK278.out, c20 BK282.out, c21 BK282.out, c20 BK286.out, c21 BK286.out, c20 BK290.out, c21 BK290.out, c20 BK298.out, c21 BK298.out, c20 BK302.out, c21 BK302.out, c20 BK272.out, c21 BK272.out, c20 BK273.out, c21 BK273.out⟩ (fun hHeld => ?_)
        clear hK K
        refine norm_ (a' := ?_) ?_ ?_
        rotate_left
        ·show Act.put _ (some 147) _ = _
         simp only [Act.put, List.setIfInBounds_toArray, List.set_cons_zero, List.set_cons_succ, i64_w, i32_w]
         rfl
        iterate 5
         first
         | refine pI (v := ?_) (a' := ?_) rfl (any_of HT_.out (by kernel_rfl)) (fun _ _ _ h => h) (Or.inl ⟨by rfl, ?_⟩) ?_ ?_
           rotate_left
           ·intro w'
            go_simp
            with_reducible rfl
           rotate_left
           ·show Act.put _ (some _) _ = _
            simp only [Act.put, List.setIfInBounds_toArray, List.set_cons_zero, List.set_cons_succ, i64_w, i32_w]
            rfl
         | refine tI (v := ?_) (a' := ?_) rfl (take_ofW HT_.out HW_.out (by kernel_rfl)) (fun _ _ _ h => h) (Or.inl ⟨by rfl, ?_⟩) hHeld ?_ ?_
           rotate_left
           ·rintro w' ⟨s0, s1, s2, s3, s4, s5, s6, s7, s8, s9, s10, s11, s12, s13, s14, s15⟩
            go_simp
            with_reducible rfl
           rotate_left
           ·show Act.put _ (some _) _ = _
            simp only [Act.put, List.setIfInBounds_toArray, List.set_cons_zero, List.set_cons_succ, i64_w, i32_w]
            rfl
        refine one_ (i := 54) (N := some 153) (pT 75 55) rfl rfl (one_of HT_.out (by kernel_rfl)) (by decide) (fun K hK => ?_)
        refine goes_ Try.func12 (by kernel_rfl) rfl #[.agg #[.int .i64 a0_0, .int .i64 a0_1]] (by rfl) rfl rfl (by (try simp only [List.map_toArray, List.map_cons, List.map_nil]); first | done | rfl | (simp only [List.length_drop, List.length_take]; rfl)) ?_
        with_reducible refine (impl_IsTurn.calls k a0_0 a0_1 true _ A102.out).mono ?_
        rintro e w114 ⟨rfl, hb⟩
        refine ⟨_, rfl, ?_⟩
        have hp0 := hpA BK272.out hb (fun _ _ h_ => by (with_reducible repeat (first | refine kN ?_ _ | refine kD ?_ | refine kA ?_ _)); exact h_)
        have hv := hvK (w := w) hb (by repeat (first | (with_reducible first | exact HB.out | apply bA | apply bN | apply bD | refine bX ?_ (by assumption)) | exact HB.out))
        have n9_ := Am (bT hv hb)
        clear HB
        replace BK272 := hp0 BK272; replace BK273 := hp0 BK273; replace BK274 := hp0 BK274; replace BK278 := hp0 BK278; replace BK282 := hp0 BK282; replace BK286 := hp0 BK286; replace BK290 := hp0 BK290; replace BK298 := hp0 BK298; replace BK302 := hp0 BK302
        have HB := n9_
        clear n9_ hp0 hv
        (try clear hb)
        (try clear hHeld)
        refine hK.out _ _ ⟨c20 BK278.out, c21 BK278.out, c20 BK282.out, c21 BK282.out, c20 BK286.out, c21 BK286.out, c20 BK290.out, c21 BK290.out, c20 BK298.out, c21 BK298.out, c20 BK302.out, c21 BK302.out, c20 BK272.out, c21 BK272.out, c20 BK273.out, c21 BK273.out⟩ (fun hHeld => ?_)
        clear hK K
        refine norm_ (a' := ?_) ?_ ?_
        rotate_left
        ·show Act.put _ (some 153) _ = _
         simp only [Act.put, List.setIfInBounds_toArray, List.set_cons_zero, List.set_cons_succ, i64_w, i32_w]
         rfl
        iterate 2
         first
         | refine pI (v := ?_) (a' := ?_) rfl (any_of HT_.out (by kernel_rfl)) (fun _ _ _ h => h) (Or.inl ⟨by rfl, ?_⟩) ?_ ?_
           rotate_left
           ·intro w'
            go_simp
            with_reducible rfl
           rotate_left
           ·show Act.put _ (some _) _ = _
            simp only [Act.put, List.setIfInBounds_toArray, List.set_cons_zero, List.set_cons_succ, i64_w, i32_w]
            rfl
         | refine tI (v := ?_) (a' := ?_) rfl (take_ofW HT_.out HW_.out (by kernel_rfl)) (fun _ _ _ h => h) (Or.inl ⟨by rfl, ?_⟩) hHeld ?_ ?_
           rotate_left
           ·rintro w' ⟨s0, s1, s2, s3, s4, s5, s6, s7, s8, s9, s10, s11, s12, s13, s14, s15⟩
            go_simp
            with_reducible rfl
           rotate_left
           ·show Act.put _ (some _) _ = _
            simp only [Act.put, List.setIfInBounds_toArray, List.set_cons_zero, List.set_cons_succ, i64_w, i32_w]
            rfl
        refine one_ (i := 57) (N := some 156) (pT 75 58) rfl rfl (one_of HT_.out (by kernel_rfl)) (by decide) (fun K hK => ?_)
        refine goes_ Try.func12 (by kernel_rfl) rfl #[.agg #[.int .i64 a1_0, .int .i64 a1_1]] (by rfl) rfl rfl (by (try simp only [List.map_toArray, List.map_cons, List.map_nil]); first | done | rfl | (simp only [List.length_drop, List.length_take]; rfl)) ?_
        with_reducible refine (impl_IsTurn.calls k a1_0 a1_1 t307 _ A104.out).mono ?_
        rintro e w115 ⟨rfl, hb⟩
        refine ⟨_, rfl, ?_⟩
        have hp0 := hpA BK272.out hb (fun _ _ h_ => by (with_reducible repeat (first | refine kN ?_ _ | refine kD ?_ | refine kA ?_ _)); exact h_)
        have hv := hvK (w := w) hb (by repeat (first | (with_reducible first | exact HB.out | apply bA | apply bN | apply bD | refine bX ?_ (by assumption)) | exact HB.out))
        have n9_ := Am (bT hv hb)
        clear HB
        replace BK272 := hp0 BK272; replace BK273 := hp0 BK273; replace BK274 := hp0 BK274; replace BK278 := hp0 BK278; replace BK282 := hp0 BK282; replace BK286 := hp0 BK286; replace BK290 := hp0 BK290; replace BK298 := hp0 BK298; replace BK302 := hp0 BK302
        have HB := n9_
        clear n9_ hp0 hv
        (try clear hb)
        (try clear hHeld)
        refine hK.out _ _ ⟨c20 BK278.out, c21 BK278.out, c20 BK282.out, c21 BK282.out, c20 BK286.out, c21 BK286.out, c20 BK290.out, c21 BK290.out, c20 BK298.out, c21 BK298.out, c20 BK302.out, c21 BK302.out, c20 BK272.out, c21 BK272.out, c20 BK273.out, c21 BK273.out⟩ (fun hHeld => ?_)
        clear hK K
        refine norm_ (a' := ?_) ?_ ?_
        rotate_left
        ·show Act.put _ (some 156) _ = _
         simp only [Act.put, List.setIfInBounds_toArray, List.set_cons_zero, List.set_cons_succ, i64_w, i32_w]
         rfl
        iterate 17
         refine pI (v := ?_) (a' := ?_) rfl (any_of HT_.out (by kernel_rfl)) (fun _ _ _ h => h) (Or.inl ⟨by rfl, ?_⟩) ?_ ?_
         rotate_left
         ·intro w'
          go_simp
          with_reducible rfl
         rotate_left
         ·show Act.put _ (some _) _ = _
          simp only [Act.put, List.setIfInBounds_toArray, List.set_cons_zero, List.set_cons_succ, i64_w, i32_w]
          rfl
        refine done_ (done_of HT_.out (by kernel_rfl)) ?_
        try go_wp2
        go_meet
        case rel =>
         refine ⟨_, (!true), (by first | rfl | (simp; done) | (simp [*]; done)), H', ⟨by first | omega | exact Nat.le_refl _⟩, ⟨?_⟩, ⟨?_⟩, ⟨?_⟩, ⟨?_⟩, ⟨?_⟩, ⟨?_⟩, ⟨?_⟩, ⟨?_⟩, ⟨?_⟩, ⟨by repeat (first | (with_reducible first | exact HB.out | apply bA | apply bN | apply bD | refine bX ?_ (by assumption)) | exact HB.out)⟩⟩
         all_goals ((with_reducible repeat (first | refine kN ?_ _ | refine kD ?_ | refine kA ?_ _)); exact Aside0.out (by assumption))
      replace c108 := Bool.eq_false_iff.mpr c108
      subst c108
      have H1 : (laws_FnTurnsAddedOfAll.j0 k a3 a4 a5 true t291 true t297 false a0_0 a0_1 a1_0 a1_1 a2_0 a2_1 t275 t276 t295 t296) = some r := by rw [if_neg (show ¬ (false = true) by decide)] at H; exact H
      clear H
      have H := H1
      clear H1
      as_aux_lemma =>
       have H' := Am H
       clear H
       try go_wp2
       have hq := hqR (W := ((w79.setCell ⟨gb302, 0, none⟩ (.int .i64 t299)).setCell ⟨gb302, 1, none⟩ (.int .i64 t300))) gb302 BK272.out (fun _ _ q_ h_ => by (with_reducible repeat (first | refine kN ?_ _ | refine kD ?_ | refine kA ?_ _ | refine kZ ?_ q_ _)); exact h_)
       have n0_ := Am (hq NB272_302.out BK272.out)
       have n1_ := Am (hq NB273_302.out BK273.out)
       have n2_ := Am (hq NB274_302.out BK274.out)
       have n3_ := Am (hq NB278_302.out BK278.out)
       have n4_ := Am (hq NB282_302.out BK282.out)
       have n5_ := Am (hq NB286_302.out BK286.out)
       have n6_ := Am (hq NB290_302.out BK290.out)
       have n7_ := Am (hq NB298_302.out BK298.out)
       have n8_ : Aside0 (((w79.setCell ⟨gb302, 0, none⟩ (.int .i64 t299)).setCell ⟨gb302, 1, none⟩ (.int .i64 t300)).heap[gb302]? = some (.cells #[.int .i64 t299, .int .i64 t300] 23 (0, 0))) := ⟨by (with_reducible repeat (first | refine kN ?_ _ | refine kD ?_ | refine kA ?_ _)); refine kP (cs := #[.int .i64 t299, .int .i64 0]) ?_ 1 _ rfl; (with_reducible repeat (first | refine kN ?_ _ | refine kD ?_ | refine kA ?_ _)); refine kP (cs := #[.int .i64 0, .int .i64 0]) ?_ 0 _ rfl; (with_reducible repeat (first | refine kN ?_ _ | refine kD ?_ | refine kA ?_ _)); exact BK302.out⟩
       have n9_ : Aside0 (Below w.heap.size w ((w79.setCell ⟨gb302, 0, none⟩ (.int .i64 t299)).setCell ⟨gb302, 1, none⟩ (.int .i64 t300))) := ⟨by repeat (first | (with_reducible first | exact HB.out | apply bA | apply bN | apply bD | refine bX ?_ (by assumption)) | exact HB.out)⟩
       clear hq
       (try clear BK272)
       (try clear BK273)
       (try clear BK274)
       (try clear BK278)
       (try clear BK282)
       (try clear BK286)
       (try clear BK290)
       (try clear BK298)
       (try clear BK302)
       (try clear HB)
       generalize ((w79.setCell ⟨gb302, 0, none⟩ (.int .i64 t299)).setCell ⟨gb302, 1, none⟩ (.int .i64 t300)) = w116 at n0_ n1_ n2_ n3_ n4_ n5_ n6_ n7_ n8_ n9_ ⊢
       have BK272 := n0_; have BK273 := n1_; have BK274 := n2_; have BK278 := n3_; have BK282 := n4_; have BK286 := n5_; have BK290 := n6_; have BK298 := n7_; have BK302 := n8_; have HB := n9_
       clear n0_ n1_ n2_ n3_ n4_ n5_ n6_ n7_ n8_ n9_
       have n0_ := Am (kD BK272.out)
       have n1_ := Am (kD BK273.out)
       have n2_ := Am (kD BK274.out)
       have n3_ := Am (kD BK278.out)
       have n4_ := Am (kD BK282.out)
       have n5_ := Am (kD BK286.out)
       have n6_ := Am (kD BK290.out)
       have n7_ := Am (kD BK298.out)
       have n8_ := Am (kD BK302.out)
       have n9_ := Am (bD HB.out)
       clear BK272 BK273 BK274 BK278 BK282 BK286 BK290 BK298 BK302 HB
       have BK272 := n0_; have BK273 := n1_; have BK274 := n2_; have BK278 := n3_; have BK282 := n4_; have BK286 := n5_; have BK290 := n6_; have BK298 := n7_; have BK302 := n8_; have HB := n9_
       clear n0_ n1_ n2_ n3_ n4_ n5_ n6_ n7_ n8_ n9_
       refine start_ (n := 75) (S := fun w' => w'.cell? ⟨gb278, 0, none⟩ = some (.int .i64 t275) ∧ w'.cell? ⟨gb278, 1, none⟩ = some (.int .i64 t276) ∧ w'.cell? ⟨gb282, 0, none⟩ = some (.int .i64 t279) ∧ w'.cell? ⟨gb282, 1, none⟩ = some (.int .i64 t280) ∧ w'.cell? ⟨gb286, 0, none⟩ = some (.int .i64 t283) ∧ w'.cell? ⟨gb286, 1, none⟩ = some (.int .i64 t284) ∧ w'.cell? ⟨gb290, 0, none⟩ = some (.int .i64 t287) ∧ w'.cell? ⟨gb290, 1, none⟩ = some (.int .i64 t288) ∧ w'.cell? ⟨gb298, 0, none⟩ = some (.int .i64 t295) ∧ w'.cell? ⟨gb298, 1, none⟩ = some (.int .i64 t296) ∧ w'.cell? ⟨gb302, 0, none⟩ = some (.int .i64 t299) ∧ w'.cell? ⟨gb302, 1, none⟩ = some (.int .i64 t300) ∧ w'.cell? ⟨gb272, 0, none⟩ = some (.int .i64 a0_0) ∧ w'.cell? ⟨gb272, 1, none⟩ = some (.int .i64 a0_1) ∧ w'.cell? ⟨gb273, 0, none⟩ = some (.int .i64 a1_0) ∧ w'.cell? ⟨gb273, 1, none⟩ = some (.int .i64 a1_1)) (ds := []) (pT 75 0) (by kernel_rfl) rfl rfl ⟨c20 BK278.out, c21 BK278.out, c20 BK282.out, c21 BK282.out, c20 BK286.out, c21 BK286.out, c20 BK290.out, c21 BK290.out, c20 BK298.out, c21 BK298.out, c20 BK302.out, c21 BK302.out, c20 BK272.out, c21 BK272.out, c20 BK273.out, c21 BK273.out⟩ (fun hHeld => ?_); refine with_tabW laws_FnTurnsAddedOfAll.tab9 laws_FnTurnsAddedOfAll.bits9 (fun HT_ HW_ => ?_)
       generalize w116.drew = w117 at BK272 BK273 BK274 BK278 BK282 BK286 BK290 BK298 BK302 HB hHeld ⊢
       iterate 41
        first
        | refine pI (v := ?_) (a' := ?_) rfl (any_of HT_.out (by kernel_rfl)) (fun _ _ _ h => h) (Or.inl ⟨by rfl, ?_⟩) ?_ ?_
          rotate_left
          ·intro w'
           go_simp
           with_reducible rfl
          rotate_left
          ·show Act.put _ (some _) _ = _
           simp only [Act.put, List.setIfInBounds_toArray, List.set_cons_zero, List.set_cons_succ, i64_w, i32_w]
           rfl
        | refine tI (v := ?_) (a' := ?_) rfl (take_ofW HT_.out HW_.out (by kernel_rfl)) (fun _ _ _ h => h) (Or.inl ⟨by rfl, ?_⟩) hHeld ?_ ?_
          rotate_left
          ·rintro w' ⟨s0, s1, s2, s3, s4, s5, s6, s7, s8, s9, s10, s11, s12, s13, s14, s15⟩
           go_simp
           with_reducible rfl
          rotate_left
          ·show Act.put _ (some _) _ = _
           simp only [Act.put, List.setIfInBounds_toArray, List.set_cons_zero, List.set_cons_succ, i64_w, i32_w]
           rfl
       refine one_ (i := 41) (N := some 140) (pT 75 42) rfl rfl (one_of HT_.out (by kernel_rfl)) (by decide) (fun K hK => ?_)
       refine goes_ Try.func12 (by kernel_rfl) rfl #[.agg #[.int .i64 a0_0, .int .i64 a0_1]] (by rfl) rfl rfl (by (try simp only [List.map_toArray, List.map_cons, List.map_nil]); first | done | rfl | (simp only [List.length_drop, List.length_take]; rfl)) ?_
       with_reducible refine (impl_IsTurn.calls k a0_0 a0_1 t303 _ A97.out).mono ?_
       rintro e w118 ⟨rfl, hb⟩
       refine ⟨_, rfl, ?_⟩
       have hp0 := hpA BK272.out hb (fun _ _ h_ => by (with_reducible repeat (first | refine kN ?_ _ | refine kD ?_ | refine kA ?_ _)); exact h_)
       have hv := hvK (w := w) hb (by repeat (first | (with_reducible first | exact HB.out | apply bA | apply bN | apply bD | refine bX ?_ (by assumption)) | exact HB.out))
       have n9_ := Am (bT hv hb)
       clear HB
       replace BK272 := hp0 BK272; replace BK273 := hp0 BK273; replace BK274 := hp0 BK274; replace BK278 := hp0 BK278; replace BK282 := hp0 BK282; replace BK286 := hp0 BK286; replace BK290 := hp0 BK290; replace BK298 := hp0 BK298; replace BK302 := hp0 BK302
       have HB := n9_
       clear n9_ hp0 hv
       (try clear hb)
       (try clear hHeld)
       refine hK.out _ _ ⟨c20 BK278.out, c21 BK278.out, c20 BK282.out, c21 BK282.out, c20 BK286.out, c21 BK286.out, c20 BK290.out, c21 BK290.out, c20 BK298.out, c21 BK298.out, c20 BK302.out, c21 BK302.out, c20 BK272.out, c21 BK272.out, c20 BK273.out, c21 BK273.out⟩ (fun hHeld => ?_)
       clear hK K
       refine norm_ (a' := ?_) ?_ ?_
       rotate_left
       ·show Act.put _ (some 140) _ = _
        simp only [Act.put, List.setIfInBounds_toArray, List.set_cons_zero, List.set_cons_succ, i64_w, i32_w]
        rfl
       iterate 4
        first
        | refine pI (v := ?_) (a' := ?_) rfl (any_of HT_.out (by kernel_rfl)) (fun _ _ _ h => h) (Or.inl ⟨by rfl, ?_⟩) ?_ ?_
          rotate_left
          ·intro w'
           go_simp
           with_reducible rfl
          rotate_left
          ·show Act.put _ (some _) _ = _
           simp only [Act.put, List.setIfInBounds_toArray, List.set_cons_zero, List.set_cons_succ, i64_w, i32_w]
           rfl
        | refine tI (v := ?_) (a' := ?_) rfl (take_ofW HT_.out HW_.out (by kernel_rfl)) (fun _ _ _ h => h) (Or.inl ⟨by rfl, ?_⟩) hHeld ?_ ?_
          rotate_left
          ·rintro w' ⟨s0, s1, s2, s3, s4, s5, s6, s7, s8, s9, s10, s11, s12, s13, s14, s15⟩
           go_simp
           with_reducible rfl
          rotate_left
          ·show Act.put _ (some _) _ = _
           simp only [Act.put, List.setIfInBounds_toArray, List.set_cons_zero, List.set_cons_succ, i64_w, i32_w]
           rfl
       refine take_ (i := 47) (N := some 146) (v := ?_) (a' := ?_) #[true, true, true, true, true, true, true, true, true, true, true, true, true, true, true, true, true, true, true, true, true, true, true, true, true, true, true, true, true, true, true, true, true, true, true, true, true, true, true, true, true, true, true, true, true, true, false, true, false, false, false, false, false, false, false, false, false, false, false, false, false, false, false, false, false, false, false, false, false, false, false, false, false, false, false] rfl rfl (take_ofW HT_.out HW_.out (by kernel_rfl)) (fun _ _ _ h => h) (Or.inl ⟨by rfl, ?_⟩) hHeld ?_ ?_
       rotate_left
       ·rintro w' ⟨s0, s1, s2, s3, s4, s5, s6, s7, s8, s9, s10, s11, s12, s13, s14, s15⟩
        go_simp
        with_reducible rfl
       rotate_left
       ·simp only [Act.put, List.setIfInBounds_toArray, List.set_cons_zero, List.set_cons_succ, i64_w, i32_w]
        rfl
       refine one_ (i := 46) (N := some 145) (pT 75 48) rfl rfl (one_of HT_.out (by kernel_rfl)) (by decide) (fun K hK => ?_)
       refine goes_ Try.func12 (by kernel_rfl) rfl #[.agg #[.int .i64 a0_0, .int .i64 a0_1]] (by rfl) rfl rfl (by (try simp only [List.map_toArray, List.map_cons, List.map_nil]); first | done | rfl | (simp only [List.length_drop, List.length_take]; rfl)) ?_
       with_reducible refine (impl_IsTurn.calls k a0_0 a0_1 t304 _ A99.out).mono ?_
       rintro e w119 ⟨rfl, hb⟩
       refine ⟨_, rfl, ?_⟩
       have hp0 := hpA BK272.out hb (fun _ _ h_ => by (with_reducible repeat (first | refine kN ?_ _ | refine kD ?_ | refine kA ?_ _)); exact h_)
       have hv := hvK (w := w) hb (by repeat (first | (with_reducible first | exact HB.out | apply bA | apply bN | apply bD | refine bX ?_ (by assumption)) | exact HB.out))
       have n9_ := Am (bT hv hb)
       clear HB
       replace BK272 := hp0 BK272; replace BK273 := hp0 BK273; replace BK274 := hp0 BK274; replace BK278 := hp0 BK278; replace BK282 := hp0 BK282; replace BK286 := hp0 BK286; replace BK290 := hp0 BK290; replace BK298 := hp0 BK298; replace BK302 := hp0 BK302
       have HB := n9_
       clear n9_ hp0 hv
       (try clear hb)
       (try clear hHeld)
       refine hK.out _ _ ⟨c20 BK278.out, c21 BK278.out, c20 BK282.out, c21 BK282.out, c20 BK286.out, c21 BK286.out, c20 BK290.out, c21 BK290.out, c20 BK298.out, c21 BK298.out, c20 BK302.out, c21 BK302.out, c20 BK272.out, c21 BK272.out, c20 BK273.out, c21 BK273.out⟩ (fun hHeld => ?_)
       clear hK K
       refine norm_ (a' := ?_) ?_ ?_
       rotate_left
       ·show Act.put _ (some 145) _ = _
        simp only [Act.put, List.setIfInBounds_toArray, List.set_cons_zero, List.set_cons_succ, i64_w, i32_w]
        rfl
       refine one_ (i := 48) (N := some 147) (pT 75 49) rfl rfl (one_of HT_.out (by kernel_rfl)) (by decide) (fun K hK => ?_)
       refine goes_ Try.func13 (by kernel_rfl) rfl #[.agg #[.int .i64 a0_0, .int .i64 a0_1]] (by rfl) rfl rfl (by (try simp only [List.map_toArray, List.map_cons, List.map_nil]); first | done | rfl | (simp only [List.length_drop, List.length_take]; rfl)) ?_
       with_reducible refine (spec_IsTurn.calls k a0_0 a0_1 t305 _ A100.out).mono ?_
       rintro e w120 ⟨rfl, hb⟩
       refine ⟨_, rfl, ?_⟩
       have hp0 := hpA BK272.out hb (fun _ _ h_ => by (with_reducible repeat (first | refine kN ?_ _ | refine kD ?_ | refine kA ?_ _)); exact h_)
       have hv := hvK (w := w) hb (by repeat (first | (with_reducible first | exact HB.out | apply bA | apply bN | apply bD | refine bX ?_ (by assumption)) | exact HB.out))
       have n9_ := Am (bT hv hb)
       clear HB
       replace BK272 := hp0 BK272; replace BK273 := hp0 BK273; replace BK274 := hp0 BK274; replace BK278 := hp0 BK278; replace BK282 := hp0 BK282; replace BK286 := hp0 BK286; replace BK290 := hp0 BK290; replace BK298 := hp0 BK298; replace BK302 := hp0 BK302
       have HB := n9_
       clear n9_ hp0 hv
       (try clear hb)
       (try clear hHeld)
       refine hK.out _ _ ⟨c20 BK278.out, c21 BK278.out, c20 BK282.out, c21 BK282.out, c20 BK286.out, c21 BK286.out, c20 BK290.out, c21 BK290.out, c20 BK298.out, c21 BK298.out, c20 BK302.out, c21 BK302.out, c20 BK272.out, c21 BK272.out, c20 BK273.out, c21 BK273.out⟩ (fun hHeld => ?_)
       clear hK K
       refine norm_ (a' := ?_) ?_ ?_
       rotate_left
       ·show Act.put _ (some 147) _ = _
        simp only [Act.put, List.setIfInBounds_toArray, List.set_cons_zero, List.set_cons_succ, i64_w, i32_w]
        rfl
       iterate 5
        first
        | refine pI (v := ?_) (a' := ?_) rfl (any_of HT_.out (by kernel_rfl)) (fun _ _ _ h => h) (Or.inl ⟨by rfl, ?_⟩) ?_ ?_
          rotate_left
          ·intro w'
           go_simp
           with_reducible rfl
          rotate_left
          ·show Act.put _ (some _) _ = _
           simp only [Act.put, List.setIfInBounds_toArray, List.set_cons_zero, List.set_cons_succ, i64_w, i32_w]
           rfl
        | refine tI (v := ?_) (a' := ?_) rfl (take_ofW HT_.out HW_.out (by kernel_rfl)) (fun _ _ _ h => h) (Or.inl ⟨by rfl, ?_⟩) hHeld ?_ ?_
          rotate_left
          ·rintro w' ⟨s0, s1, s2, s3, s4, s5, s6, s7, s8, s9, s10, s11, s12, s13, s14, s15⟩
           go_simp
           with_reducible rfl
          rotate_left
          ·show Act.put _ (some _) _ = _
           simp only [Act.put, List.setIfInBounds_toArray, List.set_cons_zero, List.set_cons_succ, i64_w, i32_w]
           rfl
       refine one_ (i := 54) (N := some 153) (pT 75 55) rfl rfl (one_of HT_.out (by kernel_rfl)) (by decide) (fun K hK => ?_)
       refine goes_ Try.func12 (by kernel_rfl) rfl #[.agg #[.int .i64 a0_0, .int .i64 a0_1]] (by rfl) rfl rfl (by (try simp only [List.map_toArray, List.map_cons, List.map_nil]); first | done | rfl | (simp only [List.length_drop, List.length_take]; rfl)) ?_
       with_reducible refine (impl_IsTurn.calls k a0_0 a0_1 true _ A102.out).mono ?_
       rintro e w121 ⟨rfl, hb⟩
       refine ⟨_, rfl, ?_⟩
       have hp0 := hpA BK272.out hb (fun _ _ h_ => by (with_reducible repeat (first | refine kN ?_ _ | refine kD ?_ | refine kA ?_ _)); exact h_)
       have hv := hvK (w := w) hb (by repeat (first | (with_reducible first | exact HB.out | apply bA | apply bN | apply bD | refine bX ?_ (by assumption)) | exact HB.out))
       have n9_ := Am (bT hv hb)
       clear HB
       replace BK272 := hp0 BK272; replace BK273 := hp0 BK273; replace BK274 := hp0 BK274; replace BK278 := hp0 BK278; replace BK282 := hp0 BK282; replace BK286 := hp0 BK286; replace BK290 := hp0 BK290; replace BK298 := hp0 BK298; replace BK302 := hp0 BK302
       have HB := n9_
       clear n9_ hp0 hv
       (try clear hb)
       (try clear hHeld)
       refine hK.out _ _ ⟨c20 BK278.out, c21 BK278.out, c20 BK282.out, c21 BK282.out, c20 BK286.out, c21 BK286.out, c20 BK290.out, c21 BK290.out, c20 BK298.out, c21 BK298.out, c20 BK302.out, c21 BK302.out, c20 BK272.out, c21 BK272.out, c20 BK273.out, c21 BK273.out⟩ (fun hHeld => ?_)
       clear hK K
       refine norm_ (a' := ?_) ?_ ?_
       rotate_left
       ·show Act.put _ (some 153) _ = _
        simp only [Act.put, List.setIfInBounds_toArray, List.set_cons_zero, List.set_cons_succ, i64_w, i32_w]
        rfl
       iterate 2
        first
        | refine pI (v := ?_) (a' := ?_) rfl (any_of HT_.out (by kernel_rfl)) (fun _ _ _ h => h) (Or.inl ⟨by rfl, ?_⟩) ?_ ?_
          rotate_left
          ·intro w'
           go_simp
           with_reducible rfl
          rotate_left
          ·show Act.put _ (some _) _ = _
           simp only [Act.put, List.setIfInBounds_toArray, List.set_cons_zero, List.set_cons_succ, i64_w, i32_w]
           rfl
        | refine tI (v := ?_) (a' := ?_) rfl (take_ofW HT_.out HW_.out (by kernel_rfl)) (fun _ _ _ h => h) (Or.inl ⟨by rfl, ?_⟩) hHeld ?_ ?_
          rotate_left
          ·rintro w' ⟨s0, s1, s2, s3, s4, s5, s6, s7, s8, s9, s10, s11, s12, s13, s14, s15⟩
           go_simp
           with_reducible rfl
          rotate_left
          ·show Act.put _ (some _) _ = _
           simp only [Act.put, List.setIfInBounds_toArray, List.set_cons_zero, List.set_cons_succ, i64_w, i32_w]
           rfl
       refine one_ (i := 57) (N := some 156) (pT 75 58) rfl rfl (one_of HT_.out (by kernel_rfl)) (by decide) (fun K hK => ?_)
       refine goes_ Try.func12 (by kernel_rfl) rfl #[.agg #[.int .i64 a1_0, .int .i64 a1_1]] (by rfl) rfl rfl (by (try simp only [List.map_toArray, List.map_cons, List.map_nil]); first | done | rfl | (simp only [List.length_drop, List.length_take]; rfl)) ?_
       with_reducible refine (impl_IsTurn.calls k a1_0 a1_1 t307 _ A104.out).mono ?_
       rintro e w122 ⟨rfl, hb⟩
       refine ⟨_, rfl, ?_⟩
       have hp0 := hpA BK272.out hb (fun _ _ h_ => by (with_reducible repeat (first | refine kN ?_ _ | refine kD ?_ | refine kA ?_ _)); exact h_)
       have hv := hvK (w := w) hb (by repeat (first | (with_reducible first | exact HB.out | apply bA | apply bN | apply bD | refine bX ?_ (by assumption)) | exact HB.out))
       have n9_ := Am (bT hv hb)
       clear HB
       replace BK272 := hp0 BK272; replace BK273 := hp0 BK273; replace BK274 := hp0 BK274; replace BK278 := hp0 BK278; replace BK282 := hp0 BK282; replace BK286 := hp0 BK286; replace BK290 := hp0 BK290; replace BK298 := hp0 BK298; replace BK302 := hp0 BK302
       have HB := n9_
       clear n9_ hp0 hv
       (try clear hb)
       (try clear hHeld)
       refine hK.out _ _ ⟨c20 BK278.out, c21 BK278.out, c20 BK282.out, c21 BK282.out, c20 BK286.out, c21 BK286.out, c20 BK290.out, c21 BK290.out, c20 BK298.out, c21 BK298.out, c20 BK302.out, c21 BK302.out, c20 BK272.out, c21 BK272.out, c20 BK273.out, c21 BK273.out⟩ (fun hHeld => ?_)
       clear hK K
       refine norm_ (a' := ?_) ?_ ?_
       rotate_left
       ·show Act.put _ (some 156) _ = _
        simp only [Act.put, List.setIfInBounds_toArray, List.set_cons_zero, List.set_cons_succ, i64_w, i32_w]
        rfl
       iterate 17
        first
        | refine pI (v := ?_) (a' := ?_) rfl (any_of HT_.out (by kernel_rfl)) (fun _ _ _ h => h) (Or.inl ⟨by rfl, ?_⟩) ?_ ?_
          rotate_left
          ·intro w'
           go_simp
           with_reducible rfl
          rotate_left
          ·show Act.put _ (some _) _ = _
           simp only [Act.put, List.setIfInBounds_toArray, List.set_cons_zero, List.set_cons_succ, i64_w, i32_w]
           rfl
        | refine pI (v := undef) (a' := ?_) rfl (any_of HT_.out (by kernel_rfl)) (fun _ _ _ h => h) (Or.inr ⟨by rfl, rfl⟩) ?_ ?_
          rotate_left
          ·show Act.put _ (some _) _ = _
           simp only [Act.put, List.setIfInBounds_toArray, List.set_cons_zero, List.set_cons_succ, i64_w, i32_w]
           rfl
       refine done_ (done_of HT_.out (by kernel_rfl)) ?_
       try go_wp2
       go_meet
       case rel =>
        refine ⟨_, (false), (by first | rfl | (simp; done) | (simp [*]; done)), H', ⟨by first | omega | exact Nat.le_refl _⟩, ⟨?_⟩, ⟨?_⟩, ⟨?_⟩, ⟨?_⟩, ⟨?_⟩, ⟨?_⟩, ⟨?_⟩, ⟨?_⟩, ⟨?_⟩, ⟨by repeat (first | (with_reducible first | exact HB.out | apply bA | apply bN | apply bD | refine bX ?_ (by assumption)) | exact HB.out)⟩⟩
        all_goals ((with_reducible repeat (first | refine kN ?_ _ | refine kD ?_ | refine kA ?_ _)); exact Aside0.out (by assumption))
     replace c107 := Bool.eq_false_iff.mpr c107
     subst c107
     have H1 : (laws_FnTurnsAddedOfAll.j0 k a3 a4 a5 true t291 false t297 true a0_0 a0_1 a1_0 a1_1 a2_0 a2_1 t275 t276 t295 t296) = some r := by rw [if_neg (show ¬ (false = true) by decide)] at H; exact H
     clear H
     have H := H1
     clear H1
     as_aux_lemma =>
      exact absurd ((laws_FnTurnsAddedOfAll.j0_no H).symm.trans hlaw.out) (by decide)
    replace c106 := Bool.eq_false_iff.mpr c106
    subst c106
    have H1 : (if t285 = true then (laws_FnTurnsAddedOfAll.j0 k a3 a4 a5 false t291 t292 t297 (!t292) a0_0 a0_1 a1_0 a1_1 a2_0 a2_1 t275 t276 t295 t296) else (laws_FnTurnsAddedOfAll.j0 k a3 a4 a5 false t291 t292 t297 false a0_0 a0_1 a1_0 a1_1 a2_0 a2_1 t275 t276 t295 t296)) = some r := by rw [if_neg (show ¬ (false = true) by decide)] at H; exact H
    clear H
    have H := H1
    clear H1
    by_cases c123 : t285 = true
    ·subst c123
     have H1 : (laws_FnTurnsAddedOfAll.j0 k a3 a4 a5 false t291 t292 t297 (!t292) a0_0 a0_1 a1_0 a1_1 a2_0 a2_1 t275 t276 t295 t296) = some r := by rw [if_pos rfl] at H; exact H
     clear H
     have H := H1
     clear H1
     as_aux_lemma =>
      have H' := Am H
      clear H
      try go_wp2
      have hq := hqR (W := ((w79.setCell ⟨gb302, 0, none⟩ (.int .i64 t299)).setCell ⟨gb302, 1, none⟩ (.int .i64 t300))) gb302 BK272.out (fun _ _ q_ h_ => by (with_reducible repeat (first | refine kN ?_ _ | refine kD ?_ | refine kA ?_ _ | refine kZ ?_ q_ _)); exact h_)
      have n0_ := Am (hq NB272_302.out BK272.out)
      have n1_ := Am (hq NB273_302.out BK273.out)
      have n2_ := Am (hq NB274_302.out BK274.out)
      have n3_ := Am (hq NB278_302.out BK278.out)
      have n4_ := Am (hq NB282_302.out BK282.out)
      have n5_ := Am (hq NB286_302.out BK286.out)
      have n6_ := Am (hq NB290_302.out BK290.out)
      have n7_ := Am (hq NB298_302.out BK298.out)
      have n8_ : Aside0 (((w79.setCell ⟨gb302, 0, none⟩ (.int .i64 t299)).setCell ⟨gb302, 1, none⟩ (.int .i64 t300)).heap[gb302]? = some (.cells #[.int .i64 t299, .int .i64 t300] 23 (0, 0))) := ⟨by (with_reducible repeat (first | refine kN ?_ _ | refine kD ?_ | refine kA ?_ _)); refine kP (cs := #[.int .i64 t299, .int .i64 0]) ?_ 1 _ rfl; (with_reducible repeat (first | refine kN ?_ _ | refine kD ?_ | refine kA ?_ _)); refine kP (cs := #[.int .i64 0, .int .i64 0]) ?_ 0 _ rfl; (with_reducible repeat (first | refine kN ?_ _ | refine kD ?_ | refine kA ?_ _)); exact BK302.out⟩
      have n9_ : Aside0 (Below w.heap.size w ((w79.setCell ⟨gb302, 0, none⟩ (.int .i64 t299)).setCell ⟨gb302, 1, none⟩ (.int .i64 t300))) := ⟨by repeat (first | (with_reducible first | exact HB.out | apply bA | apply bN | apply bD | refine bX ?_ (by assumption)) | exact HB.out)⟩
      clear hq
      (try clear BK272)
      (try clear BK273)
      (try clear BK274)
      (try clear BK278)
      (try clear BK282)
      (try clear BK286)
      (try clear BK290)
      (try clear BK298)
      (try clear BK302)
      (try clear HB)
      generalize ((w79.setCell ⟨gb302, 0, none⟩ (.int .i64 t299)).setCell ⟨gb302, 1, none⟩ (.int .i64 t300)) = w124 at n0_ n1_ n2_ n3_ n4_ n5_ n6_ n7_ n8_ n9_ ⊢
      have BK272 := n0_; have BK273 := n1_; have BK274 := n2_; have BK278 := n3_; have BK282 := n4_; have BK286 := n5_; have BK290 := n6_; have BK298 := n7_; have BK302 := n8_; have HB := n9_
      clear n0_ n1_ n2_ n3_ n4_ n5_ n6_ n7_ n8_ n9_
      have n0_ := Am (kD BK272.out)
      have n1_ := Am (kD BK273.out)
      have n2_ := Am (kD BK274.out)
      have n3_ := Am (kD BK278.out)
      have n4_ := Am (kD BK282.out)
      have n5_ := Am (kD BK286.out)
      have n6_ := Am (kD BK290.out)
      have n7_ := Am (kD BK298.out)
      have n8_ := Am (kD BK302.out)
      have n9_ := Am (bD HB.out)
      clear BK272 BK273 BK274 BK278 BK282 BK286 BK290 BK298 BK302 HB
      have BK272 := n0_; have BK273 := n1_; have BK274 := n2_; have BK278 := n3_; have BK282 := n4_; have BK286 := n5_; have BK290 := n6_; have BK298 := n7_; have BK302 := n8_; have HB := n9_
      clear n0_ n1_ n2_ n3_ n4_ n5_ n6_ n7_ n8_ n9_
      refine start_ (n := 75) (S := fun w' => w'.cell? ⟨gb278, 0, none⟩ = some (.int .i64 t275) ∧ w'.cell? ⟨gb278, 1, none⟩ = some (.int .i64 t276) ∧ w'.cell? ⟨gb282, 0, none⟩ = some (.int .i64 t279) ∧ w'.cell? ⟨gb282, 1, none⟩ = some (.int .i64 t280) ∧ w'.cell? ⟨gb286, 0, none⟩ = some (.int .i64 t283) ∧ w'.cell? ⟨gb286, 1, none⟩ = some (.int .i64 t284) ∧ w'.cell? ⟨gb290, 0, none⟩ = some (.int .i64 t287) ∧ w'.cell? ⟨gb290, 1, none⟩ = some (.int .i64 t288) ∧ w'.cell? ⟨gb298, 0, none⟩ = some (.int .i64 t295) ∧ w'.cell? ⟨gb298, 1, none⟩ = some (.int .i64 t296) ∧ w'.cell? ⟨gb302, 0, none⟩ = some (.int .i64 t299) ∧ w'.cell? ⟨gb302, 1, none⟩ = some (.int .i64 t300) ∧ w'.cell? ⟨gb272, 0, none⟩ = some (.int .i64 a0_0) ∧ w'.cell? ⟨gb272, 1, none⟩ = some (.int .i64 a0_1) ∧ w'.cell? ⟨gb273, 0, none⟩ = some (.int .i64 a1_0) ∧ w'.cell? ⟨gb273, 1, none⟩ = some (.int .i64 a1_1)) (ds := []) (pT 75 0) (by kernel_rfl) rfl rfl ⟨c20 BK278.out, c21 BK278.out, c20 BK282.out, c21 BK282.out, c20 BK286.out, c21 BK286.out, c20 BK290.out, c21 BK290.out, c20 BK298.out, c21 BK298.out, c20 BK302.out, c21 BK302.out, c20 BK272.out, c21 BK272.out, c20 BK273.out, c21 BK273.out⟩ (fun hHeld => ?_); refine with_tabW laws_FnTurnsAddedOfAll.tab9 laws_FnTurnsAddedOfAll.bits9 (fun HT_ HW_ => ?_)
      generalize w124.drew = w125 at BK272 BK273 BK274 BK278 BK282 BK286 BK290 BK298 BK302 HB hHeld ⊢
      iterate 41
       first
       | refine pI (v := ?_) (a' := ?_) rfl (any_of HT_.out (by kernel_rfl)) (fun _ _ _ h => h) (Or.inl ⟨by rfl, ?_⟩) ?_ ?_
         rotate_left
         ·intro w'
          go_simp
          with_reducible rfl
         rotate_left
         ·show Act.put _ (some _) _ = _
          simp only [Act.put, List.setIfInBounds_toArray, List.set_cons_zero, List.set_cons_succ, i64_w, i32_w]
          rfl
       | refine tI (v := ?_) (a' := ?_) rfl (take_ofW HT_.out HW_.out (by kernel_rfl)) (fun _ _ _ h => h) (Or.inl ⟨by rfl, ?_⟩) hHeld ?_ ?_
         rotate_left
         ·rintro w' ⟨s0, s1, s2, s3, s4, s5, s6, s7, s8, s9, s10, s11, s12, s13, s14, s15⟩
          go_simp
          with_reducible rfl
         rotate_left
         ·show Act.put _ (some _) _ = _
          simp only [Act.put, List.setIfInBounds_toArray, List.set_cons_zero, List.set_cons_succ, i64_w, i32_w]
          rfl
      refine one_ (i := 41) (N := some 140) (pT 75 42) rfl rfl (one_of HT_.out (by kernel_rfl)) (by decide) (fun K hK => ?_)
      refine goes_ Try.func12 (by kernel_rfl) rfl #[.agg #[.int .i64 a0_0, .int .i64 a0_1]] (by rfl) rfl rfl (by (try simp only [List.map_toArray, List.map_cons, List.map_nil]); first | done | rfl | (simp only [List.length_drop, List.length_take]; rfl)) ?_
      with_reducible refine (impl_IsTurn.calls k a0_0 a0_1 t303 _ A97.out).mono ?_
      rintro e w126 ⟨rfl, hb⟩
      refine ⟨_, rfl, ?_⟩
      have hp0 := hpA BK272.out hb (fun _ _ h_ => by (with_reducible repeat (first | refine kN ?_ _ | refine kD ?_ | refine kA ?_ _)); exact h_)
      have hv := hvK (w := w) hb (by repeat (first | (with_reducible first | exact HB.out | apply bA | apply bN | apply bD | refine bX ?_ (by assumption)) | exact HB.out))
      have n9_ := Am (bT hv hb)
      clear HB
      replace BK272 := hp0 BK272; replace BK273 := hp0 BK273; replace BK274 := hp0 BK274; replace BK278 := hp0 BK278; replace BK282 := hp0 BK282; replace BK286 := hp0 BK286; replace BK290 := hp0 BK290; replace BK298 := hp0 BK298; replace BK302 := hp0 BK302
      have HB := n9_
      clear n9_ hp0 hv
      (try clear hb)
      (try clear hHeld)
      refine hK.out _ _ ⟨c20 BK278.out, c21 BK278.out, c20 BK282.out, c21 BK282.out, c20 BK286.out, c21 BK286.out, c20 BK290.out, c21 BK290.out, c20 BK298.out, c21 BK298.out, c20 BK302.out, c21 BK302.out, c20 BK272.out, c21 BK272.out, c20 BK273.out, c21 BK273.out⟩ (fun hHeld => ?_)
      clear hK K
      refine norm_ (a' := ?_) ?_ ?_
      rotate_left
      ·show Act.put _ (some 140) _ = _
       simp only [Act.put, List.setIfInBounds_toArray, List.set_cons_zero, List.set_cons_succ, i64_w, i32_w]
       rfl
      iterate 4
       first
       | refine pI (v := ?_) (a' := ?_) rfl (any_of HT_.out (by kernel_rfl)) (fun _ _ _ h => h) (Or.inl ⟨by rfl, ?_⟩) ?_ ?_
         rotate_left
         ·intro w'
          go_simp
          with_reducible rfl
         rotate_left
         ·show Act.put _ (some _) _ = _
          simp only [Act.put, List.setIfInBounds_toArray, List.set_cons_zero, List.set_cons_succ, i64_w, i32_w]
          rfl
       | refine tI (v := ?_) (a' := ?_) rfl (take_ofW HT_.out HW_.out (by kernel_rfl)) (fun _ _ _ h => h) (Or.inl ⟨by rfl, ?_⟩) hHeld ?_ ?_
         rotate_left
         ·rintro w' ⟨s0, s1, s2, s3, s4, s5, s6, s7, s8, s9, s10, s11, s12, s13, s14, s15⟩
          go_simp
          with_reducible rfl
         rotate_left
         ·show Act.put _ (some _) _ = _
          simp only [Act.put, List.setIfInBounds_toArray, List.set_cons_zero, List.set_cons_succ, i64_w, i32_w]
          rfl
      refine take_ (i := 47) (N := some 146) (v := ?_) (a' := ?_) #[true, true, true, true, true, true, true, true, true, true, true, true, true, true, true, true, true, true, true, true, true, true, true, true, true, true, true, true, true, true, true, true, true, true, true, true, true, true, true, true, true, true, true, true, true, true, false, true, false, false, false, false, false, false, false, false, false, false, false, false, false, false, false, false, false, false, false, false, false, false, false, false, false, false, false] rfl rfl (take_ofW HT_.out HW_.out (by kernel_rfl)) (fun _ _ _ h => h) (Or.inl ⟨by rfl, ?_⟩) hHeld ?_ ?_
      rotate_left
      ·rintro w' ⟨s0, s1, s2, s3, s4, s5, s6, s7, s8, s9, s10, s11, s12, s13, s14, s15⟩
       go_simp
       with_reducible rfl
      rotate_left
      ·simp only [Act.put, List.setIfInBounds_toArray, List.set_cons_zero, List.set_cons_succ, i64_w, i32_w]
       rfl
      refine one_ (i := 46) (N := some 145) (pT 75 48) rfl rfl (one_of HT_.out (by kernel_rfl)) (by decide) (fun K hK => ?_)
      refine goes_ Try.func12 (by kernel_rfl) rfl #[.agg #[.int .i64 a0_0, .int .i64 a0_1]] (by rfl) rfl rfl (by (try simp only [List.map_toArray, List.map_cons, List.map_nil]); first | done | rfl | (simp only [List.length_drop, List.length_take]; rfl)) ?_
      with_reducible refine (impl_IsTurn.calls k a0_0 a0_1 t304 _ A99.out).mono ?_
      rintro e w127 ⟨rfl, hb⟩
      refine ⟨_, rfl, ?_⟩
      have hp0 := hpA BK272.out hb (fun _ _ h_ => by (with_reducible repeat (first | refine kN ?_ _ | refine kD ?_ | refine kA ?_ _)); exact h_)
      have hv := hvK (w := w) hb (by repeat (first | (with_reducible first | exact HB.out | apply bA | apply bN | apply bD | refine bX ?_ (by assumption)) | exact HB.out))
      have n9_ := Am (bT hv hb)
      clear HB
      replace BK272 := hp0 BK272; replace BK273 := hp0 BK273; replace BK274 := hp0 BK274; replace BK278 := hp0 BK278; replace BK282 := hp0 BK282; replace BK286 := hp0 BK286; replace BK290 := hp0 BK290; replace BK298 := hp0 BK298; replace BK302 := hp0 BK302
      have HB := n9_
      clear n9_ hp0 hv
      (try clear hb)
      (try clear hHeld)
      refine hK.out _ _ ⟨c20 BK278.out, c21 BK278.out, c20 BK282.out, c21 BK282.out, c20 BK286.out, c21 BK286.out, c20 BK290.out, c21 BK290.out, c20 BK298.out, c21 BK298.out, c20 BK302.out, c21 BK302.out, c20 BK272.out, c21 BK272.out, c20 BK273.out, c21 BK273.out⟩ (fun hHeld => ?_)
      clear hK K
      refine norm_ (a' := ?_) ?_ ?_
      rotate_left
      ·show Act.put _ (some 145) _ = _
       simp only [Act.put, List.setIfInBounds_toArray, List.set_cons_zero, List.set_cons_succ, i64_w, i32_w]
       rfl
      refine one_ (i := 48) (N := some 147) (pT 75 49) rfl rfl (one_of HT_.out (by kernel_rfl)) (by decide) (fun K hK => ?_)
      refine goes_ Try.func13 (by kernel_rfl) rfl #[.agg #[.int .i64 a0_0, .int .i64 a0_1]] (by rfl) rfl rfl (by (try simp only [List.map_toArray, List.map_cons, List.map_nil]); first | done | rfl | (simp only [List.length_drop, List.length_take]; rfl)) ?_
      with_reducible refine (spec_IsTurn.calls k a0_0 a0_1 t305 _ A100.out).mono ?_
      rintro e w128 ⟨rfl, hb⟩
      refine ⟨_, rfl, ?_⟩
      have hp0 := hpA BK272.out hb (fun _ _ h_ => by (with_reducible repeat (first | refine kN ?_ _ | refine kD ?_ | refine kA ?_ _)); exact h_)
      have hv := hvK (w := w) hb (by repeat (first | (with_reducible first | exact HB.out | apply bA | apply bN | apply bD | refine bX ?_ (by assumption)) | exact HB.out))
      have n9_ := Am (bT hv hb)
      clear HB
      replace BK272 := hp0 BK272; replace BK273 := hp0 BK273; replace BK274 := hp0 BK274; replace BK278 := hp0 BK278; replace BK282 := hp0 BK282; replace BK286 := hp0 BK286; replace BK290 := hp0 BK290; replace BK298 := hp0 BK298; replace BK302 := hp0 BK302
      have HB := n9_
      clear n9_ hp0 hv
      (try clear hb)
      (try clear hHeld)
      refine hK.out _ _ ⟨c20 BK278.out, c21 BK278.out, c20 BK282.out, c21 BK282.out, c20 BK286.out, c21 BK286.out, c20 BK290.out, c21 BK290.out, c20 BK298.out, c21 BK298.out, c20 BK302.out, c21 BK302.out, c20 BK272.out, c21 BK272.out, c20 BK273.out, c21 BK273.out⟩ (fun hHeld => ?_)
      clear hK K
      refine norm_ (a' := ?_) ?_ ?_
      rotate_left
      ·show Act.put _ (some 147) _ = _
       simp only [Act.put, List.setIfInBounds_toArray, List.set_cons_zero, List.set_cons_succ, i64_w, i32_w]
       rfl
      iterate 5
       first
       | refine pI (v := ?_) (a' := ?_) rfl (any_of HT_.out (by kernel_rfl)) (fun _ _ _ h => h) (Or.inl ⟨by rfl, ?_⟩) ?_ ?_
         rotate_left
         ·intro w'
          go_simp
          with_reducible rfl
         rotate_left
         ·show Act.put _ (some _) _ = _
          simp only [Act.put, List.setIfInBounds_toArray, List.set_cons_zero, List.set_cons_succ, i64_w, i32_w]
          rfl
       | refine tI (v := ?_) (a' := ?_) rfl (take_ofW HT_.out HW_.out (by kernel_rfl)) (fun _ _ _ h => h) (Or.inl ⟨by rfl, ?_⟩) hHeld ?_ ?_
         rotate_left
         ·rintro w' ⟨s0, s1, s2, s3, s4, s5, s6, s7, s8, s9, s10, s11, s12, s13, s14, s15⟩
          go_simp
          with_reducible rfl
         rotate_left
         ·show Act.put _ (some _) _ = _
          simp only [Act.put, List.setIfInBounds_toArray, List.set_cons_zero, List.set_cons_succ, i64_w, i32_w]
          rfl
      refine one_ (i := 54) (N := some 153) (pT 75 55) rfl rfl (one_of HT_.out (by kernel_rfl)) (by decide) (fun K hK => ?_)
      refine goes_ Try.func12 (by kernel_rfl) rfl #[.agg #[.int .i64 a0_0, .int .i64 a0_1]] (by rfl) rfl rfl (by (try simp only [List.map_toArray, List.map_cons, List.map_nil]); first | done | rfl | (simp only [List.length_drop, List.length_take]; rfl)) ?_
      with_reducible refine (impl_IsTurn.calls k a0_0 a0_1 true _ A102.out).mono ?_
      rintro e w129 ⟨rfl, hb⟩
      refine ⟨_, rfl, ?_⟩
      have hp0 := hpA BK272.out hb (fun _ _ h_ => by (with_reducible repeat (first | refine kN ?_ _ | refine kD ?_ | refine kA ?_ _)); exact h_)
      have hv := hvK (w := w) hb (by repeat (first | (with_reducible first | exact HB.out | apply bA | apply bN | apply bD | refine bX ?_ (by assumption)) | exact HB.out))
      have n9_ := Am (bT hv hb)
      clear HB
      replace BK272 := hp0 BK272; replace BK273 := hp0 BK273; replace BK274 := hp0 BK274; replace BK278 := hp0 BK278; replace BK282 := hp0 BK282; replace BK286 := hp0 BK286; replace BK290 := hp0 BK290; replace BK298 := hp0 BK298; replace BK302 := hp0 BK302
      have HB := n9_
      clear n9_ hp0 hv
      (try clear hb)
      (try clear hHeld)
      refine hK.out _ _ ⟨c20 BK278.out, c21 BK278.out, c20 BK282.out, c21 BK282.out, c20 BK286.out, c21 BK286.out, c20 BK290.out, c21 BK290.out, c20 BK298.out, c21 BK298.out, c20 BK302.out, c21 BK302.out, c20 BK272.out, c21 BK272.out, c20 BK273.out, c21 BK273.out⟩ (fun hHeld => ?_)
      clear hK K
      refine norm_ (a' := ?_) ?_ ?_
      rotate_left
      ·show Act.put _ (some 153) _ = _
       simp only [Act.put, List.setIfInBounds_toArray, List.set_cons_zero, List.set_cons_succ, i64_w, i32_w]
       rfl
      iterate 2
       first
       | refine pI (v := ?_) (a' := ?_) rfl (any_of HT_.out (by kernel_rfl)) (fun _ _ _ h => h) (Or.inl ⟨by rfl, ?_⟩) ?_ ?_
         rotate_left
         ·intro w'
          go_simp
          with_reducible rfl
         rotate_left
         ·show Act.put _ (some _) _ = _
          simp only [Act.put, List.setIfInBounds_toArray, List.set_cons_zero, List.set_cons_succ, i64_w, i32_w]
          rfl
       | refine tI (v := ?_) (a' := ?_) rfl (take_ofW HT_.out HW_.out (by kernel_rfl)) (fun _ _ _ h => h) (Or.inl ⟨by rfl, ?_⟩) hHeld ?_ ?_
         rotate_left
         ·rintro w' ⟨s0, s1, s2, s3, s4, s5, s6, s7, s8, s9, s10, s11, s12, s13, s14, s15⟩
          go_simp
          with_reducible rfl
         rotate_left
         ·show Act.put _ (some _) _ = _
          simp only [Act.put, List.setIfInBounds_toArray, List.set_cons_zero, List.set_cons_succ, i64_w, i32_w]
          rfl
      refine one_ (i := 57) (N := some 156) (pT 75 58) rfl rfl (one_of HT_.out (by kernel_rfl)) (by decide) (fun K hK => ?_)
      refine goes_ Try.func12 (by kernel_rfl) rfl #[.agg #[.int .i64 a1_0, .int .i64 a1_1]] (by rfl) rfl rfl (by (try simp only [List.map_toArray, List.map_cons, List.map_nil]); first | done | rfl | (simp only [List.length_drop, List.length_take]; rfl)) ?_
      with_reducible refine (impl_IsTurn.calls k a1_0 a1_1 t307 _ A104.out).mono ?_
      rintro e w130 ⟨rfl, hb⟩
      refine ⟨_, rfl, ?_⟩
      have hp0 := hpA BK272.out hb (fun _ _ h_ => by (with_reducible repeat (first | refine kN ?_ _ | refine kD ?_ | refine kA ?_ _)); exact h_)
      have hv := hvK (w := w) hb (by repeat (first | (with_reducible first | exact HB.out | apply bA | apply bN | apply bD | refine bX ?_ (by assumption)) | exact HB.out))
      have n9_ := Am (bT hv hb)
      clear HB
      replace BK272 := hp0 BK272; replace BK273 := hp0 BK273; replace BK274 := hp0 BK274; replace BK278 := hp0 BK278; replace BK282 := hp0 BK282; replace BK286 := hp0 BK286; replace BK290 := hp0 BK290; replace BK298 := hp0 BK298; replace BK302 := hp0 BK302
      have HB := n9_
      clear n9_ hp0 hv
      (try clear hb)
      (try clear hHeld)
      refine hK.out _ _ ⟨c20 BK278.out, c21 BK278.out, c20 BK282.out, c21 BK282.out, c20 BK286.out, c21 BK286.out, c20 BK290.out, c21 BK290.out, c20 BK298.out, c21 BK298.out, c20 BK302.out, c21 BK302.out, c20 BK272.out, c21 BK272.out, c20 BK273.out, c21 BK273.out⟩ (fun hHeld => ?_)
      clear hK K
      refine norm_ (a' := ?_) ?_ ?_
      rotate_left
      ·show Act.put _ (some 156) _ = _
       simp only [Act.put, List.setIfInBounds_toArray, List.set_cons_zero, List.set_cons_succ, i64_w, i32_w]
       rfl
      iterate 17
       first
       | refine pI (v := ?_) (a' := ?_) rfl (any_of HT_.out (by kernel_rfl)) (fun _ _ _ h => h) (Or.inl ⟨by rfl, ?_⟩) ?_ ?_
         rotate_left
         ·intro w'
          go_simp
          with_reducible rfl
         rotate_left
         ·show Act.put _ (some _) _ = _
          simp only [Act.put, List.setIfInBounds_toArray, List.set_cons_zero, List.set_cons_succ, i64_w, i32_w]
          rfl
       | refine pI (v := undef) (a' := ?_) rfl (any_of HT_.out (by kernel_rfl)) (fun _ _ _ h => h) (Or.inr ⟨by rfl, rfl⟩) ?_ ?_
         rotate_left
         ·show Act.put _ (some _) _ = _
          simp only [Act.put, List.setIfInBounds_toArray, List.set_cons_zero, List.set_cons_succ, i64_w, i32_w]
          rfl
      refine done_ (done_of HT_.out (by kernel_rfl)) ?_
      try go_wp2
      go_meet
      case rel =>
       refine ⟨_, (!t292), (by first | rfl | (simp; done) | (simp [*]; done)), H', ⟨by first | omega | exact Nat.le_refl _⟩, ⟨?_⟩, ⟨?_⟩, ⟨?_⟩, ⟨?_⟩, ⟨?_⟩, ⟨?_⟩, ⟨?_⟩, ⟨?_⟩, ⟨?_⟩, ⟨by repeat (first | (with_reducible first | exact HB.out | apply bA | apply bN | apply bD | refine bX ?_ (by assumption)) | exact HB.out)⟩⟩
       all_goals ((with_reducible repeat (first | refine kN ?_ _ | refine kD ?_ | refine kA ?_ _)); exact Aside0.out (by assumption))
    replace c123 := Bool.eq_false_iff.mpr c123
    subst c123
    have H1 : (laws_FnTurnsAddedOfAll.j0 k a3 a4 a5 false t291 t292 t297 false a0_0 a0_1 a1_0 a1_1 a2_0 a2_1 t275 t276 t295 t296) = some r := by rw [if_neg (show ¬ (false = true) by decide)] at H; exact H
    clear H
    have H := H1
    clear H1
    as_aux_lemma =>
     have H' := Am H
     clear H
     try go_wp2
     have hq := hqR (W := ((w79.setCell ⟨gb302, 0, none⟩ (.int .i64 t299)).setCell ⟨gb302, 1, none⟩ (.int .i64 t300))) gb302 BK272.out (fun _ _ q_ h_ => by (with_reducible repeat (first | refine kN ?_ _ | refine kD ?_ | refine kA ?_ _ | refine kZ ?_ q_ _)); exact h_)
     have n0_ := Am (hq NB272_302.out BK272.out)
     have n1_ := Am (hq NB273_302.out BK273.out)
     have n2_ := Am (hq NB274_302.out BK274.out)
     have n3_ := Am (hq NB278_302.out BK278.out)
     have n4_ := Am (hq NB282_302.out BK282.out)
     have n5_ := Am (hq NB286_302.out BK286.out)
     have n6_ := Am (hq NB290_302.out BK290.out)
     have n7_ := Am (hq NB298_302.out BK298.out)
     have n8_ : Aside0 (((w79.setCell ⟨gb302, 0, none⟩ (.int .i64 t299)).setCell ⟨gb302, 1, none⟩ (.int .i64 t300)).heap[gb302]? = some (.cells #[.int .i64 t299, .int .i64 t300] 23 (0, 0))) := ⟨by (with_reducible repeat (first | refine kN ?_ _ | refine kD ?_ | refine kA ?_ _)); refine kP (cs := #[.int .i64 t299, .int .i64 0]) ?_ 1 _ rfl; (with_reducible repeat (first | refine kN ?_ _ | refine kD ?_ | refine kA ?_ _)); refine kP (cs := #[.int .i64 0, .int .i64 0]) ?_ 0 _ rfl; (with_reducible repeat (first | refine kN ?_ _ | refine kD ?_ | refine kA ?_ _)); exact BK302.out⟩
     have n9_ : Aside0 (Below w.heap.size w ((w79.setCell ⟨gb302, 0, none⟩ (.int .i64 t299)).setCell ⟨gb302, 1, none⟩ (.int .i64 t300))) := ⟨by repeat (first | (with_reducible first | exact HB.out | apply bA | apply bN | apply bD | refine bX ?_ (by assumption)) | exact HB.out)⟩
     clear hq
     (try clear BK272)
     (try clear BK273)
     (try clear BK274)
     (try clear BK278)
     (try clear BK282)
     (try clear BK286)
     (try clear BK290)
     (try clear BK298)
     (try clear BK302)
     (try clear HB)
     generalize ((w79.setCell ⟨gb302, 0, none⟩ (.int .i64 t299)).setCell ⟨gb302, 1, none⟩ (.int .i64 t300)) = w131 at n0_ n1_ n2_ n3_ n4_ n5_ n6_ n7_ n8_ n9_ ⊢
     have BK272 := n0_; have BK273 := n1_; have BK274 := n2_; have BK278 := n3_; have BK282 := n4_; have BK286 := n5_; have BK290 := n6_; have BK298 := n7_; have BK302 := n8_; have HB := n9_
     clear n0_ n1_ n2_ n3_ n4_ n5_ n6_ n7_ n8_ n9_
     have n0_ := Am (kD BK272.out)
     have n1_ := Am (kD BK273.out)
     have n2_ := Am (kD BK274.out)
     have n3_ := Am (kD BK278.out)
     have n4_ := Am (kD BK282.out)
     have n5_ := Am (kD BK286.out)
     have n6_ := Am (kD BK290.out)
     have n7_ := Am (kD BK298.out)
     have n8_ := Am (kD BK302.out)
     have n9_ := Am (bD HB.out)
     clear BK272 BK273 BK274 BK278 BK282 BK286 BK290 BK298 BK302 HB
     have BK272 := n0_; have BK273 := n1_; have BK274 := n2_; have BK278 := n3_; have BK282 := n4_; have BK286 := n5_; have BK290 := n6_; have BK298 := n7_; have BK302 := n8_; have HB := n9_
     clear n0_ n1_ n2_ n3_ n4_ n5_ n6_ n7_ n8_ n9_
     refine start_ (n := 75) (S := fun w' => w'.cell? ⟨gb278, 0, none⟩ = some (.int .i64 t275) ∧ w'.cell? ⟨gb278, 1, none⟩ = some (.int .i64 t276) ∧ w'.cell? ⟨gb282, 0, none⟩ = some (.int .i64 t279) ∧ w'.cell? ⟨gb282, 1, none⟩ = some (.int .i64 t280) ∧ w'.cell? ⟨gb286, 0, none⟩ = some (.int .i64 t283) ∧ w'.cell? ⟨gb286, 1, none⟩ = some (.int .i64 t284) ∧ w'.cell? ⟨gb290, 0, none⟩ = some (.int .i64 t287) ∧ w'.cell? ⟨gb290, 1, none⟩ = some (.int .i64 t288) ∧ w'.cell? ⟨gb298, 0, none⟩ = some (.int .i64 t295) ∧ w'.cell? ⟨gb298, 1, none⟩ = some (.int .i64 t296) ∧ w'.cell? ⟨gb302, 0, none⟩ = some (.int .i64 t299) ∧ w'.cell? ⟨gb302, 1, none⟩ = some (.int .i64 t300) ∧ w'.cell? ⟨gb272, 0, none⟩ = some (.int .i64 a0_0) ∧ w'.cell? ⟨gb272, 1, none⟩ = some (.int .i64 a0_1) ∧ w'.cell? ⟨gb273, 0, none⟩ = some (.int .i64 a1_0) ∧ w'.cell? ⟨gb273, 1, none⟩ = some (.int .i64 a1_1)) (ds := []) (pT 75 0) (by kernel_rfl) rfl rfl ⟨c20 BK278.out, c21 BK278.out, c20 BK282.out, c21 BK282.out, c20 BK286.out, c21 BK286.out, c20 BK290.out, c21 BK290.out, c20 BK298.out, c21 BK298.out, c20 BK302.out, c21 BK302.out, c20 BK272.out, c21 BK272.out, c20 BK273.out, c21 BK273.out⟩ (fun hHeld => ?_); refine with_tabW laws_FnTurnsAddedOfAll.tab9 laws_FnTurnsAddedOfAll.bits9 (fun HT_ HW_ => ?_)
     generalize w131.drew = w132 at BK272 BK273 BK274 BK278 BK282 BK286 BK290 BK298 BK302 HB hHeld ⊢
     iterate 41
      first
      | refine pI (v := ?_) (a' := ?_) rfl (any_of HT_.out (by kernel_rfl)) (fun _ _ _ h => h) (Or.inl ⟨by rfl, ?_⟩) ?_ ?_
        rotate_left
        ·intro w'
         go_simp
         with_reducible rfl
        rotate_left
        ·show Act.put _ (some _) _ = _
         simp only [Act.put, List.setIfInBounds_toArray, List.set_cons_zero, List.set_cons_succ, i64_w, i32_w]
         rfl
      | refine tI (v := ?_) (a' := ?_) rfl (take_ofW HT_.out HW_.out (by kernel_rfl)) (fun _ _ _ h => h) (Or.inl ⟨by rfl, ?_⟩) hHeld ?_ ?_
        rotate_left
        ·rintro w' ⟨s0, s1, s2, s3, s4, s5, s6, s7, s8, s9, s10, s11, s12, s13, s14, s15⟩
         go_simp
         with_reducible rfl
        rotate_left
        ·show Act.put _ (some _) _ = _
         simp only [Act.put, List.setIfInBounds_toArray, List.set_cons_zero, List.set_cons_succ, i64_w, i32_w]
         rfl
     refine one_ (i := 41) (N := some 140) (pT 75 42) rfl rfl (one_of HT_.out (by kernel_rfl)) (by decide) (fun K hK => ?_)
     refine goes_ Try.func12 (by kernel_rfl) rfl #[.agg #[.int .i64 a0_0, .int .i64 a0_1]] (by rfl) rfl rfl (by (try simp only [List.map_toArray, List.map_cons, List.map_nil]); first | done | rfl | (simp only [List.length_drop, List.length_take]; rfl)) ?_
     with_reducible refine (impl_IsTurn.calls k a0_0 a0_1 t303 _ A97.out).mono ?_
     rintro e w133 ⟨rfl, hb⟩
     refine ⟨_, rfl, ?_⟩
     have hp0 := hpA BK272.out hb (fun _ _ h_ => by (with_reducible repeat (first | refine kN ?_ _ | refine kD ?_ | refine kA ?_ _)); exact h_)
     have hv := hvK (w := w) hb (by repeat (first | (with_reducible first | exact HB.out | apply bA | apply bN | apply bD | refine bX ?_ (by assumption)) | exact HB.out))
     have n9_ := Am (bT hv hb)
     clear HB
     replace BK272 := hp0 BK272; replace BK273 := hp0 BK273; replace BK274 := hp0 BK274; replace BK278 := hp0 BK278; replace BK282 := hp0 BK282; replace BK286 := hp0 BK286; replace BK290 := hp0 BK290; replace BK298 := hp0 BK298; replace BK302 := hp0 BK302
     have HB := n9_
     clear n9_ hp0 hv
     (try clear hb)
     (try clear hHeld)
     refine hK.out _ _ ⟨c20 BK278.out, c21 BK278.out, c20 BK282.out, c21 BK282.out, c20 BK286.out, c21 BK286.out, c20 BK290.out, c21 BK290.out, c20 BK298.out, c21 BK298.out, c20 BK302.out, c21 BK302.out, c20 BK272.out, c21 BK272.out, c20 BK273.out, c21 BK273.out⟩ (fun hHeld => ?_)
     clear hK K
     refine norm_ (a' := ?_) ?_ ?_
     rotate_left
     ·show Act.put _ (some 140) _ = _
      simp only [Act.put, List.setIfInBounds_toArray, List.set_cons_zero, List.set_cons_succ, i64_w, i32_w]
      rfl
     iterate 4
      first
      | refine pI (v := ?_) (a' := ?_) rfl (any_of HT_.out (by kernel_rfl)) (fun _ _ _ h => h) (Or.inl ⟨by rfl, ?_⟩) ?_ ?_
        rotate_left
        ·intro w'
         go_simp
         with_reducible rfl
        rotate_left
        ·show Act.put _ (some _) _ = _
         simp only [Act.put, List.setIfInBounds_toArray, List.set_cons_zero, List.set_cons_succ, i64_w, i32_w]
         rfl
      | refine tI (v := ?_) (a' := ?_) rfl (take_ofW HT_.out HW_.out (by kernel_rfl)) (fun _ _ _ h => h) (Or.inl ⟨by rfl, ?_⟩) hHeld ?_ ?_
        rotate_left
        ·rintro w' ⟨s0, s1, s2, s3, s4, s5, s6, s7, s8, s9, s10, s11, s12, s13, s14, s15⟩
         go_simp
         with_reducible rfl
        rotate_left
        ·show Act.put _ (some _) _ = _
         simp only [Act.put, List.setIfInBounds_toArray, List.set_cons_zero, List.set_cons_succ, i64_w, i32_w]
         rfl
     refine take_ (i := 47) (N := some 146) (v := ?_) (a' := ?_) #[true, true, true, true, true, true, true, true, true, true, true, true, true, true, true, true, true, true, true, true, true, true, true, true, true, true, true, true, true, true, true, true, true, true, true, true, true, true, true, true, true, true, true, true, true, true, false, true, false, false, false, false, false, false, false, false, false, false, false, false, false, false, false, false, false, false, false, false, false, false, false, false, false, false, false] rfl rfl (take_ofW HT_.out HW_.out (by kernel_rfl)) (fun _ _ _ h => h) (Or.inl ⟨by rfl, ?_⟩) hHeld ?_ ?_
     rotate_left
     ·rintro w' ⟨s0, s1, s2, s3, s4, s5, s6, s7, s8, s9, s10, s11, s12, s13, s14, s15⟩
      go_simp
      with_reducible rfl
     rotate_left
     ·simp only [Act.put, List.setIfInBounds_toArray, List.set_cons_zero, List.set_cons_succ, i64_w, i32_w]
      rfl
     refine one_ (i := 46) (N := some 145) (pT 75 48) rfl rfl (one_of HT_.out (by kernel_rfl)) (by decide) (fun K hK => ?_)
     refine goes_ Try.func12 (by kernel_rfl) rfl #[.agg #[.int .i64 a0_0, .int .i64 a0_1]] (by rfl) rfl rfl (by (try simp only [List.map_toArray, List.map_cons, List.map_nil]); first | done | rfl | (simp only [List.length_drop, List.length_take]; rfl)) ?_
     with_reducible refine (impl_IsTurn.calls k a0_0 a0_1 t304 _ A99.out).mono ?_
     rintro e w134 ⟨rfl, hb⟩
     refine ⟨_, rfl, ?_⟩
     have hp0 := hpA BK272.out hb (fun _ _ h_ => by (with_reducible repeat (first | refine kN ?_ _ | refine kD ?_ | refine kA ?_ _)); exact h_)
     have hv := hvK (w := w) hb (by repeat (first | (with_reducible first | exact HB.out | apply bA | apply bN | apply bD | refine bX ?_ (by assumption)) | exact HB.out))
     have n9_ := Am (bT hv hb)
     clear HB
     replace BK272 := hp0 BK272; replace BK273 := hp0 BK273; replace BK274 := hp0 BK274; replace BK278 := hp0 BK278; replace BK282 := hp0 BK282; replace BK286 := hp0 BK286; replace BK290 := hp0 BK290; replace BK298 := hp0 BK298; replace BK302 := hp0 BK302
     have HB := n9_
     clear n9_ hp0 hv
     (try clear hb)
     (try clear hHeld)
     refine hK.out _ _ ⟨c20 BK278.out, c21 BK278.out, c20 BK282.out, c21 BK282.out, c20 BK286.out, c21 BK286.out, c20 BK290.out, c21 BK290.out, c20 BK298.out, c21 BK298.out, c20 BK302.out, c21 BK302.out, c20 BK272.out, c21 BK272.out, c20 BK273.out, c21 BK273.out⟩ (fun hHeld => ?_)
     clear hK K
     refine norm_ (a' := ?_) ?_ ?_
     rotate_left
     ·show Act.put _ (some 145) _ = _
      simp only [Act.put, List.setIfInBounds_toArray, List.set_cons_zero, List.set_cons_succ, i64_w, i32_w]
      rfl
     refine one_ (i := 48) (N := some 147) (pT 75 49) rfl rfl (one_of HT_.out (by kernel_rfl)) (by decide) (fun K hK => ?_)
     refine goes_ Try.func13 (by kernel_rfl) rfl #[.agg #[.int .i64 a0_0, .int .i64 a0_1]] (by rfl) rfl rfl (by (try simp only [List.map_toArray, List.map_cons, List.map_nil]); first | done | rfl | (simp only [List.length_drop, List.length_take]; rfl)) ?_
     with_reducible refine (spec_IsTurn.calls k a0_0 a0_1 t305 _ A100.out).mono ?_
     rintro e w135 ⟨rfl, hb⟩
     refine ⟨_, rfl, ?_⟩
     have hp0 := hpA BK272.out hb (fun _ _ h_ => by (with_reducible repeat (first | refine kN ?_ _ | refine kD ?_ | refine kA ?_ _)); exact h_)
     have hv := hvK (w := w) hb (by repeat (first | (with_reducible first | exact HB.out | apply bA | apply bN | apply bD | refine bX ?_ (by assumption)) | exact HB.out))
     have n9_ := Am (bT hv hb)
     clear HB
     replace BK272 := hp0 BK272; replace BK273 := hp0 BK273; replace BK274 := hp0 BK274; replace BK278 := hp0 BK278; replace BK282 := hp0 BK282; replace BK286 := hp0 BK286; replace BK290 := hp0 BK290; replace BK298 := hp0 BK298; replace BK302 := hp0 BK302
     have HB := n9_
     clear n9_ hp0 hv
     (try clear hb)
     (try clear hHeld)
     refine hK.out _ _ ⟨c20 BK278.out, c21 BK278.out, c20 BK282.out, c21 BK282.out, c20 BK286.out, c21 BK286.out, c20 BK290.out, c21 BK290.out, c20 BK298.out, c21 BK298.out, c20 BK302.out, c21 BK302.out, c20 BK272.out, c21 BK272.out, c20 BK273.out, c21 BK273.out⟩ (fun hHeld => ?_)
     clear hK K
     refine norm_ (a' := ?_) ?_ ?_
     rotate_left
     ·show Act.put _ (some 147) _ = _
      simp only [Act.put, List.setIfInBounds_toArray, List.set_cons_zero, List.set_cons_succ, i64_w, i32_w]
      rfl
     iterate 5
      first
      | refine pI (v := ?_) (a' := ?_) rfl (any_of HT_.out (by kernel_rfl)) (fun _ _ _ h => h) (Or.inl ⟨by rfl, ?_⟩) ?_ ?_
        rotate_left
        ·intro w'
         go_simp
         with_reducible rfl
        rotate_left
        ·show Act.put _ (some _) _ = _
         simp only [Act.put, List.setIfInBounds_toArray, List.set_cons_zero, List.set_cons_succ, i64_w, i32_w]
         rfl
      | refine tI (v := ?_) (a' := ?_) rfl (take_ofW HT_.out HW_.out (by kernel_rfl)) (fun _ _ _ h => h) (Or.inl ⟨by rfl, ?_⟩) hHeld ?_ ?_
        rotate_left
        ·rintro w' ⟨s0, s1, s2, s3, s4, s5, s6, s7, s8, s9, s10, s11, s12, s13, s14, s15⟩
         go_simp
         with_reducible rfl
        rotate_left
        ·show Act.put _ (some _) _ = _
         simp only [Act.put, List.setIfInBounds_toArray, List.set_cons_zero, List.set_cons_succ, i64_w, i32_w]
         rfl
     refine one_ (i := 54) (N := some 153) (pT 75 55) rfl rfl (one_of HT_.out (by kernel_rfl)) (by decide) (fun K hK => ?_)
     refine goes_ Try.func12 (by kernel_rfl) rfl #[.agg #[.int .i64 a0_0, .int .i64 a0_1]] (by rfl) rfl rfl (by (try simp only [List.map_toArray, List.map_cons, List.map_nil]); first | done | rfl | (simp only [List.length_drop, List.length_take]; rfl)) ?_
     with_reducible refine (impl_IsTurn.calls k a0_0 a0_1 true _ A102.out).mono ?_
     rintro e w136 ⟨rfl, hb⟩
     refine ⟨_, rfl, ?_⟩
     have hp0 := hpA BK272.out hb (fun _ _ h_ => by (with_reducible repeat (first | refine kN ?_ _ | refine kD ?_ | refine kA ?_ _)); exact h_)
     have hv := hvK (w := w) hb (by repeat (first | (with_reducible first | exact HB.out | apply bA | apply bN | apply bD | refine bX ?_ (by assumption)) | exact HB.out))
     have n9_ := Am (bT hv hb)
     clear HB
     replace BK272 := hp0 BK272; replace BK273 := hp0 BK273; replace BK274 := hp0 BK274; replace BK278 := hp0 BK278; replace BK282 := hp0 BK282; replace BK286 := hp0 BK286; replace BK290 := hp0 BK290; replace BK298 := hp0 BK298; replace BK302 := hp0 BK302
     have HB := n9_
     clear n9_ hp0 hv
     (try clear hb)
     (try clear hHeld)
     refine hK.out _ _ ⟨c20 BK278.out, c21 BK278.out, c20 BK282.out, c21 BK282.out, c20 BK286.out, c21 BK286.out, c20 BK290.out, c21 BK290.out, c20 BK298.out, c21 BK298.out, c20 BK302.out, c21 BK302.out, c20 BK272.out, c21 BK272.out, c20 BK273.out, c21 BK273.out⟩ (fun hHeld => ?_)
     clear hK K
     refine norm_ (a' := ?_) ?_ ?_
     rotate_left
     ·show Act.put _ (some 153) _ = _
      simp only [Act.put, List.setIfInBounds_toArray, List.set_cons_zero, List.set_cons_succ, i64_w, i32_w]
      rfl
     iterate 2
      first
      | refine pI (v := ?_) (a' := ?_) rfl (any_of HT_.out (by kernel_rfl)) (fun _ _ _ h => h) (Or.inl ⟨by rfl, ?_⟩) ?_ ?_
        rotate_left
        ·intro w'
         go_simp
         with_reducible rfl
        rotate_left
        ·show Act.put _ (some _) _ = _
         simp only [Act.put, List.setIfInBounds_toArray, List.set_cons_zero, List.set_cons_succ, i64_w, i32_w]
         rfl
      | refine tI (v := ?_) (a' := ?_) rfl (take_ofW HT_.out HW_.out (by kernel_rfl)) (fun _ _ _ h => h) (Or.inl ⟨by rfl, ?_⟩) hHeld ?_ ?_
        rotate_left
        ·rintro w' ⟨s0, s1, s2, s3, s4, s5, s6, s7, s8, s9, s10, s11, s12, s13, s14, s15⟩
         go_simp
         with_reducible rfl
        rotate_left
        ·show Act.put _ (some _) _ = _
         simp only [Act.put, List.setIfInBounds_toArray, List.set_cons_zero, List.set_cons_succ, i64_w, i32_w]
         rfl
     refine one_ (i := 57) (N := some 156) (pT 75 58) rfl rfl (one_of HT_.out (by kernel_rfl)) (by decide) (fun K hK => ?_)
     refine goes_ Try.func12 (by kernel_rfl) rfl #[.agg #[.int .i64 a1_0, .int .i64 a1_1]] (by rfl) rfl rfl (by (try simp only [List.map_toArray, List.map_cons, List.map_nil]); first | done | rfl | (simp only [List.length_drop, List.length_take]; rfl)) ?_
     with_reducible refine (impl_IsTurn.calls k a1_0 a1_1 t307 _ A104.out).mono ?_
     rintro e w137 ⟨rfl, hb⟩
     refine ⟨_, rfl, ?_⟩
     have hp0 := hpA BK272.out hb (fun _ _ h_ => by (with_reducible repeat (first | refine kN ?_ _ | refine kD ?_ | refine kA ?_ _)); exact h_)
     have hv := hvK (w := w) hb (by repeat (first | (with_reducible first | exact HB.out | apply bA | apply bN | apply bD | refine bX ?_ (by assumption)) | exact HB.out))
     have n9_ := Am (bT hv hb)
     clear HB
     replace BK272 := hp0 BK272; replace BK273 := hp0 BK273; replace BK274 := hp0 BK274; replace BK278 := hp0 BK278; replace BK282 := hp0 BK282; replace BK286 := hp0 BK286; replace BK290 := hp0 BK290; replace BK298 := hp0 BK298; replace BK302 := hp0 BK302
     have HB := n9_
     clear n9_ hp0 hv
     (try clear hb)
     (try clear hHeld)
     refine hK.out _ _ ⟨c20 BK278.out, c21 BK278.out, c20 BK282.out, c21 BK282.out, c20 BK286.out, c21 BK286.out, c20 BK290.out, c21 BK290.out, c20 BK298.out, c21 BK298.out, c20 BK302.out, c21 BK302.out, c20 BK272.out, c21 BK272.out, c20 BK273.out, c21 BK273.out⟩ (fun hHeld => ?_)
     clear hK K
     refine norm_ (a' := ?_) ?_ ?_
     rotate_left
     ·show Act.put _ (some 156) _ = _
      simp only [Act.put, List.setIfInBounds_toArray, List.set_cons_zero, List.set_cons_succ, i64_w, i32_w]
      rfl
     iterate 17
      first
      | refine pI (v := ?_) (a' := ?_) rfl (any_of HT_.out (by kernel_rfl)) (fun _ _ _ h => h) (Or.inl ⟨by rfl, ?_⟩) ?_ ?_
        rotate_left
        ·intro w'
         go_simp
         with_reducible rfl
        rotate_left
        ·show Act.put _ (some _) _ = _
         simp only [Act.put, List.setIfInBounds_toArray, List.set_cons_zero, List.set_cons_succ, i64_w, i32_w]
         rfl
      | refine pI (v := undef) (a' := ?_) rfl (any_of HT_.out (by kernel_rfl)) (fun _ _ _ h => h) (Or.inr ⟨by rfl, rfl⟩) ?_ ?_
        rotate_left
        ·show Act.put _ (some _) _ = _
         simp only [Act.put, List.setIfInBounds_toArray, List.set_cons_zero, List.set_cons_succ, i64_w, i32_w]
         rfl
     refine done_ (done_of HT_.out (by kernel_rfl)) ?_
     try go_wp2
     go_meet
     case rel =>
      refine ⟨_, (false), (by first | rfl | (simp; done) | (simp [*]; done)), H', ⟨by first | omega | exact Nat.le_refl _⟩, ⟨?_⟩, ⟨?_⟩, ⟨?_⟩, ⟨?_⟩, ⟨?_⟩, ⟨?_⟩, ⟨?_⟩, ⟨?_⟩, ⟨?_⟩, ⟨by repeat (first | (with_reducible first | exact HB.out | apply bA | apply bN | apply bD | refine bX ?_ (by assumption)) | exact HB.out)⟩⟩
      all_goals ((with_reducible repeat (first | refine kN ?_ _ | refine kD ?_ | refine kA ?_ _)); exact Aside0.out (by assumption))
   replace c103 := Bool.eq_false_iff.mpr c103
   subst c103
   have H1 : (if (t292 != false) = true then (laws_FnTurnsAddedOfAll.j0 k a3 a4 a5 t277 t291 t292 t297 true a0_0 a0_1 a1_0 a1_1 a2_0 a2_1 t275 t276 t295 t296) else (if t277 = true then (if t292 = true then (if t285 = true then (laws_FnTurnsAddedOfAll.j0 k a3 a4 a5 t277 t291 t292 t297 (!t292) a0_0 a0_1 a1_0 a1_1 a2_0 a2_1 t275 t276 t295 t296) else (laws_FnTurnsAddedOfAll.j0 k a3 a4 a5 t277 t291 t292 t297 false a0_0 a0_1 a1_0 a1_1 a2_0 a2_1 t275 t276 t295 t296)) else (laws_FnTurnsAddedOfAll.j0 k a3 a4 a5 t277 t291 t292 t297 true a0_0 a0_1 a1_0 a1_1 a2_0 a2_1 t275 t276 t295 t296)) else (if t285 = true then (laws_FnTurnsAddedOfAll.j0 k a3 a4 a5 t277 t291 t292 t297 (!t292) a0_0 a0_1 a1_0 a1_1 a2_0 a2_1 t275 t276 t295 t296) else (laws_FnTurnsAddedOfAll.j0 k a3 a4 a5 t277 t291 t292 t297 false a0_0 a0_1 a1_0 a1_1 a2_0 a2_1 t275 t276 t295 t296)))) = some r := by rw [if_neg (show ¬ (false = true) by decide)] at H; exact H
   clear H
   have H := H1
   clear H1
   by_cases c138 : (t292 != false) = true
   ·rw [if_pos c138] at H
    have c138b0 : (t292 != false) = true := c138
    (try (have c138b1 : decide (t292 = false) = false := by simpa using c138))
    (try (have c138b2 : (t292 == false) = false := by simpa using c138))
    (try (have c138b3 : ¬ (t292 = false) := by simpa using c138))
    clear c138
    as_aux_lemma =>
     exact absurd ((laws_FnTurnsAddedOfAll.j0_no H).symm.trans hlaw.out) (by decide)
   rw [if_neg c138] at H
   have c138b0 : (t292 != false) = false := by simpa using c138
   (try (have c138b1 : decide (t292 = false) = true := by simpa using c138))
   (try (have c138b2 : (t292 == false) = true := by simpa using c138))
   clear c138
   by_cases c139 : t277 = true
   ·subst c139
    have H1 : (if t292 = true then (if t285 = true then (laws_FnTurnsAddedOfAll.j0 k a3 a4 a5 true t291 t292 t297 (!t292) a0_0 a0_1 a1_0 a1_1 a2_0 a2_1 t275 t276 t295 t296) else (laws_FnTurnsAddedOfAll.j0 k a3 a4 a5 true t291 t292 t297 false a0_0 a0_1 a1_0 a1_1 a2_0 a2_1 t275 t276 t295 t296)) else (laws_FnTurnsAddedOfAll.j0 k a3 a4 a5 true t291 t292 t297 true a0_0 a0_1 a1_0 a1_1 a2_0 a2_1 t275 t276 t295 t296)) = some r := by rw [if_pos rfl] at H; exact H
    clear H
    have H := H1
    clear H1
    by_cases c140 : t292 = true
    ·subst c140
     exact absurd c138b0 (by decide)
    replace c140 := Bool.eq_false_iff.mpr c140
    subst c140
    have H1 : (laws_FnTurnsAddedOfAll.j0 k a3 a4 a5 true t291 false t297 true a0_0 a0_1 a1_0 a1_1 a2_0 a2_1 t275 t276 t295 t296) = some r := by rw [if_neg (show ¬ (false = true) by decide)] at H; exact H
    clear H
    have H := H1
    clear H1
    as_aux_lemma =>
     exact absurd ((laws_FnTurnsAddedOfAll.j0_no H).symm.trans hlaw.out) (by decide)
   replace c139 := Bool.eq_false_iff.mpr c139
   subst c139
   have H1 : (if t285 = true then (laws_FnTurnsAddedOfAll.j0 k a3 a4 a5 false t291 t292 t297 (!t292) a0_0 a0_1 a1_0 a1_1 a2_0 a2_1 t275 t276 t295 t296) else (laws_FnTurnsAddedOfAll.j0 k a3 a4 a5 false t291 t292 t297 false a0_0 a0_1 a1_0 a1_1 a2_0 a2_1 t275 t276 t295 t296)) = some r := by rw [if_neg (show ¬ (false = true) by decide)] at H; exact H
   clear H
   have H := H1
   clear H1
   by_cases c141 : t285 = true
   ·subst c141
    have H1 : (laws_FnTurnsAddedOfAll.j0 k a3 a4 a5 false t291 t292 t297 (!t292) a0_0 a0_1 a1_0 a1_1 a2_0 a2_1 t275 t276 t295 t296) = some r := by rw [if_pos rfl] at H; exact H
    clear H
    have H := H1
    clear H1
    as_aux_lemma =>
     rw [show t292 = false by simpa using c138b0] at H
     exact absurd ((laws_FnTurnsAddedOfAll.j0_no H).symm.trans hlaw.out) (by decide)
   replace c141 := Bool.eq_false_iff.mpr c141
   subst c141
   have H1 : (laws_FnTurnsAddedOfAll.j0 k a3 a4 a5 false t291 t292 t297 false a0_0 a0_1 a1_0 a1_1 a2_0 a2_1 t275 t276 t295 t296) = some r := by rw [if_neg (show ¬ (false = true) by decide)] at H; exact H
   clear H
   have H := H1
   clear H1
   as_aux_lemma =>
    have H' := Am H
    clear H
    try go_wp2
    have hq := hqR (W := ((w79.setCell ⟨gb302, 0, none⟩ (.int .i64 t299)).setCell ⟨gb302, 1, none⟩ (.int .i64 t300))) gb302 BK272.out (fun _ _ q_ h_ => by (with_reducible repeat (first | refine kN ?_ _ | refine kD ?_ | refine kA ?_ _ | refine kZ ?_ q_ _)); exact h_)
    have n0_ := Am (hq NB272_302.out BK272.out)
    have n1_ := Am (hq NB273_302.out BK273.out)
    have n2_ := Am (hq NB274_302.out BK274.out)
    have n3_ := Am (hq NB278_302.out BK278.out)
    have n4_ := Am (hq NB282_302.out BK282.out)
    have n5_ := Am (hq NB286_302.out BK286.out)
    have n6_ := Am (hq NB290_302.out BK290.out)
    have n7_ := Am (hq NB298_302.out BK298.out)
    have n8_ : Aside0 (((w79.setCell ⟨gb302, 0, none⟩ (.int .i64 t299)).setCell ⟨gb302, 1, none⟩ (.int .i64 t300)).heap[gb302]? = some (.cells #[.int .i64 t299, .int .i64 t300] 23 (0, 0))) := ⟨by (with_reducible repeat (first | refine kN ?_ _ | refine kD ?_ | refine kA ?_ _)); refine kP (cs := #[.int .i64 t299, .int .i64 0]) ?_ 1 _ rfl; (with_reducible repeat (first | refine kN ?_ _ | refine kD ?_ | refine kA ?_ _)); refine kP (cs := #[.int .i64 0, .int .i64 0]) ?_ 0 _ rfl; (with_reducible repeat (first | refine kN ?_ _ | refine kD ?_ | refine kA ?_ _)); exact BK302.out⟩
    have n9_ : Aside0 (Below w.heap.size w ((w79.setCell ⟨gb302, 0, none⟩ (.int .i64 t299)).setCell ⟨gb302, 1, none⟩ (.int .i64 t300))) := ⟨by repeat (first | (with_reducible first | exact HB.out | apply bA | apply bN | apply bD | refine bX ?_ (by assumption)) | exact HB.out)⟩
    clear hq
    (try clear BK272)
    (try clear BK273)
    (try clear BK274)
    (try clear BK278)
    (try clear BK282)
    (try clear BK286)
    (try clear BK290)
    (try clear BK298)
    (try clear BK302)
    (try clear HB)
    generalize ((w79.setCell ⟨gb302, 0, none⟩ (.int .i64 t299)).setCell ⟨gb302, 1, none⟩ (.int .i64 t300)) = w142 at n0_ n1_ n2_ n3_ n4_ n5_ n6_ n7_ n8_ n9_ ⊢
    have BK272 := n0_; have BK273 := n1_; have BK274 := n2_; have BK278 := n3_; have BK282 := n4_; have BK286 := n5_; have BK290 := n6_; have BK298 := n7_; have BK302 := n8_; have HB := n9_
    clear n0_ n1_ n2_ n3_ n4_ n5_ n6_ n7_ n8_ n9_
    have n0_ := Am (kD BK272.out)
    have n1_ := Am (kD BK273.out)
    have n2_ := Am (kD BK274.out)
    have n3_ := Am (kD BK278.out)
    have n4_ := Am (kD BK282.out)
    have n5_ := Am (kD BK286.out)
    have n6_ := Am (kD BK290.out)
    have n7_ := Am (kD BK298.out)
    have n8_ := Am (kD BK302.out)
    have n9_ := Am (bD HB.out)
    clear BK272 BK273 BK274 BK278 BK282 BK286 BK290 BK298 BK302 HB
    have BK272 := n0_; have BK273 := n1_; have BK274 := n2_; have BK278 := n3_; have BK282 := n4_; have BK286 := n5_; have BK290 := n6_; have BK298 := n7_; have BK302 := n8_; have HB := n9_
    clear n0_ n1_ n2_ n3_ n4_ n5_ n6_ n7_ n8_ n9_
    refine start_ (n := 75) (S := fun w' => w'.cell? ⟨gb278, 0, none⟩ = some (.int .i64 t275) ∧ w'.cell? ⟨gb278, 1, none⟩ = some (.int .i64 t276) ∧ w'.cell? ⟨gb282, 0, none⟩ = some (.int .i64 t279) ∧ w'.cell? ⟨gb282, 1, none⟩ = some (.int .i64 t280) ∧ w'.cell? ⟨gb286, 0, none⟩ = some (.int .i64 t283) ∧ w'.cell? ⟨gb286, 1, none⟩ = some (.int .i64 t284) ∧ w'.cell? ⟨gb290, 0, none⟩ = some (.int .i64 t287) ∧ w'.cell? ⟨gb290, 1, none⟩ = some (.int .i64 t288) ∧ w'.cell? ⟨gb298, 0, none⟩ = some (.int .i64 t295) ∧ w'.cell? ⟨gb298, 1, none⟩ = some (.int .i64 t296) ∧ w'.cell? ⟨gb302, 0, none⟩ = some (.int .i64 t299) ∧ w'.cell? ⟨gb302, 1, none⟩ = some (.int .i64 t300) ∧ w'.cell? ⟨gb272, 0, none⟩ = some (.int .i64 a0_0) ∧ w'.cell? ⟨gb272, 1, none⟩ = some (.int .i64 a0_1)) (ds := []) (pT 75 0) (by kernel_rfl) rfl rfl ⟨c20 BK278.out, c21 BK278.out, c20 BK282.out, c21 BK282.out, c20 BK286.out, c21 BK286.out, c20 BK290.out, c21 BK290.out, c20 BK298.out, c21 BK298.out, c20 BK302.out, c21 BK302.out, c20 BK272.out, c21 BK272.out⟩ (fun hHeld => ?_); refine with_tabW laws_FnTurnsAddedOfAll.tab9 laws_FnTurnsAddedOfAll.bits9 (fun HT_ HW_ => ?_)
    generalize w142.drew = w143 at BK272 BK273 BK274 BK278 BK282 BK286 BK290 BK298 BK302 HB hHeld ⊢
    iterate 41
     first
     | refine pI (v := ?_) (a' := ?_) rfl (any_of HT_.out (by kernel_rfl)) (fun _ _ _ h => h) (Or.inl ⟨by rfl, ?_⟩) ?_ ?_
       rotate_left
       ·intro w'
        go_simp
        with_reducible rfl
       rotate_left
       ·show Act.put _ (some _) _ = _
        simp only [Act.put, List.setIfInBounds_toArray, List.set_cons_zero, List.set_cons_succ, i64_w, i32_w]
        rfl
     | refine tI (v := ?_) (a' := ?_) rfl (take_ofW HT_.out HW_.out (by kernel_rfl)) (fun _ _ _ h => h) (Or.inl ⟨by rfl, ?_⟩) hHeld ?_ ?_
       rotate_left
       ·rintro w' ⟨s0, s1, s2, s3, s4, s5, s6, s7, s8, s9, s10, s11, s12, s13⟩
        go_simp
        with_reducible rfl
       rotate_left
       ·show Act.put _ (some _) _ = _
        simp only [Act.put, List.setIfInBounds_toArray, List.set_cons_zero, List.set_cons_succ, i64_w, i32_w]
        rfl
    refine one_ (i := 41) (N := some 140) (pT 75 42) rfl rfl (one_of HT_.out (by kernel_rfl)) (by decide) (fun K hK => ?_)
    refine goes_ Try.func12 (by kernel_rfl) rfl #[.agg #[.int .i64 a0_0, .int .i64 a0_1]] (by rfl) rfl rfl (by (try simp only [List.map_toArray, List.map_cons, List.map_nil]); first | done | rfl | (simp only [List.length_drop, List.length_take]; rfl)) ?_
    with_reducible refine (impl_IsTurn.calls k a0_0 a0_1 t303 _ A97.out).mono ?_
    rintro e w144 ⟨rfl, hb⟩
    refine ⟨_, rfl, ?_⟩
    have hp0 := hpA BK272.out hb (fun _ _ h_ => by (with_reducible repeat (first | refine kN ?_ _ | refine kD ?_ | refine kA ?_ _)); exact h_)
    have hv := hvK (w := w) hb (by repeat (first | (with_reducible first | exact HB.out | apply bA | apply bN | apply bD | refine bX ?_ (by assumption)) | exact HB.out))
    have n9_ := Am (bT hv hb)
    clear HB
    replace BK272 := hp0 BK272; replace BK273 := hp0 BK273; replace BK274 := hp0 BK274; replace BK278 := hp0 BK278; replace BK282 := hp0 BK282; replace BK286 := hp0 BK286; replace BK290 := hp0 BK290; replace BK298 := hp0 BK298; replace BK302 := hp0 BK302
    have HB := n9_
    clear n9_ hp0 hv
    (try clear hb)
    (try clear hHeld)
    refine hK.out _ _ ⟨c20 BK278.out, c21 BK278.out, c20 BK282.out, c21 BK282.out, c20 BK286.out, c21 BK286.out, c20 BK290.out, c21 BK290.out, c20 BK298.out, c21 BK298.out, c20 BK302.out, c21 BK302.out, c20 BK272.out, c21 BK272.out⟩ (fun hHeld => ?_)
    clear hK K
    refine norm_ (a' := ?_) ?_ ?_
    rotate_left
    ·show Act.put _ (some 140) _ = _
     simp only [Act.put, List.setIfInBounds_toArray, List.set_cons_zero, List.set_cons_succ, i64_w, i32_w]
     rfl
    iterate 4
     first
     | refine pI (v := ?_) (a' := ?_) rfl (any_of HT_.out (by kernel_rfl)) (fun _ _ _ h => h) (Or.inl ⟨by rfl, ?_⟩) ?_ ?_
       rotate_left
       ·intro w'
        go_simp
        with_reducible rfl
       rotate_left
       ·show Act.put _ (some _) _ = _
        simp only [Act.put, List.setIfInBounds_toArray, List.set_cons_zero, List.set_cons_succ, i64_w, i32_w]
        rfl
     | refine tI (v := ?_) (a' := ?_) rfl (take_ofW HT_.out HW_.out (by kernel_rfl)) (fun _ _ _ h => h) (Or.inl ⟨by rfl, ?_⟩) hHeld ?_ ?_
       rotate_left
       ·rintro w' ⟨s0, s1, s2, s3, s4, s5, s6, s7, s8, s9, s10, s11, s12, s13⟩
        go_simp
        with_reducible rfl
       rotate_left
       ·show Act.put _ (some _) _ = _
        simp only [Act.put, List.setIfInBounds_toArray, List.set_cons_zero, List.set_cons_succ, i64_w, i32_w]
        rfl
    refine take_ (i := 47) (N := some 146) (v := ?_) (a' := ?_) #[true, true, true, true, true, true, true, true, true, true, true, true, true, true, true, true, true, true, true, true, true, true, true, true, true, true, true, true, true, true, true, true, true, true, true, true, true, true, true, true, true, true, true, true, true, true, false, true, false, false, false, false, false, false, false, false, false, false, false, false, false, false, false, false, false, false, false, false, false, false, false, false, false, false, false] rfl rfl (take_ofW HT_.out HW_.out (by kernel_rfl)) (fun _ _ _ h => h) (Or.inl ⟨by rfl, ?_⟩) hHeld ?_ ?_
    rotate_left
    ·rintro w' ⟨s0, s1, s2, s3, s4, s5, s6, s7, s8, s9, s10, s11, s12, s13⟩
     go_simp
     with_reducible rfl
    rotate_left
    ·simp only [Act.put, List.setIfInBounds_toArray, List.set_cons_zero, List.set_cons_succ, i64_w, i32_w]
     rfl
    refine one_ (i := 46) (N := some 145) (pT 75 48) rfl rfl (one_of HT_.out (by kernel_rfl)) (by decide) (fun K hK => ?_)
    refine goes_ Try.func12 (by kernel_rfl) rfl #[.agg #[.int .i64 a0_0, .int .i64 a0_1]] (by rfl) rfl rfl (by (try simp only [List.map_toArray, List.map_cons, List.map_nil]); first | done | rfl | (simp only [List.length_drop, List.length_take]; rfl)) ?_
    with_reducible refine (impl_IsTurn.calls k a0_0 a0_1 t304 _ A99.out).mono ?_
    rintro e w145 ⟨rfl, hb⟩
    refine ⟨_, rfl, ?_⟩
    have hp0 := hpA BK272.out hb (fun _ _ h_ => by (with_reducible repeat (first | refine kN ?_ _ | refine kD ?_ | refine kA ?_ _)); exact h_)
    have hv := hvK (w := w) hb (by repeat (first | (with_reducible first | exact HB.out | apply bA | apply bN | apply bD | refine bX ?_ (by assumption)) | exact HB.out))
    have n9_ := Am (bT hv hb)
    clear HB
    replace BK272 := hp0 BK272; replace BK273 := hp0 BK273; replace BK274 := hp0 BK274; replace BK278 := hp0 BK278; replace BK282 := hp0 BK282; replace BK286 := hp0 BK286; replace BK290 := hp0 BK290; replace BK298 := hp0 BK298; replace BK302 := hp0 BK302
    have HB := n9_
    clear n9_ hp0 hv
    (try clear hb)
    (try clear hHeld)
    refine hK.out _ _ ⟨c20 BK278.out, c21 BK278.out, c20 BK282.out, c21 BK282.out, c20 BK286.out, c21 BK286.out, c20 BK290.out, c21 BK290.out, c20 BK298.out, c21 BK298.out, c20 BK302.out, c21 BK302.out, c20 BK272.out, c21 BK272.out⟩ (fun hHeld => ?_)
    clear hK K
    refine norm_ (a' := ?_) ?_ ?_
    rotate_left
    ·show Act.put _ (some 145) _ = _
     simp only [Act.put, List.setIfInBounds_toArray, List.set_cons_zero, List.set_cons_succ, i64_w, i32_w]
     rfl
    refine one_ (i := 48) (N := some 147) (pT 75 49) rfl rfl (one_of HT_.out (by kernel_rfl)) (by decide) (fun K hK => ?_)
    refine goes_ Try.func13 (by kernel_rfl) rfl #[.agg #[.int .i64 a0_0, .int .i64 a0_1]] (by rfl) rfl rfl (by (try simp only [List.map_toArray, List.map_cons, List.map_nil]); first | done | rfl | (simp only [List.length_drop, List.length_take]; rfl)) ?_
    with_reducible refine (spec_IsTurn.calls k a0_0 a0_1 t305 _ A100.out).mono ?_
    rintro e w146 ⟨rfl, hb⟩
    refine ⟨_, rfl, ?_⟩
    have hp0 := hpA BK272.out hb (fun _ _ h_ => by (with_reducible repeat (first | refine kN ?_ _ | refine kD ?_ | refine kA ?_ _)); exact h_)
    have hv := hvK (w := w) hb (by repeat (first | (with_reducible first | exact HB.out | apply bA | apply bN | apply bD | refine bX ?_ (by assumption)) | exact HB.out))
    have n9_ := Am (bT hv hb)
    clear HB
    replace BK272 := hp0 BK272; replace BK273 := hp0 BK273; replace BK274 := hp0 BK274; replace BK278 := hp0 BK278; replace BK282 := hp0 BK282; replace BK286 := hp0 BK286; replace BK290 := hp0 BK290; replace BK298 := hp0 BK298; replace BK302 := hp0 BK302
    have HB := n9_
    clear n9_ hp0 hv
    (try clear hb)
    (try clear hHeld)
    refine hK.out _ _ ⟨c20 BK278.out, c21 BK278.out, c20 BK282.out, c21 BK282.out, c20 BK286.out, c21 BK286.out, c20 BK290.out, c21 BK290.out, c20 BK298.out, c21 BK298.out, c20 BK302.out, c21 BK302.out, c20 BK272.out, c21 BK272.out⟩ (fun hHeld => ?_)
    clear hK K
    refine norm_ (a' := ?_) ?_ ?_
    rotate_left
    ·show Act.put _ (some 147) _ = _
     simp only [Act.put, List.setIfInBounds_toArray, List.set_cons_zero, List.set_cons_succ, i64_w, i32_w]
     rfl
    iterate 5
     first
     | refine pI (v := ?_) (a' := ?_) rfl (any_of HT_.out (by kernel_rfl)) (fun _ _ _ h => h) (Or.inl ⟨by rfl, ?_⟩) ?_ ?_
       rotate_left
       ·intro w'
        go_simp
        with_reducible rfl
       rotate_left
       ·show Act.put _ (some _) _ = _
        simp only [Act.put, List.setIfInBounds_toArray, List.set_cons_zero, List.set_cons_succ, i64_w, i32_w]
        rfl
     | refine tI (v := ?_) (a' := ?_) rfl (take_ofW HT_.out HW_.out (by kernel_rfl)) (fun _ _ _ h => h) (Or.inl ⟨by rfl, ?_⟩) hHeld ?_ ?_
       rotate_left
       ·rintro w' ⟨s0, s1, s2, s3, s4, s5, s6, s7, s8, s9, s10, s11, s12, s13⟩
        go_simp
        with_reducible rfl
       rotate_left
       ·show Act.put _ (some _) _ = _
        simp only [Act.put, List.setIfInBounds_toArray, List.set_cons_zero, List.set_cons_succ, i64_w, i32_w]
        rfl
    refine one_ (i := 54) (N := some 153) (pT 75 55) rfl rfl (one_of HT_.out (by kernel_rfl)) (by decide) (fun K hK => ?_)
    refine goes_ Try.func12 (by kernel_rfl) rfl #[.agg #[.int .i64 a0_0, .int .i64 a0_1]] (by rfl) rfl rfl (by (try simp only [List.map_toArray, List.map_cons, List.map_nil]); first | done | rfl | (simp only [List.length_drop, List.length_take]; rfl)) ?_
    with_reducible refine (impl_IsTurn.calls k a0_0 a0_1 false _ A102.out).mono ?_
    rintro e w147 ⟨rfl, hb⟩
    refine ⟨_, rfl, ?_⟩
    have hp0 := hpA BK272.out hb (fun _ _ h_ => by (with_reducible repeat (first | refine kN ?_ _ | refine kD ?_ | refine kA ?_ _)); exact h_)
    have hv := hvK (w := w) hb (by repeat (first | (with_reducible first | exact HB.out | apply bA | apply bN | apply bD | refine bX ?_ (by assumption)) | exact HB.out))
    have n9_ := Am (bT hv hb)
    clear HB
    replace BK272 := hp0 BK272; replace BK273 := hp0 BK273; replace BK274 := hp0 BK274; replace BK278 := hp0 BK278; replace BK282 := hp0 BK282; replace BK286 := hp0 BK286; replace BK290 := hp0 BK290; replace BK298 := hp0 BK298; replace BK302 := hp0 BK302
    have HB := n9_
    clear n9_ hp0 hv
    (try clear hb)
    (try clear hHeld)
    refine hK.out _ _ ⟨c20 BK278.out, c21 BK278.out, c20 BK282.out, c21 BK282.out, c20 BK286.out, c21 BK286.out, c20 BK290.out, c21 BK290.out, c20 BK298.out, c21 BK298.out, c20 BK302.out, c21 BK302.out, c20 BK272.out, c21 BK272.out⟩ (fun hHeld => ?_)
    clear hK K
    refine norm_ (a' := ?_) ?_ ?_
    rotate_left
    ·show Act.put _ (some 153) _ = _
     simp only [Act.put, List.setIfInBounds_toArray, List.set_cons_zero, List.set_cons_succ, i64_w, i32_w]
     rfl
    iterate 20
     first
     | refine pI (v := ?_) (a' := ?_) rfl (any_of HT_.out (by kernel_rfl)) (fun _ _ _ h => h) (Or.inl ⟨by rfl, ?_⟩) ?_ ?_
       rotate_left
       ·intro w'
        go_simp
        with_reducible rfl
       rotate_left
       ·show Act.put _ (some _) _ = _
        simp only [Act.put, List.setIfInBounds_toArray, List.set_cons_zero, List.set_cons_succ, i64_w, i32_w]
        rfl
     | refine pI (v := undef) (a' := ?_) rfl (any_of HT_.out (by kernel_rfl)) (fun _ _ _ h => h) (Or.inr ⟨by rfl, rfl⟩) ?_ ?_
       rotate_left
       ·show Act.put _ (some _) _ = _
        simp only [Act.put, List.setIfInBounds_toArray, List.set_cons_zero, List.set_cons_succ, i64_w, i32_w]
        rfl
    refine done_ (done_of HT_.out (by kernel_rfl)) ?_
    try go_wp2
    go_meet
    case rel =>
     refine ⟨_, (false), (by first | rfl | (simp; done) | (simp [*]; done)), H', ⟨by first | omega | exact Nat.le_refl _⟩, ⟨?_⟩, ⟨?_⟩, ⟨?_⟩, ⟨?_⟩, ⟨?_⟩, ⟨?_⟩, ⟨?_⟩, ⟨?_⟩, ⟨?_⟩, ⟨by repeat (first | (with_reducible first | exact HB.out | apply bA | apply bN | apply bD | refine bX ?_ (by assumption)) | exact HB.out)⟩⟩
     all_goals ((with_reducible repeat (first | refine kN ?_ _ | refine kD ?_ | refine kA ?_ _)); exact Aside0.out (by assumption))
  rw [if_neg c94] at H
  have c94b0 : (t291 == t293) = false := beq_eq_false_iff_ne.mpr c94
  have c94b1 : (t291 != t293) = true := bne_iff_ne.mpr c94
  as_aux_lemma =>
   exact absurd ((laws_FnTurnsAddedOfAll.j0_no H).symm.trans hlaw.out) (by decide)
 rename_i K1_ h1_ K_ hK_
 exact nx0 k a0_0 a0_1 a1_0 a1_1 a2_0 a2_1 a3 a4 a5 r w hlaw t275 t276 t277 t279 t280 t281 t283 t284 t285 t287 t288 t289 t291 t292 t293 t294 t295 t296 t297 t299 t300 t301 gb272 GE272 gb273 GE273 NB272_273 NB273_272 gb274 GE274 NB272_274 NB274_272 NB273_274 NB274_273 gb278 GE278 NB272_278 NB278_272 NB273_278 NB278_273 NB274_278 NB278_274 gb282 GE282 NB272_282 NB282_272 NB273_282 NB282_273 NB274_282 NB282_274 NB278_282 NB282_278 gb286 GE286 NB272_286 NB286_272 NB273_286 NB286_273 NB274_286 NB286_274 NB278_286 NB286_278 gb290 GE290 NB272_290 NB290_272 NB273_290 NB290_273 NB274_290 NB290_274 NB278_290 NB290_278 gb298 GE298 NB272_298 NB298_272 NB273_298 NB298_273 NB274_298 NB298_274 NB278_298 NB298_278 NB282_298 NB298_282 NB286_298 NB298_286 NB290_298 NB298_290 gb302 GE302 NB272_302 NB302_272 NB273_302 NB302_273 NB274_302 NB302_274 NB278_302 NB302_278 NB298_302 NB302_298 wc u53 u54 u55 u56 u57 u58 u59 u60 u61 u62 u63 u64 u65 u66 u67 u68 u69 u70 u71 u72 u73 u74 u75 u76 u77 u78 u79 u80 u81 u82 u83 u84 u85 u86 u87 u88 u89 u90 u91 u92 u93 u94 u95 u96 u97 u98 u99 u100 u101 u102 u103 u104 u105 u106 u107 u108 u109 u110 u111 u112 u113 u114 u115 u116 u117 u118 u119 u120 u121 u122 u123 u124 u125 u126 u127 u128 u129 u130 u131 u132 u133 u134 u135 u136 u137 u138 u139 u140 u141 u142 u143 u144 u145 u146 u147 u148 u149 u150 u151 u152 u153 u154 u155 u156 u157 u158 u159 u160 u161 u162 u163 u164 u165 u166 u167 u168 u169 u170 u171 u172 u173 u174 u175 u176 u177 u178 u179 u180 u181 u182 u183 u184 u185 u186 u187 u188 u189 u190 u191 u192 u193 u194 u195 u196 u197 u198 u199 u200 u201 u202 u203 u204 u205 u206 u207 u208 u209 u210 u211 u212 u213 u214 u215 u216 u217 u218 u219 u220 u221 u222 u223 u224 u225 u226 u227 u228 u229 u230 u231 u232 u233 u234 u235 u236 u237 u238 u239 u240 u241 u242 u243 u244 u245 u246 u247 u248 u249 u250 u251 u252 u253 u254 u255 u256 u257 u258 u259 u260 u261 u262 u263 u264 u265 u266 u267 u268 u269 u270 u271 u272 u273 u274 u275 u276 u277 u278 u279 u280 u281 u282 u283 u284 u285 u286 u287 u288 u289 u290 u291 u292 u293 u294 u295 u296 u297 u298 u299 u300 u301 u302 u303 u304 u305 u306 u307 u308 u309 u310 u311 u312 u313 u314 u315 u316 u317 u318 u319 u320 u321 u322 u323 u324 u325 u326 u327 u328 u329 u330 u331 u332 u333 u334 u335 u336 u337 u338 u339 u340 u341 u342 u343 u344 u345 u346 u347 u348 u349 u350 u351 u352 u353 u354 u355 u356 u357 u358 u359 u360 u361 u362 u363 u364 u365 u366 u367 u368 u369 u370 u371 u372 u373 u374 u375 u376 u377 u378 u379 u380 u381 u382 hcut K1_ K_ h1_ hK_
/-- THE ONE PURE STATEMENT of laws_FnTurnsAddedOfAll: yours. -/
def laws_FnTurnsAddedOfAll.Pure : Prop := ∀ (a0_0 : Int) (a0_1 : Int) (a1_0 : Int) (a1_1 : Int) (a2_0 : Int) (a2_1 : Int) (a3 : Int) (a4 : Int) (a5 : Int), (Lit.int .i64 a0_0).wf = true → (Lit.int .i64 a0_1).wf = true → (Lit.int .i64 a1_0).wf = true → (Lit.int .i64 a1_1).wf = true → (Lit.int .i64 a2_0).wf = true → (Lit.int .i64 a2_1).wf = true → (Lit.int .i64 a3).wf = true → (Lit.int .i64 a4).wf = true → (Lit.int .i64 a5).wf = true → ∃ k, laws_FnTurnsAddedOfAll.f k a0_0 a0_1 a1_0 a1_1 a2_0 a2_1 a3 a4 a5 = some true
theorem laws_FnTurnsAddedOfAll.walk (P : laws_FnTurnsAddedOfAll.Pure) (a0_0 : Int) (a0_1 : Int) (a1_0 : Int) (a1_1 : Int) (a2_0 : Int) (a2_1 : Int) (a3 : Int) (a4 : Int) (a5 : Int) (w : World) (w0_0 : (Lit.int .i64 a0_0).wf = true) (w0_1 : (Lit.int .i64 a0_1).wf = true) (w1_0 : (Lit.int .i64 a1_0).wf = true) (w1_1 : (Lit.int .i64 a1_1).wf = true) (w2_0 : (Lit.int .i64 a2_0).wf = true) (w2_1 : (Lit.int .i64 a2_1).wf = true) (w3 : (Lit.int .i64 a3).wf = true) (w4 : (Lit.int .i64 a4).wf = true) (w5 : (Lit.int .i64 a5).wf = true) :
  Calls Try.prog 3 #[.agg #[.int .i64 a0_0, .int .i64 a0_1], .agg #[.int .i64 a1_0, .int .i64 a1_1], .agg #[.int .i64 a2_0, .int .i64 a2_1], .int .i64 a3, .int .i64 a4, .int .i64 a5] w fun e w' => e = .returned (.bool true) ∧ Below w.heap.size w w' := by
 obtain ⟨k, h⟩ := P a0_0 a0_1 a1_0 a1_1 a2_0 a2_1 a3 a4 a5 w0_0 w0_1 w1_0 w1_1 w2_0 w2_1 w3 w4 w5
 refine (laws_FnTurnsAddedOfAll.calls k a0_0 a0_1 a1_0 a1_1 a2_0 a2_1 a3 a4 a5 true w ⟨rfl⟩ h).mono ?_
 rintro e w' ⟨rfl, hd⟩
 exact ⟨rfl, hd⟩

end Go.Proofs.Ytpmldpfoiljmcaa.PFnTurnsAddedOfAll
