-- WRITTEN BY A PROGRAM OF THIS SESSION (wip/tools): its own text, not the kit's printed one. PARTS
import Derived.Test.YtpmldpfoiljmcaaPFnTurnsAddedOfAllx0
import Derived.Test.YtpmldpfoiljmcaaPFnTurnsAddedOfAllx1
import Derived.Test.YtpmldpfoiljmcaaPFnTurnsAddedOfAllx2
import Derived.Test.YtpmldpfoiljmcaaPFnTurnsAddedOfAllx3
import Derived.Test.YtpmldpfoiljmcaaPFnTurnsAddedOfAllx4
import Derived.Test.YtpmldpfoiljmcaaPFnTurnsAddedOfAllx5
import Derived.Test.YtpmldpfoiljmcaaPFnTurnsAddedOfAllx6c
import Derived.Test.YtpmldpfoiljmcaaPFnTurnsAddedOfAllx6s
namespace Go.Proofs.Ytpmldpfoiljmcaa.PFnTurnsAddedOfAll
open Go.RowKit Go.Proofs.YtpmldpfoiljmcaaW.PrintWords Go.Proofs.YtpmldpfoiljmcaaW.PrintLast Go.Proofs.YtpmldpfoiljmcaaW.PrintMore
attribute [local go_sem] max2_int min2_int max_two min_two max_three min_three max_four min_four   -- for this text's walks alone
set_option linter.unusedVariables false
set_option linter.unusedSimpArgs false

attribute [local go_sem high] eqA23
set_option maxHeartbeats 8000000 in
set_option maxRecDepth 100000 in
theorem laws_FnTurnsAddedOfAll.T0 (nx1 : laws_FnTurnsAddedOfAll.S1) : laws_FnTurnsAddedOfAll.S0 := by
 unfold laws_FnTurnsAddedOfAll.S0
 intro k a0_0 a0_1 a1_0 a1_1 a2_0 a2_1 a3 a4 a5 r w hlaw t275 t276 t277 t279 t280 t281 t283 t284 t285 t287 t288 t289 t291 t292 t293 t294 t295 t296 t297 t299 t300 t301 gb272 GE272 gb273 GE273 NB272_273 NB273_272 gb274 GE274 NB272_274 NB274_272 NB273_274 NB274_273 gb278 GE278 NB272_278 NB278_272 NB273_278 NB278_273 NB274_278 NB278_274 gb282 GE282 NB272_282 NB282_272 NB273_282 NB282_273 NB274_282 NB282_274 NB278_282 NB282_278 gb286 GE286 NB272_286 NB286_272 NB273_286 NB286_273 NB274_286 NB286_274 NB278_286 NB286_278 gb290 GE290 NB272_290 NB290_272 NB273_290 NB290_273 NB274_290 NB290_274 NB278_290 NB290_278 gb298 GE298 NB272_298 NB298_272 NB273_298 NB298_273 NB274_298 NB298_274 NB278_298 NB298_278 NB282_298 NB298_282 NB286_298 NB298_286 NB290_298 NB298_290 gb302 GE302 NB272_302 NB302_272 NB273_302 NB302_273 NB274_302 NB302_274 NB278_302 NB302_278 NB298_302 NB302_298 wc u53 u54 u55 u56 u57 u58 u59 u60 u61 u62 u63 u64 u65 u66 u67 u68 u69 u70 u71 u72 u73 u74 u75 u76 u77 u78 u79 u80 u81 u82 u83 u84 u85 u86 u87 u88 u89 u90 u91 u92 u93 u94 u95 u96 u97 u98 u99 u100 u101 u102 u103 u104 u105 u106 u107 u108 u109 u110 u111 u112 u113 u114 u115 u116 u117 u118 u119 u120 u121 u122 u123 u124 u125 u126 u127 u128 u129 u130 u131 u132 u133 u134 u135 u136 u137 u138 u139 u140 u141 u142 u143 u144 u145 u146 u147 u148 u149 u150 u151 u152 u153 u154 u155 u156 u157 u158 u159 u160 u161 u162 u163 u164 u165 u166 u167 u168 u169 u170 u171 u172 u173 u174 u175 u176 u177 u178 u179 u180 u181 u182 u183 u184 u185 u186 u187 u188 u189 u190 u191 u192 u193 u194 u195 u196 u197 u198 u199 u200 u201 u202 u203 u204 u205 u206 u207 u208 u209 u210 u211 u212 u213 u214 u215 u216 u217 u218 u219 u220 u221 u222 u223 u224 u225 u226 u227 u228 u229 u230 u231 u232 u233 u234 u235 u236 u237 u238 u239 u240 u241 u242 u243 u244 u245 u246 u247 u248 u249 u250 u251 u252 u253 u254 u255 u256 u257 u258 u259 u260 u261 u262 u263 u264 u265 u266 u267 u268 u269 u270 u271 u272 u273 u274 u275 u276 u277 u278 u279 u280 u281 u282 u283 u284 u285 u286 u287 u288 u289 u290 u291 u292 u293 u294 u295 u296 u297 u298 u299 u300 u301 u302 u303 u304 u305 u306 u307 u308 u309 u310 u311 u312 u313 u314 u315 u316 u317 u318 u319 u320 u321 u322 u323 u324 u325 u326 u327 u328 u329 u330 u331 u332 u333 u334 u335 u336 u337 u338 u339 u340 u341 u342 u343 u344 u345 u346 u347 u348 u349 u350 u351 u352 u353 u354 u355 u356 u357 u358 u359 u360 u361 u362 u363 u364 u365 u366 u367 u368 u369 u370 u371 u372 u373 u374 u375 u376 u377 u378 u379 u380 u381 u382 hcut Q_
 intro K1_ K_ h1_ hK_
 dsimp only [pcL, pcR, pcT, pcE, pcB, pcO, pcF, Try.f3] at h1_ hK_
 have hu23 := Try.underlying23
 obtain ⟨kq, x173_14, rfl, HA, HJ14, BK272, BK273, BK274, BK278, BK282, BK286, BK290, BK298, BK302, HB⟩ := hcut
 cases kq with
 | zero => exact absurd HA.out (by simp [laws_FnTurnsAddedOfAll.j0])
 | succ kj14 =>
  have H := HA.out
  clear HA
  simp only [laws_FnTurnsAddedOfAll.j0] at H
  by_cases c148 : x173_14 = true
  ·subst c148
   have H1 : (some false) = some r := by rw [if_pos rfl] at H; exact H
   clear H
   have H := H1
   clear H1
   as_aux_lemma =>
    exact absurd ((Option.some.inj H).trans hlaw.out) (by decide)
  replace c148 := Bool.eq_false_iff.mpr c148
  subst c148
  have H1 : (if t292 = true then ((impl_CompareTurns.f kj14 a1_0 a1_1 a0_0 a0_1).bind fun bt308 => ((impl_AddTurns.f kj14 a1_0 a1_1 a0_0 a0_1).bind fun bt310 => (if bt308.2 = true then (if bt308.1 = (wrap64 (-t291)) then (if ((t291 == 0) != (a0_0 == a1_0 && (a0_1 == a1_1))) = true then (some false) else (if (bt310.2.2 != t277) = true then (some false) else (if (!(bt310.1 == t275) || (!(bt310.2.1 == t276))) = true then (some false) else (laws_FnTurnsAddedOfAll.j1 kj14 a3 a4 a5 t277 t297 a0_0 a0_1 a1_0 a1_1 a2_0 a2_1 t275 t276 t295 t296)))) else (some false)) else (some false)))) else (laws_FnTurnsAddedOfAll.j1 kj14 a3 a4 a5 t277 t297 a0_0 a0_1 a1_0 a1_1 a2_0 a2_1 t275 t276 t295 t296)) = some r := by rw [if_neg (show ¬ (false = true) by decide)] at H; exact H
  clear H
  have H := H1
  clear H1
  have HC149 := Am H
  clear H
  go_upto_if 174 with (fail)
  go_cut [] (fun wc => ∃ (kq : Nat), Aside0 (laws_FnTurnsAddedOfAll.j1 kq a3 a4 a5 t277 t297 a0_0 a0_1 a1_0 a1_1 a2_0 a2_1 t275 t276 t295 t296 = some r) ∧ Aside0 (kq ≤ kj14) ∧ Aside0 (wc.heap[gb272]? = some (.cells #[.int .i64 a0_0, .int .i64 a0_1] 23 (0, 0))) ∧ Aside0 (wc.heap[gb273]? = some (.cells #[.int .i64 a1_0, .int .i64 a1_1] 23 (0, 0))) ∧ Aside0 (wc.heap[gb274]? = some (.cells #[.int .i64 a2_0, .int .i64 a2_1] 23 (0, 0))) ∧ Aside0 (wc.heap[gb278]? = some (.cells #[.int .i64 t275, .int .i64 t276] 23 (0, 0))) ∧ Aside0 (wc.heap[gb282]? = some (.cells #[.int .i64 t279, .int .i64 t280] 23 (0, 0))) ∧ Aside0 (wc.heap[gb286]? = some (.cells #[.int .i64 t283, .int .i64 t284] 23 (0, 0))) ∧ Aside0 (wc.heap[gb290]? = some (.cells #[.int .i64 t287, .int .i64 t288] 23 (0, 0))) ∧ Aside0 (wc.heap[gb298]? = some (.cells #[.int .i64 t295, .int .i64 t296] 23 (0, 0))) ∧ Aside0 (wc.heap[gb302]? = some (.cells #[.int .i64 t299, .int .i64 t300] 23 (0, 0))) ∧ Aside0 (Below w.heap.size w wc))
  case first =>
   have H := HC149.out
   by_cases c150 : t292 = true
   ·subst c150
    have H1 : ((impl_CompareTurns.f kj14 a1_0 a1_1 a0_0 a0_1).bind fun bt308 => ((impl_AddTurns.f kj14 a1_0 a1_1 a0_0 a0_1).bind fun bt310 => (if bt308.2 = true then (if bt308.1 = (wrap64 (-t291)) then (if ((t291 == 0) != (a0_0 == a1_0 && (a0_1 == a1_1))) = true then (some false) else (if (bt310.2.2 != t277) = true then (some false) else (if (!(bt310.1 == t275) || (!(bt310.2.1 == t276))) = true then (some false) else (laws_FnTurnsAddedOfAll.j1 kj14 a3 a4 a5 t277 t297 a0_0 a0_1 a1_0 a1_1 a2_0 a2_1 t275 t276 t295 t296)))) else (some false)) else (some false)))) = some r := by rw [if_pos rfl] at H; exact H
    clear H
    have H := H1
    clear H1
    replace H := Option.bind_eq_some_iff.mp H
    obtain ⟨⟨t308, t309⟩, A1510, H⟩ := H
    try dsimp only at H
    have A151 := Am A1510
    clear A1510
    replace H := Option.bind_eq_some_iff.mp H
    obtain ⟨⟨t310, t311, t312⟩, A1520, H⟩ := H
    try dsimp only at H
    have A152 := Am A1520
    clear A1520
    by_cases c153 : t309 = true
    ·subst c153
     have H1 : (if t308 = (wrap64 (-t291)) then (if ((t291 == 0) != (a0_0 == a1_0 && (a0_1 == a1_1))) = true then (some false) else (if (t312 != t277) = true then (some false) else (if (!(t310 == t275) || (!(t311 == t276))) = true then (some false) else (laws_FnTurnsAddedOfAll.j1 kj14 a3 a4 a5 t277 t297 a0_0 a0_1 a1_0 a1_1 a2_0 a2_1 t275 t276 t295 t296)))) else (some false)) = some r := by rw [if_pos rfl] at H; exact H
     clear H
     have H := H1
     clear H1
     by_cases c154 : t308 = (wrap64 (-t291))
     ·rw [if_pos c154] at H
      have c154b0 : (t308 == (wrap64 (-t291))) = true := beq_iff_eq.mpr c154
      have c154b1 : (t308 != (wrap64 (-t291))) = false := bne_eq_false_iff_eq.mpr c154
      clear c154
      (first | rw [c154b0] | (simp only [i64_w, i32_w]; rw [c154b0]) | skip)
      by_cases c155 : ((t291 == 0) != (a0_0 == a1_0 && (a0_1 == a1_1))) = true
      ·rw [if_pos c155] at H
       have c155b0 : ((t291 == 0) != (a0_0 == a1_0 && (a0_1 == a1_1))) = true := c155
       (try (have c155b1 : decide ((t291 == 0) = (a0_0 == a1_0 && (a0_1 == a1_1))) = false := by simpa using c155))
       (try (have c155b2 : ((t291 == 0) == (a0_0 == a1_0 && (a0_1 == a1_1))) = false := by simpa using c155))
       (try (have c155b3 : ¬ ((t291 == 0) = (a0_0 == a1_0 && (a0_1 == a1_1))) := by simpa using c155))
       clear c155
       as_aux_lemma =>
        exact absurd ((Option.some.inj H).trans hlaw.out) (by decide)
      rw [if_neg c155] at H
      have c155b0 : ((t291 == 0) != (a0_0 == a1_0 && (a0_1 == a1_1))) = false := by simpa using c155
      (try (have c155b1 : decide ((t291 == 0) = (a0_0 == a1_0 && (a0_1 == a1_1))) = true := by simpa using c155))
      (try (have c155b2 : ((t291 == 0) == (a0_0 == a1_0 && (a0_1 == a1_1))) = true := by simpa using c155))
      clear c155
      by_cases c156 : (t312 != t277) = true
      ·rw [if_pos c156] at H
       have c156b0 : (t312 != t277) = true := c156
       (try (have c156b1 : decide (t312 = t277) = false := by simpa using c156))
       (try (have c156b2 : (t312 == t277) = false := by simpa using c156))
       (try (have c156b3 : ¬ (t312 = t277) := by simpa using c156))
       clear c156
       as_aux_lemma =>
        exact absurd ((Option.some.inj H).trans hlaw.out) (by decide)
      rw [if_neg c156] at H
      have c156b0 : (t312 != t277) = false := by simpa using c156
      (try (have c156b1 : decide (t312 = t277) = true := by simpa using c156))
      (try (have c156b2 : (t312 == t277) = true := by simpa using c156))
      clear c156
      by_cases c157 : (!(t310 == t275) || (!(t311 == t276))) = true
      ·rw [if_pos c157] at H
       have c157b0 : (!(t310 == t275) || (!(t311 == t276))) = true := c157
       clear c157
       as_aux_lemma =>
        exact absurd ((Option.some.inj H).trans hlaw.out) (by decide)
      rw [if_neg c157] at H
      have c157b0 : (!(t310 == t275) || (!(t311 == t276))) = false := by simpa using c157
      clear c157
      as_aux_lemma =>
       have H' := Am H
       clear H
       have hnb158 := NB273_272.out; have hnc158 := NB272_273.out; have hnb159 := NB273_274.out; have hnc159 := NB274_273.out; have hnb160 := NB273_278.out; have hnc160 := NB278_273.out; have hnb161 := NB273_282.out; have hnc161 := NB282_273.out; have hnb162 := NB273_286.out; have hnc162 := NB286_273.out; have hnb163 := NB273_290.out; have hnc163 := NB290_273.out; have hnb164 := NB273_298.out; have hnc164 := NB298_273.out; have hnb165 := NB273_302.out; have hnc165 := NB302_273.out
       have hcz166_0 := c20 BK273.out
       have hcz166_1 := c21 BK273.out
       have hfz166_0 := kF BK273.out 0
       have hfz166_1 := kF BK273.out 1
       have hnb167 := NB272_274.out; have hnc167 := NB274_272.out; have hnb168 := NB272_278.out; have hnc168 := NB278_272.out; have hnb169 := NB272_282.out; have hnc169 := NB282_272.out; have hnb170 := NB272_286.out; have hnc170 := NB286_272.out; have hnb171 := NB272_290.out; have hnc171 := NB290_272.out; have hnb172 := NB272_298.out; have hnc172 := NB298_272.out; have hnb173 := NB272_302.out; have hnc173 := NB302_272.out
       have hcz174_0 := c20 BK272.out
       have hcz174_1 := c21 BK272.out
       have hfz174_0 := kF BK272.out 0
       have hfz174_1 := kF BK272.out 1
       go_wp2_with (first | ((with_reducible refine gate_callee (f := 8) rfl ?_); refine goesL_ (some 178) rfl rfl Try.func8 (by kernel_rfl) rfl #[.agg #[.int .i64 a1_0, .int .i64 a1_1], .agg #[.int .i64 a0_0, .int .i64 a0_1]] rfl (by (try simp only [List.map_toArray, List.map_cons, List.map_nil]); first | done | rfl | (simp only [List.length_drop, List.length_take]; rfl)) ?_; (with_reducible refine (impl_CompareTurns.calls kj14 a1_0 a1_1 a0_0 a0_1 t308 true _ A151.out).mono ?_); rintro e w175 ⟨rfl, hb⟩; refine ⟨_, rfl, ?_⟩; have hp0 := hpA BK272.out hb (fun _ _ h_ => by (with_reducible repeat (first | refine kN ?_ _ | refine kD ?_ | refine kA ?_ _)); exact h_); have hv := hvK (w := w) hb (by repeat (first | (with_reducible first | exact HB.out | apply bA | apply bN | apply bD | refine bX ?_ (by assumption)) | exact HB.out)); have n9_ := Am (bT hv hb); clear HB; replace BK272 := hp0 BK272; replace BK273 := hp0 BK273; replace BK274 := hp0 BK274; replace BK278 := hp0 BK278; replace BK282 := hp0 BK282; replace BK286 := hp0 BK286; replace BK290 := hp0 BK290; replace BK298 := hp0 BK298; replace BK302 := hp0 BK302; have HB := n9_; clear n9_ hp0 hv; (try clear hb); have hcz176_0 := c20 BK273.out; have hcz176_1 := c21 BK273.out; have hfz176_0 := kF BK273.out 0; have hfz176_1 := kF BK273.out 1; have hcz177_0 := c20 BK272.out; have hcz177_1 := c21 BK272.out; have hfz177_0 := kF BK272.out 0; have hfz177_1 := kF BK272.out 1) | ((with_reducible refine gate_callee (f := 4) rfl ?_); refine goesL_ (some 184) rfl rfl Try.func4 (by kernel_rfl) rfl #[.agg #[.int .i64 a1_0, .int .i64 a1_1], .agg #[.int .i64 a0_0, .int .i64 a0_1]] rfl (by (try simp only [List.map_toArray, List.map_cons, List.map_nil]); first | done | rfl | (simp only [List.length_drop, List.length_take]; rfl)) ?_; (with_reducible refine (impl_AddTurns.calls kj14 a1_0 a1_1 a0_0 a0_1 t310 t311 t312 _ A152.out).mono ?_); rintro e w178 ⟨rfl, hb⟩; refine ⟨_, rfl, ?_⟩; have hp0 := hpA BK272.out hb (fun _ _ h_ => by (with_reducible repeat (first | refine kN ?_ _ | refine kD ?_ | refine kA ?_ _)); exact h_); have hv := hvK (w := w) hb (by repeat (first | (with_reducible first | exact HB.out | apply bA | apply bN | apply bD | refine bX ?_ (by assumption)) | exact HB.out)); have n9_ := Am (bT hv hb); clear HB; replace BK272 := hp0 BK272; replace BK273 := hp0 BK273; replace BK274 := hp0 BK274; replace BK278 := hp0 BK278; replace BK282 := hp0 BK282; replace BK286 := hp0 BK286; replace BK290 := hp0 BK290; replace BK298 := hp0 BK298; replace BK302 := hp0 BK302; have HB := n9_; clear n9_ hp0 hv; (try clear hb)) | ((with_reducible refine gate_dst (N := 31) rfl ?_); refine box_event ?hg (N := 31) ?hd (cs := #[.int .i64 0, .int .i64 0]) (t := 23) ?hr ?_; (case hd => rfl); (case hg => rfl); (case hr => first | (go_simp; done) | (go_simp; rfl)); intro gb313 hg w179 hbox hb; have hp0 := hpA BK272.out hb (fun _ _ h_ => by (with_reducible repeat (first | refine kN ?_ _ | refine kD ?_ | refine kA ?_ _)); exact h_); have hv := hvK (w := w) hb (by repeat (first | (with_reducible first | exact HB.out | apply bA | apply bN | apply bD | refine bX ?_ (by assumption)) | exact HB.out)); have n9_ := Am (bT hv hb); have n10_ := Am (hbox); have GW313 := kG hg hv; have GE313 := kG hg hv; have hp1 := hpK BK272.out hb (fun _ _ h_ => by (with_reducible repeat (first | refine kN ?_ _ | refine kD ?_ | refine kA ?_ _)); exact h_); have NB272_313 := kX hg (hp1 BK272.out); have NB313_272 := kY hg (hp1 BK272.out); have NB273_313 := kX hg (hp1 BK273.out); have NB313_273 := kY hg (hp1 BK273.out); have NB274_313 := kX hg (hp1 BK274.out); have NB313_274 := kY hg (hp1 BK274.out); have NB278_313 := kX hg (hp1 BK278.out); have NB313_278 := kY hg (hp1 BK278.out); have NB282_313 := kX hg (hp1 BK282.out); have NB313_282 := kY hg (hp1 BK282.out); have NB286_313 := kX hg (hp1 BK286.out); have NB313_286 := kY hg (hp1 BK286.out); have NB290_313 := kX hg (hp1 BK290.out); have NB313_290 := kY hg (hp1 BK290.out); have NB298_313 := kX hg (hp1 BK298.out); have NB313_298 := kY hg (hp1 BK298.out); have NB302_313 := kX hg (hp1 BK302.out); have NB313_302 := kY hg (hp1 BK302.out); clear HB; replace BK272 := hp0 BK272; replace BK273 := hp0 BK273; replace BK274 := hp0 BK274; replace BK278 := hp0 BK278; replace BK282 := hp0 BK282; replace BK286 := hp0 BK286; replace BK290 := hp0 BK290; replace BK298 := hp0 BK298; replace BK302 := hp0 BK302; have HB := n9_; have BK313 := n10_; clear n9_ n10_ hp0 hp1 hv; clear hb hbox hg; have hnb180 := NB313_272.out; have hnc180 := NB272_313.out; have hnb181 := NB313_273.out; have hnc181 := NB273_313.out; have hnb182 := NB313_274.out; have hnc182 := NB274_313.out; have hnb183 := NB313_278.out; have hnc183 := NB278_313.out; have hnb184 := NB313_282.out; have hnc184 := NB282_313.out; have hnb185 := NB313_286.out; have hnc185 := NB286_313.out; have hnb186 := NB313_290.out; have hnc186 := NB290_313.out; have hnb187 := NB313_298.out; have hnc187 := NB298_313.out; have hnb188 := NB313_302.out; have hnc188 := NB302_313.out; have hcz189_0 : w179.cell? ⟨gb313, 0, none⟩ = some (.int .i64 0) := (kC BK313.out 0).trans rfl; have hcz189_1 : w179.cell? ⟨gb313, 1, none⟩ = some (.int .i64 0) := (kC BK313.out 1).trans rfl; have hfz189_0 := kF BK313.out 0; have hfz189_1 := kF BK313.out 1; have hcz190_0 := c20 BK272.out; have hcz190_1 := c21 BK272.out; have hfz190_0 := kF BK272.out 0; have hfz190_1 := kF BK272.out 1; have hcz191_0 := c20 BK273.out; have hcz191_1 := c21 BK273.out; have hfz191_0 := kF BK273.out 0; have hfz191_1 := kF BK273.out 1; have hnb192 := NB278_274.out; have hnc192 := NB274_278.out; have hnb193 := NB278_282.out; have hnc193 := NB282_278.out; have hnb194 := NB278_286.out; have hnc194 := NB286_278.out; have hnb195 := NB278_290.out; have hnc195 := NB290_278.out; have hnb196 := NB278_298.out; have hnc196 := NB298_278.out; have hnb197 := NB278_302.out; have hnc197 := NB302_278.out; have hcz198_0 := c20 BK278.out; have hcz198_1 := c21 BK278.out; have hfz198_0 := kF BK278.out 0; have hfz198_1 := kF BK278.out 1))
       go_meet
       case rel => exact ⟨_, H', ⟨by have := HJ14.out; first | omega | exact Nat.le_refl _⟩, ⟨by (with_reducible repeat (first | refine kN ?_ _ | refine kD ?_ | refine kA ?_ _)); refine kR ?_ NB272_313.out _; (with_reducible repeat (first | refine kN ?_ _ | refine kD ?_ | refine kA ?_ _)); refine kR ?_ NB272_313.out _; (with_reducible repeat (first | refine kN ?_ _ | refine kD ?_ | refine kA ?_ _)); exact BK272.out⟩, ⟨by (with_reducible repeat (first | refine kN ?_ _ | refine kD ?_ | refine kA ?_ _)); refine kR ?_ NB273_313.out _; (with_reducible repeat (first | refine kN ?_ _ | refine kD ?_ | refine kA ?_ _)); refine kR ?_ NB273_313.out _; (with_reducible repeat (first | refine kN ?_ _ | refine kD ?_ | refine kA ?_ _)); exact BK273.out⟩, ⟨by (with_reducible repeat (first | refine kN ?_ _ | refine kD ?_ | refine kA ?_ _)); refine kR ?_ NB274_313.out _; (with_reducible repeat (first | refine kN ?_ _ | refine kD ?_ | refine kA ?_ _)); refine kR ?_ NB274_313.out _; (with_reducible repeat (first | refine kN ?_ _ | refine kD ?_ | refine kA ?_ _)); exact BK274.out⟩, ⟨by (with_reducible repeat (first | refine kN ?_ _ | refine kD ?_ | refine kA ?_ _)); refine kR ?_ NB278_313.out _; (with_reducible repeat (first | refine kN ?_ _ | refine kD ?_ | refine kA ?_ _)); refine kR ?_ NB278_313.out _; (with_reducible repeat (first | refine kN ?_ _ | refine kD ?_ | refine kA ?_ _)); exact BK278.out⟩, ⟨by (with_reducible repeat (first | refine kN ?_ _ | refine kD ?_ | refine kA ?_ _)); refine kR ?_ NB282_313.out _; (with_reducible repeat (first | refine kN ?_ _ | refine kD ?_ | refine kA ?_ _)); refine kR ?_ NB282_313.out _; (with_reducible repeat (first | refine kN ?_ _ | refine kD ?_ | refine kA ?_ _)); exact BK282.out⟩, ⟨by (with_reducible repeat (first | refine kN ?_ _ | refine kD ?_ | refine kA ?_ _)); refine kR ?_ NB286_313.out _; (with_reducible repeat (first | refine kN ?_ _ | refine kD ?_ | refine kA ?_ _)); refine kR ?_ NB286_313.out _; (with_reducible repeat (first | refine kN ?_ _ | refine kD ?_ | refine kA ?_ _)); exact BK286.out⟩, ⟨by (with_reducible repeat (first | refine kN ?_ _ | refine kD ?_ | refine kA ?_ _)); refine kR ?_ NB290_313.out _; (with_reducible repeat (first | refine kN ?_ _ | refine kD ?_ | refine kA ?_ _)); refine kR ?_ NB290_313.out _; (with_reducible repeat (first | refine kN ?_ _ | refine kD ?_ | refine kA ?_ _)); exact BK290.out⟩, ⟨by (with_reducible repeat (first | refine kN ?_ _ | refine kD ?_ | refine kA ?_ _)); refine kR ?_ NB298_313.out _; (with_reducible repeat (first | refine kN ?_ _ | refine kD ?_ | refine kA ?_ _)); refine kR ?_ NB298_313.out _; (with_reducible repeat (first | refine kN ?_ _ | refine kD ?_ | refine kA ?_ _)); exact BK298.out⟩, ⟨by (with_reducible repeat (first | refine kN ?_ _ | refine kD ?_ | refine kA ?_ _)); refine kR ?_ NB302_313.out _; (with_reducible repeat (first | refine kN ?_ _ | refine kD ?_ | refine kA ?_ _)); refine kR ?_ NB302_313.out _; (with_reducible repeat (first | refine kN ?_ _ | refine kD ?_ | refine kA ?_ _)); exact BK302.out⟩, ⟨by repeat (first | (with_reducible first | exact HB.out | apply bA | apply bN | apply bD | refine bX ?_ (by assumption)) | exact HB.out)⟩⟩
     rw [if_neg c154] at H
     have c154b0 : (t308 == (wrap64 (-t291))) = false := beq_eq_false_iff_ne.mpr c154
     have c154b1 : (t308 != (wrap64 (-t291))) = true := bne_iff_ne.mpr c154
     (first | rw [c154b0] | (simp only [i64_w, i32_w]; rw [c154b0]) | skip)
     as_aux_lemma =>
      exact absurd ((Option.some.inj H).trans hlaw.out) (by decide)
    replace c153 := Bool.eq_false_iff.mpr c153
    subst c153
    have H1 : (some false) = some r := by rw [if_neg (show ¬ (false = true) by decide)] at H; exact H
    clear H
    have H := H1
    clear H1
    as_aux_lemma =>
     exact absurd ((Option.some.inj H).trans hlaw.out) (by decide)
   replace c150 := Bool.eq_false_iff.mpr c150
   subst c150
   have H1 : (laws_FnTurnsAddedOfAll.j1 kj14 a3 a4 a5 t277 t297 a0_0 a0_1 a1_0 a1_1 a2_0 a2_1 t275 t276 t295 t296) = some r := by rw [if_neg (show ¬ (false = true) by decide)] at H; exact H
   clear H
   have H := H1
   clear H1
   as_aux_lemma =>
    have H' := Am H
    clear H
    go_wp2
    go_meet
    case rel =>
     refine ⟨_, H', ⟨by have := HJ14.out; first | omega | exact Nat.le_refl _⟩, ⟨?_⟩, ⟨?_⟩, ⟨?_⟩, ⟨?_⟩, ⟨?_⟩, ⟨?_⟩, ⟨?_⟩, ⟨?_⟩, ⟨?_⟩, ⟨by repeat (first | (with_reducible first | exact HB.out | apply bA | apply bN | apply bD | refine bX ?_ (by assumption)) | exact HB.out)⟩⟩
     all_goals ((with_reducible repeat (first | refine kN ?_ _ | refine kD ?_ | refine kA ?_ _)); exact Aside0.out (by assumption))
  rename_i K_ hK_
  exact nx1 k a0_0 a0_1 a1_0 a1_1 a2_0 a2_1 a3 a4 a5 r w hlaw t275 t276 t277 t279 t280 t281 t283 t284 t285 t287 t288 t289 t291 t292 t293 t294 t295 t296 t297 t299 t300 t301 gb272 GE272 gb273 GE273 NB272_273 NB273_272 gb274 GE274 NB272_274 NB274_272 NB273_274 NB274_273 gb278 GE278 NB272_278 NB278_272 NB273_278 NB278_273 NB274_278 NB278_274 gb282 GE282 NB272_282 NB282_272 NB273_282 NB282_273 NB274_282 NB282_274 NB278_282 NB282_278 gb286 GE286 NB272_286 NB286_272 NB273_286 NB286_273 NB274_286 NB286_274 NB278_286 NB286_278 gb290 GE290 NB272_290 NB290_272 NB273_290 NB290_273 NB274_290 NB290_274 NB278_290 NB290_278 gb298 GE298 NB272_298 NB298_272 NB273_298 NB298_273 NB274_298 NB298_274 NB278_298 NB298_278 NB282_298 NB298_282 NB286_298 NB298_286 NB290_298 NB298_290 gb302 GE302 NB272_302 NB302_272 NB273_302 NB302_273 NB274_302 NB302_274 NB278_302 NB302_278 NB298_302 NB302_298 wc u53 u54 u55 u56 u57 u58 u59 u60 u61 u62 u63 u64 u65 u66 u67 u68 u69 u70 u71 u72 u73 u74 u75 u76 u77 u78 u79 u80 u81 u82 u83 u84 u85 u86 u87 u88 u89 u90 u91 u92 u93 u94 u95 u96 u97 u98 u99 u100 u101 u102 u103 u104 u105 u106 u107 u108 u109 u110 u111 u112 u113 u114 u115 u116 u117 u118 u119 u120 u121 u122 u123 u124 u125 u126 u127 u128 u129 u130 u131 u132 u133 u134 u135 u136 u137 u138 u139 u140 u141 u142 u143 u144 u145 u146 u147 u148 u149 u150 u151 u152 u153 u154 u155 u156 u157 u158 u159 u160 u161 u162 u163 u164 u165 u166 u167 u168 u169 u170 u171 u172 u174 u175 u176 u177 u178 u179 u180 u181 u182 u183 u184 u185 u186 u187 u188 u189 u190 u191 u192 u193 u194 u195 u196 u197 u198 u199 u200 u201 u202 u203 u204 u205 u206 u207 u208 u209 u210 u211 u212 u213 u214 u215 u216 u217 u218 u219 u220 u221 u222 u223 u224 u225 u226 u227 u228 u229 u230 u231 u232 u233 u234 u235 u236 u237 u238 u239 u240 u241 u242 u243 u244 u245 u246 u247 u248 u249 u250 u251 u252 u253 u254 u255 u256 u257 u258 u259 u260 u261 u262 u263 u264 u265 u266 u267 u268 u269 u270 u271 u272 u273 u274 u275 u276 u277 u278 u279 u280 u281 u282 u283 u284 u285 u286 u287 u288 u289 u290 u291 u292 u293 u294 u295 u296 u297 u298 u299 u300 u301 u302 u303 u304 u305 u306 u307 u308 u309 u310 u311 u312 u313 u314 u315 u316 u317 u318 u319 u320 u321 u322 u323 u324 u325 u326 u327 u328 u329 u330 u331 u332 u333 u334 u335 u336 u337 u338 u339 u340 u341 u342 u343 u344 u345 u346 u347 u348 u349 u350 u351 u352 u353 u354 u355 u356 u357 u358 u359 u360 u361 u362 u363 u364 u365 u366 u367 u368 u369 u370 u371 u372 u373 u374 u375 u376 u377 u378 u379 u380 u381 u382 kj14 HJ14 wc u12 u29 u30 u31 u32 u53 u54 u55 u56 u57 u58 u59 u60 u61 u62 u63 u64 u65 u66 u67 u68 u69 u70 u71 u72 u73 u74 u75 u76 u77 u78 u79 u80 u81 u82 u83 u84 u85 u86 u87 u88 u89 u90 u91 u92 u93 u94 u95 u96 u97 u98 u99 u100 u101 u102 u103 u104 u105 u106 u107 u108 u109 u110 u111 u112 u113 u114 u115 u116 u117 u118 u119 u120 u121 u122 u123 u124 u125 u126 u127 u128 u129 u130 u131 u132 u133 u134 u135 u136 u137 u138 u139 u140 u141 u142 u143 u144 u145 u146 u147 u148 u149 u150 u151 u152 u153 u154 u155 u156 u157 u158 u159 u160 u161 u162 u163 u164 u165 u166 u167 u168 u169 u170 u171 u172 u173 u174 u175 u176 u177 u178 u179 u180 u181 u182 u183 u184 u185 u186 u187 u188 u189 u190 u191 u192 u193 u194 u195 u196 u197 u198 u199 u200 u201 u202 u203 u204 u205 u206 u207 u208 u209 u210 u211 u212 u213 u214 u215 u216 u217 u218 u219 u220 u221 u222 u223 u224 u225 u226 u227 u228 u229 u230 u231 u232 u233 u234 u235 u236 u237 u238 u239 u240 u241 u242 u243 u244 u245 u246 u247 u248 u249 u250 u251 u252 u253 u254 u255 u256 u257 u258 u259 u260 u261 u262 u263 u264 u265 u266 u267 u268 u269 u270 u271 u272 u273 u274 u275 u276 u277 u278 u279 u280 u281 u282 u283 u284 u285 u286 u287 u288 u289 u290 u291 u292 u293 u294 u295 u296 u297 u298 u299 u300 u301 u302 u303 u304 u305 u306 u307 u308 u309 u310 u311 u312 u313 u314 u315 u316 u317 u318 u319 u320 u321 u322 u323 u324 u325 u326 u327 u328 u329 u330 u331 u332 u333 u334 u335 u336 u337 u338 u339 u340 u341 u342 u343 u344 u345 u346 u347 u348 u349 u350 u351 u352 u353 u354 u355 u356 u357 u358 u359 u360 u361 u362 u363 u364 u365 u366 u367 u368 u369 u370 u371 u372 u373 u374 u375 u376 u377 u378 u379 u380 u381 u382 hcut K_ hK_
end Go.Proofs.Ytpmldpfoiljmcaa.PFnTurnsAddedOfAll
