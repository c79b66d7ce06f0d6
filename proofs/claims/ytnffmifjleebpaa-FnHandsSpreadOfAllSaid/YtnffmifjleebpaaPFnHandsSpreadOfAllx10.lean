-- WRITTEN BY A PROGRAM OF THIS SESSION (wip/tools): its own text, not the kit's printed one.
import Derived.Test.YtnffmifjleebpaaPFnHandsSpreadOfAllx0
import Derived.Test.YtnffmifjleebpaaPFnHandsSpreadOfAllx1
import Derived.Test.YtnffmifjleebpaaPFnHandsSpreadOfAllx3
import Derived.Test.YtnffmifjleebpaaPFnHandsSpreadOfAllx5
import Derived.Test.YtnffmifjleebpaaPFnHandsSpreadOfAllx8
import Derived.Test.YtnffmifjleebpaaPFnHandsSpreadOfAllx9
import Derived.Test.YtnffmifjleebpaaPFnHandsSpreadOfAllx10c
import Derived.Deep.CutRange
namespace Go.Proofs.Ytnffmifjleebpaa.PFnHandsSpreadOfAll
open Go.RowKit Go.Proofs.YtnffmifjleebpaaW.PrintWords Go.Proofs.YtnffmifjleebpaaW.PrintLast Go.Proofs.YtnffmifjleebpaaW.PrintMore
attribute [local go_sem] max2_int min2_int max_two min_two max_three min_three max_four min_four   -- for this text's walks alone
set_option linter.unusedVariables false
set_option linter.unusedSimpArgs false

attribute [local go_sem high] eqA24
set_option maxHeartbeats 8000000 in
set_option maxRecDepth 100000 in
theorem laws_FnHandsSpreadOfAll.calls (k : Nat) (A0 : Option Addr) (c0 : Nat) (l0 : List (S26)) (a1_0 : Int) (a1_1 : Int) (a2 : Int) (a3_0 : Int) (a3_1 : Int) (a3_2 : Int) (r : Bool) (w : World) (hr0 : Kd.C k26 w A0 l0.length l0) (hc0 : l0.length ≤ c0) (hlaw : Aside0 (r = true)) (h : laws_FnHandsSpreadOfAll.f k l0 a1_0 a1_1 a2 a3_0 a3_1 a3_2 = some r) :
  Calls Try.prog 3 #[.slice A0 l0.length c0, .agg #[.int .i64 a1_0, .int .i64 a1_1], .int .i64 a2, .agg #[.int .i64 a3_0, .int .i64 a3_1, .int .i64 a3_2]] w fun e w' => e = .returned (.bool r) ∧ Below w.heap.size w w' := by
 have hu24 := Try.underlying24; have hu26 := Try.underlying26
 have HR0 := Am hr0
 have HC0 := Am hc0
 clear hr0 hc0
 have HB := Am (Below.refl w.heap.size w)
 have H : (if (l0.length : Int) > 10000 then (some true) else ((impl_GapsAt.f k l0 a1_0 a1_1).bind fun bt352 => ((spec_GapsAt.f k l0 a1_0 a1_1).bind fun bt356 => ((impl_AreSpread.f k l0 a1_0 a1_1).bind fun bt360 => ((spec_AreSpread.f k l0 a1_0 a1_1).bind fun bt362 => (if (bt352.2 != bt356.2) = true then (laws_FnHandsSpreadOfAll.j0 k l0 a2 bt352.1 bt352.2 bt360.1 true a3_0 a3_1 a3_2) else ((laws_kTurns.f k bt352.1 bt356.1).bind fun t364 => (if t364 = true then (if (bt360.2 != bt362.2) = true then (laws_FnHandsSpreadOfAll.j0 k l0 a2 bt352.1 bt352.2 bt360.1 true a3_0 a3_1 a3_2) else (if (bt360.1 != bt362.1) = true then (laws_FnHandsSpreadOfAll.j0 k l0 a2 bt352.1 bt352.2 bt360.1 true a3_0 a3_1 a3_2) else (laws_FnHandsSpreadOfAll.j0 k l0 a2 bt352.1 bt352.2 bt360.1 (bt360.2 != bt352.2) a3_0 a3_1 a3_2))) else (laws_FnHandsSpreadOfAll.j0 k l0 a2 bt352.1 bt352.2 bt360.1 true a3_0 a3_1 a3_2))))))))) = some r := h
 clear h
 by_cases c5 : (l0.length : Int) > 10000
 ·rw [if_pos c5] at H
  have c5b0 : decide (10000 < (l0.length : Int)) = true := decide_eq_true c5
  have c5b1 : decide (10000 < l0.length) = true := decide_eq_true (by omega)
  clear c5
  as_aux_lemma =>
   obtain rfl := Option.some.inj H
   go_enter Try.func3, Try.ntmps3
   go_wp2_with (first | ((with_reducible refine gate_dst (N := 5) rfl ?_); refine bE 5 #[.int .i64 a1_0, .int .i64 a1_1] 24 ?_; intro gb350 hg w6 hbox hb; have hv := vK HB hb; have n0_ := Am (bT hv hb); have n1_ := Am (hbox); have GW350 := kG hg hv; have GE350 := kG hg hv; clear HB; have HB := n0_; have BK350 := n1_; clear n0_ n1_ hv; clear hb hbox hg) | ((with_reducible refine gate_dst (N := 7) rfl ?_); refine bE 7 #[.int .i64 a3_0, .int .i64 a3_1, .int .i64 a3_2] 26 ?_; intro gb351 hg w7 hbox hb; have hp0 := pA BK350 hb; have hv := vK HB hb; have n1_ := Am (bT hv hb); have n2_ := Am (hbox); have GW351 := kG hg hv; have GE351 := kG hg hv; have hp1 := pK BK350 hb; obtain ⟨NB350_351, NB351_350⟩ := kXY hg hp1 BK350; clear HB; replace BK350 := hp0 BK350; have HB := n1_; have BK351 := n2_; clear n1_ n2_ hp0 hp1 hv; clear hb hbox hg))
   go_ret
   exact ⟨by first | rfl | (simp [errW_none, errW_some] <;> rfl) | (simp [*, errW_none, errW_some] <;> rfl), by repeat (first | (with_reducible first | exact HB.out | apply bA | apply bN | apply bD | refine bX ?_ (by assumption)) | exact HB.out)⟩
 rw [if_neg c5] at H
 have c5b0 : decide (10000 < (l0.length : Int)) = false := decide_eq_false c5
 have c5b1 : decide (10000 < l0.length) = false := decide_eq_false (by omega)
 clear c5
 replace H := Option.bind_eq_some_iff.mp H
 obtain ⟨⟨t352, t355⟩, A80, H⟩ := H
 try dsimp only at H
 have A8 := Am A80
 clear A80
 replace H := Option.bind_eq_some_iff.mp H
 obtain ⟨⟨t356, t359⟩, A90, H⟩ := H
 try dsimp only at H
 have A9 := Am A90
 clear A90
 replace H := Option.bind_eq_some_iff.mp H
 obtain ⟨⟨t360, t361⟩, A100, H⟩ := H
 try dsimp only at H
 have A10 := Am A100
 clear A100
 replace H := Option.bind_eq_some_iff.mp H
 obtain ⟨⟨t362, t363⟩, A110, H⟩ := H
 try dsimp only at H
 have A11 := Am A110
 clear A110
 have HC12 := Am H
 clear H
 go_enter Try.func3, Try.ntmps3
 go_upto_region 7 with (first | ((with_reducible refine gate_dst (N := 5) rfl ?_); refine bE 5 #[.int .i64 a1_0, .int .i64 a1_1] 24 ?_; intro gb350 hg w13 hbox hb; have hv := vK HB hb; have n0_ := Am (bT hv hb); have n1_ := Am (hbox); have GW350 := kG hg hv; have GE350 := kG hg hv; clear HB; have HB := n0_; have BK350 := n1_; clear n0_ n1_ hv; clear hb hbox hg) | ((with_reducible refine gate_dst (N := 7) rfl ?_); refine bE 7 #[.int .i64 a3_0, .int .i64 a3_1, .int .i64 a3_2] 26 ?_; intro gb351 hg w14 hbox hb; have hp0 := pA BK350 hb; have hv := vK HB hb; have n1_ := Am (bT hv hb); have n2_ := Am (hbox); have GW351 := kG hg hv; have GE351 := kG hg hv; have hp1 := pK BK350 hb; obtain ⟨NB350_351, NB351_350⟩ := kXY hg hp1 BK350; clear HB; replace BK350 := hp0 BK350; have HB := n1_; have BK351 := n2_; clear n1_ n2_ hp0 hp1 hv; clear hb hbox hg; have nq15 := kO NB350_351; have zq16 := c2 BK350) | ((with_reducible refine gate_callee (f := 4) rfl ?_); refine gL (some 46) Try.func4 #[.slice A0 l0.length c0, .agg #[.int .i64 a1_0, .int .i64 a1_1]] rfl ?_; (with_reducible refine (impl_GapsAt.calls k _ _ l0 a1_0 a1_1 t352 t355 _ ?side1 ?side2 A8.out).mono ?_); (case side1 => repeat (first | exact (Kd.C_below HR0.out HB.out) | (with_reducible refine Kd.C_alloc ?_ _) | (with_reducible refine Kd.C_drewN ?_ _) | (with_reducible refine Kd.C_drew ?_))); (case side2 => exact HC0.out); rintro e w17 ⟨v353, rfl, ho0, hb⟩; refine ⟨_, rfl, ?_⟩; have n0_ := Am (Kd.R_lower (Kd.R_newB ho0 (g := gb350) (o := .cells #[.int .i64 a1_0, .int .i64 a1_1] 24 (0, 0)) (kU BK350)) (bZ (by repeat (first | (with_reducible first | exact HB.out | apply bA | apply bN | apply bD | refine bX ?_ (by assumption)) | exact HB.out)))); have hp0 := pA BK350 hb; have hv := vK HB hb; have n3_ := Am (bT hv hb); clear HB; have HO354 := n0_; replace BK350 := hp0 BK350; replace BK351 := hp0 BK351; have HB := n3_; clear n0_ n3_ hp0 hv; (try clear hb); (try clear ho0); have zq18 := c2 BK350) | ((with_reducible refine gate_callee (f := 5) rfl ?_); refine gL (some 52) Try.func5 #[.slice A0 l0.length c0, .agg #[.int .i64 a1_0, .int .i64 a1_1]] rfl ?_; (with_reducible refine (spec_GapsAt.calls k _ _ l0 a1_0 a1_1 t356 t359 _ ?side1 ?side2 A9.out).mono ?_); (case side1 => repeat (first | exact (Kd.C_below HR0.out HB.out) | (with_reducible refine Kd.C_alloc ?_ _) | (with_reducible refine Kd.C_drewN ?_ _) | (with_reducible refine Kd.C_drew ?_))); (case side2 => exact HC0.out); rintro e w19 ⟨v357, rfl, ho0, hb⟩; refine ⟨_, rfl, ?_⟩; have n0_ := Am (Kd.R_elder' (kW HO354) (Kd.R_base ho0) hb); have n1_ := Am (Kd.R_lower (Kd.R_newB (Kd.R_new' ho0 (Kd.R_lt (kW HO354))) (g := gb350) (o := .cells #[.int .i64 a1_0, .int .i64 a1_1] 24 (0, 0)) (kU BK350)) (bZ (by repeat (first | (with_reducible first | exact HB.out | apply bA | apply bN | apply bD | refine bX ?_ (by assumption)) | exact HB.out)))); have hp0 := pA BK350 hb; have hv := vK HB hb; have n4_ := Am (bT hv hb); clear HO354; clear HB; have HO354 := n0_; have HO358 := n1_; replace BK350 := hp0 BK350; replace BK351 := hp0 BK351; have HB := n4_; clear n0_ n1_ n4_ hp0 hv; (try clear hb); (try clear ho0); have zq20 := c2 BK350) | ((with_reducible refine gate_callee (f := 6) rfl ?_); refine gL (some 58) Try.func6 #[.slice A0 l0.length c0, .agg #[.int .i64 a1_0, .int .i64 a1_1]] rfl ?_; (with_reducible refine (impl_AreSpread.calls k _ _ l0 a1_0 a1_1 t360 t361 _ ?side1 ?side2 A10.out).mono ?_); (case side1 => repeat (first | exact (Kd.C_below HR0.out HB.out) | (with_reducible refine Kd.C_alloc ?_ _) | (with_reducible refine Kd.C_drewN ?_ _) | (with_reducible refine Kd.C_drew ?_))); (case side2 => exact HC0.out); rintro e w21 ⟨rfl, hb⟩; refine ⟨_, rfl, ?_⟩; have n0_ := Am (Kd.R_below (kW HO354) hb); have n1_ := Am (Kd.R_below (kW HO358) hb); have hp0 := pA BK350 hb; have hv := vK HB hb; have n4_ := Am (bT hv hb); clear HO354; clear HO358; clear HB; have HO354 := n0_; have HO358 := n1_; replace BK350 := hp0 BK350; replace BK351 := hp0 BK351; have HB := n4_; clear n0_ n1_ n4_ hp0 hv; (try clear hb); have zq22 := c2 BK350) | ((with_reducible refine gate_callee (f := 7) rfl ?_); refine gL (some 64) Try.func7 #[.slice A0 l0.length c0, .agg #[.int .i64 a1_0, .int .i64 a1_1]] rfl ?_; (with_reducible refine (spec_AreSpread.calls k _ _ l0 a1_0 a1_1 t362 t363 _ ?side1 ?side2 A11.out).mono ?_); (case side1 => repeat (first | exact (Kd.C_below HR0.out HB.out) | (with_reducible refine Kd.C_alloc ?_ _) | (with_reducible refine Kd.C_drewN ?_ _) | (with_reducible refine Kd.C_drew ?_))); (case side2 => exact HC0.out); rintro e w23 ⟨rfl, hb⟩; refine ⟨_, rfl, ?_⟩; have n0_ := Am (Kd.R_below (kW HO354) hb); have n1_ := Am (Kd.R_below (kW HO358) hb); have hp0 := pA BK350 hb; have hv := vK HB hb; have n4_ := Am (bT hv hb); clear HO354; clear HO358; clear HB; have HO354 := n0_; have HO358 := n1_; replace BK350 := hp0 BK350; replace BK351 := hp0 BK351; have HB := n4_; clear n0_ n1_ n4_ hp0 hv; (try clear hb)))
 (try simp only [Act.put, List.setIfInBounds_toArray, List.set_cons_zero, List.set_cons_succ])
 go_cut [90] from 40 to 89 (fun v90 wc => ∃ (kq : Nat) (x90_11 : Bool), v90 = .bool x90_11 ∧ Aside0 (laws_FnHandsSpreadOfAll.j0 kq l0 a2 t352 t355 t360 x90_11 a3_0 a3_1 a3_2 = some r) ∧ Aside0 (kq ≤ k) ∧ Aside0 (Kd.R k24 24 wc w.heap.size (fun k_ => k_ ≠ gb350) v353 t352) ∧ Aside0 (wc.heap[gb350]? = some (.cells #[.int .i64 a1_0, .int .i64 a1_1] 24 (0, 0))) ∧ Aside0 (wc.heap[gb351]? = some (.cells #[.int .i64 a3_0, .int .i64 a3_1, .int .i64 a3_2] 26 (0, 0))) ∧ Aside0 (Below w.heap.size w wc))
 case first =>
  have H := HC12.out
  clear HC12
  by_cases c24 : (t355 != t359) = true
  ·rw [if_pos c24] at H
   have c24b0 : (t355 != t359) = true := c24
   (try (have c24b1 : decide (t355 = t359) = false := by simpa using c24))
   (try (have c24b2 : (t355 == t359) = false := by simpa using c24))
   (try (have c24b3 : ¬ (t355 = t359) := by simpa using c24))
   clear c24
   (first | rw [c24b0] | (simp only [i64_w, i32_w]; rw [c24b0]) | skip)
   as_aux_lemma =>
    exact absurd ((laws_FnHandsSpreadOfAll.j0_no H).symm.trans hlaw.out) (by decide)
  rw [if_neg c24] at H
  have c24b0 : (t355 != t359) = false := by simpa using c24
  (try (have c24b1 : decide (t355 = t359) = true := by simpa using c24))
  (try (have c24b2 : (t355 == t359) = true := by simpa using c24))
  clear c24
  (first | rw [c24b0] | (simp only [i64_w, i32_w]; rw [c24b0]) | skip)
  replace H := Option.bind_eq_some_iff.mp H
  obtain ⟨t364, A250, H⟩ := H
  try dsimp only at H
  have A25 := Am A250
  clear A250
  by_cases c26 : t364 = true
  ·subst c26
   have H1 : (if (t361 != t363) = true then (laws_FnHandsSpreadOfAll.j0 k l0 a2 t352 t355 t360 true a3_0 a3_1 a3_2) else (if (t360 != t362) = true then (laws_FnHandsSpreadOfAll.j0 k l0 a2 t352 t355 t360 true a3_0 a3_1 a3_2) else (laws_FnHandsSpreadOfAll.j0 k l0 a2 t352 t355 t360 (t361 != t355) a3_0 a3_1 a3_2))) = some r := by rw [if_pos rfl] at H; exact H
   clear H
   have H := H1
   clear H1
   by_cases c27 : (t361 != t363) = true
   ·rw [if_pos c27] at H
    have c27b0 : (t361 != t363) = true := c27
    (try (have c27b1 : decide (t361 = t363) = false := by simpa using c27))
    (try (have c27b2 : (t361 == t363) = false := by simpa using c27))
    (try (have c27b3 : ¬ (t361 = t363) := by simpa using c27))
    clear c27
    as_aux_lemma =>
     exact absurd ((laws_FnHandsSpreadOfAll.j0_no H).symm.trans hlaw.out) (by decide)
   rw [if_neg c27] at H
   have c27b0 : (t361 != t363) = false := by simpa using c27
   (try (have c27b1 : decide (t361 = t363) = true := by simpa using c27))
   (try (have c27b2 : (t361 == t363) = true := by simpa using c27))
   clear c27
   by_cases c28 : (t360 != t362) = true
   ·rw [if_pos c28] at H
    have c28b0 : (t360 != t362) = true := c28
    (try (have c28b1 : decide (t360 = t362) = false := by simpa using c28))
    (try (have c28b2 : (t360 == t362) = false := by simpa using c28))
    (try (have c28b3 : ¬ (t360 = t362) := by simpa using c28))
    clear c28
    as_aux_lemma =>
     exact absurd ((laws_FnHandsSpreadOfAll.j0_no H).symm.trans hlaw.out) (by decide)
   rw [if_neg c28] at H
   have c28b0 : (t360 != t362) = false := by simpa using c28
   (try (have c28b1 : decide (t360 = t362) = true := by simpa using c28))
   (try (have c28b2 : (t360 == t362) = true := by simpa using c28))
   clear c28
   as_aux_lemma =>
    have H' := Am H
    clear H
    obtain ⟨Ao29, co29, eo29⟩ := Kd.R_slice HO354.out
    subst eo29
    obtain ⟨Ao30, co30, eo30⟩ := Kd.R_slice HO358.out
    subst eo30
    go_wp2_with (first | (go_at_call 8; (with_reducible refine (laws_kTurns.calls k _ _ t352 _ _ t356 true _ ?side1 ?side2 ?side3 ?side4 A25.out).mono ?_); (case side1 => repeat (first | exact (Kd.R_reads' HO354.out).2.2 | (with_reducible refine Kd.C_alloc ?_ _) | (with_reducible refine Kd.C_drewN ?_ _) | (with_reducible refine Kd.C_drew ?_))); (case side2 => exact (Kd.R_reads' HO354.out).2.1); (case side3 => repeat (first | exact (Kd.R_reads' HO358.out).2.2 | (with_reducible refine Kd.C_alloc ?_ _) | (with_reducible refine Kd.C_drewN ?_ _) | (with_reducible refine Kd.C_drew ?_))); (case side4 => exact (Kd.R_reads' HO358.out).2.1); rintro e w' ⟨rfl, ⟨nd, rfl⟩⟩))
    go_meet
    case rel => exact ⟨_, ((t361 != t355)), (by first | rfl | (simp; done) | (simp [*]; done)), H', ⟨by first | omega | exact Nat.le_refl _⟩, ⟨by (with_reducible repeat (first | apply Kd.R_alloc | apply Kd.R_drewN | apply Kd.R_drew)); exact Kd.R_mono HO354.out (fun _ hk => hk.1.2)⟩, kV BK350, kV BK351, ⟨by repeat (first | (with_reducible first | exact HB.out | apply bA | apply bN | apply bD | refine bX ?_ (by assumption)) | exact HB.out)⟩⟩
  replace c26 := Bool.eq_false_iff.mpr c26
  subst c26
  have H1 : (laws_FnHandsSpreadOfAll.j0 k l0 a2 t352 t355 t360 true a3_0 a3_1 a3_2) = some r := by rw [if_neg (show ¬ (false = true) by decide)] at H; exact H
  clear H
  have H := H1
  clear H1
  as_aux_lemma =>
   exact absurd ((laws_FnHandsSpreadOfAll.j0_no H).symm.trans hlaw.out) (by decide)
 clear HC12
 (try clear c5); (try clear c5b0); (try clear c5b1); (try clear zq16); (try clear zq18); (try clear zq20); (try clear zq22)
 obtain ⟨kq, x90_11, rfl, HA, HJ11, HO_9, BK350, BK351, HB⟩ := hcut
 cases kq with
 | zero => exact absurd HA.out (by simp [laws_FnHandsSpreadOfAll.j0])
 | succ kj11 =>
  have H := HA.out
  clear HA
  simp only [laws_FnHandsSpreadOfAll.j0] at H
  by_cases c31 : x90_11 = true
  ·subst c31
   have H1 : (some false) = some r := by rw [if_pos rfl] at H; exact H
   clear H
   have H := H1
   clear H1
   as_aux_lemma =>
    exact absurd ((Option.some.inj H).trans hlaw.out) (by decide)
  replace c31 := Bool.eq_false_iff.mpr c31
  subst c31
  have H1 : (if t355 = true then (if (t352.length : Int) = (l0.length : Int) then (laws_FnHandsSpreadOfAll.l0 kj11 a2 t352 t360 (l0.length : Int) true true t352 (t352.length : Int) 0 a3_0 a3_1 a3_2 0 1) else (some false)) else (laws_FnHandsSpreadOfAll.j2 kj11 a2 a3_0 a3_1 a3_2)) = some r := by rw [if_neg (show ¬ (false = true) by decide)] at H; exact H
  clear H
  have H := H1
  clear H1
  have HC32 := Am H
  clear H
  go_upto_if 91 with (fail)
  go_cut [] from 91 to 91 (fun wc => ∃ (kq : Nat), Aside0 (laws_FnHandsSpreadOfAll.j2 kq a2 a3_0 a3_1 a3_2 = some r) ∧ Aside0 (kq ≤ kj11) ∧ Aside0 (wc.heap[gb350]? = some (.cells #[.int .i64 a1_0, .int .i64 a1_1] 24 (0, 0))) ∧ Aside0 (wc.heap[gb351]? = some (.cells #[.int .i64 a3_0, .int .i64 a3_1, .int .i64 a3_2] 26 (0, 0))) ∧ Aside0 (Below w.heap.size w wc))
  case first =>
   have H := HC32.out
   clear HC32
   by_cases c33 : t355 = true
   ·subst c33
    have H1 : (if (t352.length : Int) = (l0.length : Int) then (laws_FnHandsSpreadOfAll.l0 kj11 a2 t352 t360 (l0.length : Int) true true t352 (t352.length : Int) 0 a3_0 a3_1 a3_2 0 1) else (some false)) = some r := by rw [if_pos rfl] at H; exact H
    clear H
    have H := H1
    clear H1
    by_cases c34 : (t352.length : Int) = (l0.length : Int)
    ·rw [if_pos c34] at H
     have c34b0 : ((t352.length : Int) == (l0.length : Int)) = true := beq_iff_eq.mpr c34
     have c34b1 : ((t352.length : Int) != (l0.length : Int)) = false := bne_eq_false_iff_eq.mpr c34
     have c34b2 : (t352.length == l0.length) = true := by first | simpa using c34 | (simp at c34 ⊢; omega)
     clear c34
     (first | rw [c34b0] | (simp only [i64_w, i32_w]; rw [c34b0]) | skip)
     have H' := Am H
     clear H
     obtain ⟨Ao35, co35, eo35⟩ := Kd.R_slice HO_9.out
     subst eo35
     go_wp2_with (first | ((with_reducible refine gate_dst (N := 18) rfl ?_); refine bE 18 #[.int .i64 0, .int .i64 0] 24 ?_; intro gb365 hg w36 hbox hb; have n0_ := Am (Kd.R_below (Kd.R_elderB (kW HO_9) gb365 (Nat.le_of_eq hg.symm)) hb); have hp0 := pA BK350 hb; have hv := vK HB hb; have n3_ := Am (bT hv hb); have n4_ := Am (hbox); have GW365 := kG hg hv; have GE365 := kG hg hv; have hp1 := pK BK350 hb; obtain ⟨NB350_365, NB365_350⟩ := kXY hg hp1 BK350; obtain ⟨NB351_365, NB365_351⟩ := kXY hg hp1 BK351; clear HO_9; clear HB; have HO_9 := n0_; replace BK350 := hp0 BK350; replace BK351 := hp0 BK351; have HB := n3_; have BK365 := n4_; clear n0_ n3_ n4_ hp0 hp1 hv; clear hb hbox hg; have nq37 := kO NB365_350; have nq38 := kO NB365_351; have zq39 := c2 BK365))
     go_loopg [19, 20, 101] kj11 (fun kq v19 v20 v101 w' => ∃ (x19_2 : Bool) (x20_2 : Bool) (x101_2 : Int) (x366000_2 : Int) (x366001_2 : Int), v19 = .bool x19_2 ∧ Aside0 (x19_2 = true) ∧ v20 = .bool x20_2 ∧ v101 = .int .i64 x101_2 ∧ Aside0 (laws_FnHandsSpreadOfAll.l0 kq a2 t352 t360 (l0.length : Int) x19_2 x20_2 t352 (t352.length : Int) x101_2 a3_0 a3_1 a3_2 x366000_2 x366001_2 = some r) ∧ Aside0 (kq ≤ kj11) ∧ Aside0 (Kd.R k24 24 w' w.heap.size (fun k_ => k_ ≠ gb350 ∧ k_ ≠ gb365) (.slice Ao35 t352.length co35) t352) ∧ Aside0 (Kd.R k24 24 w' w.heap.size (fun k_ => k_ ≠ gb350 ∧ k_ ≠ gb365) (.slice Ao35 t352.length co35) t352) ∧ Aside0 (w'.heap[gb350]? = some (.cells #[.int .i64 a1_0, .int .i64 a1_1] 24 (0, 0))) ∧ Aside0 (w'.heap[gb351]? = some (.cells #[.int .i64 a3_0, .int .i64 a3_1, .int .i64 a3_2] 26 (0, 0))) ∧ Aside0 (w'.heap[gb365]? = some (.cells #[.int .i64 x366000_2, .int .i64 x366001_2] 24 (0, 0))) ∧ Aside0 (Below w.heap.size w w'))
     case atStart => exact ⟨(true), (true), (0), (0), (1), (by first | rfl | (simp; done) | (simp [*]; done)), ⟨rfl⟩, (by first | rfl | (simp; done) | (simp [*]; done)), (by first | rfl | (simp; done) | (simp [*]; done)), H', ⟨Nat.le_refl _⟩, ⟨by (with_reducible repeat (first | apply Kd.R_alloc | apply Kd.R_drewN | apply Kd.R_drew)); exact Kd.R_mono (Kd.R_far (p := ⟨gb365, 1, none⟩) (Kd.R_far (p := ⟨gb365, 0, none⟩) (Kd.R_mono HO_9.out (fun k_ hk => (⟨hk, hk.2⟩ : _ ∧ k_ ≠ gb365))) (fun _ hk => hk.2) (.int .i64 0)) (fun _ hk => hk.2) (.int .i64 1)) (fun _ hk => ⟨hk.1.1, hk.1.2⟩)⟩, ⟨by (with_reducible repeat (first | apply Kd.R_alloc | apply Kd.R_drewN | apply Kd.R_drew)); exact Kd.R_mono (Kd.R_far (p := ⟨gb365, 1, none⟩) (Kd.R_far (p := ⟨gb365, 0, none⟩) (Kd.R_mono HO_9.out (fun k_ hk => (⟨hk, hk.2⟩ : _ ∧ k_ ≠ gb365))) (fun _ hk => hk.2) (.int .i64 0)) (fun _ hk => hk.2) (.int .i64 1)) (fun _ hk => ⟨hk.1.1, hk.1.2⟩)⟩, ⟨by (with_reducible repeat (first | refine kN ?_ _ | refine kD ?_ | refine kA ?_ _)); refine kR ?_ NB350_365.out _; (with_reducible repeat (first | refine kN ?_ _ | refine kD ?_ | refine kA ?_ _)); refine kR ?_ NB350_365.out _; (with_reducible repeat (first | refine kN ?_ _ | refine kD ?_ | refine kA ?_ _)); exact BK350.out⟩, ⟨by (with_reducible repeat (first | refine kN ?_ _ | refine kD ?_ | refine kA ?_ _)); refine kR ?_ NB351_365.out _; (with_reducible repeat (first | refine kN ?_ _ | refine kD ?_ | refine kA ?_ _)); refine kR ?_ NB351_365.out _; (with_reducible repeat (first | refine kN ?_ _ | refine kD ?_ | refine kA ?_ _)); exact BK351.out⟩, ⟨by (with_reducible repeat (first | refine kN ?_ _ | refine kD ?_ | refine kA ?_ _)); refine kP (cs := #[.int .i64 0, .int .i64 0]) ?_ 1 _ rfl; (with_reducible repeat (first | refine kN ?_ _ | refine kD ?_ | refine kA ?_ _)); refine kP (cs := #[.int .i64 0, .int .i64 0]) ?_ 0 _ rfl; (with_reducible repeat (first | refine kN ?_ _ | refine kD ?_ | refine kA ?_ _)); exact BK365.out⟩, ⟨by repeat (first | (with_reducible first | exact HB.out | apply bA | apply bN | apply bD | refine bX ?_ (by assumption)) | exact HB.out)⟩⟩
     case round =>
      clear H'
      (try clear c5); (try clear c5b0); (try clear c5b1); (try clear c31); (try clear c33); (try clear c34); (try clear c34b0); (try clear c34b1); (try clear c34b2); (try clear zq16); (try clear zq18); (try clear zq20); (try clear zq22); (try clear zq39)
      obtain ⟨x19_2, x20_2, x101_2, x366000_2, x366001_2, rfl, hInv, rfl, rfl, HA, HK2, HO_9, HO_99, BK350, BK351, BK365, HB⟩ := hrel
      cases gk with
      | zero => exact absurd HA.out (by simp [laws_FnHandsSpreadOfAll.l0])
      | succ k2 =>
       have H := HA.out
       clear HA
       simp only [laws_FnHandsSpreadOfAll.l0] at H
       by_cases c40 : x101_2 < (t352.length : Int)
       ·rw [if_pos c40] at H
        have c40b0 : decide (x101_2 < (t352.length : Int)) = true := decide_eq_true c40
        clear c40
        by_cases c41 : 0 ≤ x101_2
        ·rw [if_pos c41] at H
         have c41b0 : decide (0 ≤ x101_2) = true := decide_eq_true c41
         clear c41
         by_cases c42 : x101_2 < (t352.length : Int)
         ·rw [if_pos c42] at H
          have c42b0 : decide (x101_2 < (t352.length : Int)) = true := decide_eq_true c42
          clear c42
          replace H := Option.bind_eq_some_iff.mp H
          obtain ⟨⟨t368, t369, t370⟩, A430, H⟩ := H
          try dsimp only at H
          have A43 := Am A430
          clear A430
          by_cases c44 : x19_2 = true
          ·subst c44
           have H1 : (if x20_2 = true then (if 0 < (t352.length : Int) then (if t370 = true then (laws_FnHandsSpreadOfAll.l0 k2 a2 t352 t360 (l0.length : Int) t370 (((rd_T24 t352 x101_2).f0) == ((rd_T24 t352 0).f0) && (((rd_T24 t352 x101_2).f1) == ((rd_T24 t352 0).f1))) t352 (t352.length : Int) (wrap64 (x101_2 + 1)) a3_0 a3_1 a3_2 t368 t369) else (if t360 = true then (if (l0.length : Int) > 1 then (if (!(((rd_T24 t352 0).f0) == 1) || (!(((rd_T24 t352 0).f1) == (l0.length : Int)))) = true then (some false) else (if (l0.length : Int) = 1 then (laws_FnHandsSpreadOfAll.j2 k2 a2 a3_0 a3_1 a3_2) else (laws_FnHandsSpreadOfAll.j2 k2 a2 a3_0 a3_1 a3_2))) else (if (l0.length : Int) = 1 then (laws_FnHandsSpreadOfAll.j2 k2 a2 a3_0 a3_1 a3_2) else (laws_FnHandsSpreadOfAll.j2 k2 a2 a3_0 a3_1 a3_2))) else (if (l0.length : Int) = 1 then (some false) else (laws_FnHandsSpreadOfAll.j2 k2 a2 a3_0 a3_1 a3_2)))) else (none)) else (if t370 = true then (laws_FnHandsSpreadOfAll.l0 k2 a2 t352 t360 (l0.length : Int) t370 false t352 (t352.length : Int) (wrap64 (x101_2 + 1)) a3_0 a3_1 a3_2 t368 t369) else (if t360 = true then (if (l0.length : Int) > 1 then (if 0 < (t352.length : Int) then (if (!(((rd_T24 t352 0).f0) == 1) || (!(((rd_T24 t352 0).f1) == (l0.length : Int)))) = true then (some false) else (if (l0.length : Int) = 1 then (laws_FnHandsSpreadOfAll.j2 k2 a2 a3_0 a3_1 a3_2) else (laws_FnHandsSpreadOfAll.j2 k2 a2 a3_0 a3_1 a3_2))) else (none)) else (if (l0.length : Int) = 1 then (laws_FnHandsSpreadOfAll.j2 k2 a2 a3_0 a3_1 a3_2) else (laws_FnHandsSpreadOfAll.j2 k2 a2 a3_0 a3_1 a3_2))) else (if (l0.length : Int) = 1 then (some false) else (laws_FnHandsSpreadOfAll.j2 k2 a2 a3_0 a3_1 a3_2))))) = some r := by rw [if_pos rfl] at H; exact H
           clear H
           have H := H1
           clear H1
           have HX_ := Am H
           clear H
           have p366 : 0 ≤ (x101_2 : Int) := of_decide_eq_true (by first | (with_reducible assumption) | assumption)
           have q366 : x101_2 < (t352.length : Int) := of_decide_eq_true (by first | (with_reducible assumption) | assumption)
           obtain ⟨ad366, e366, hx366_0, hx366_1⟩ := at_T24 (Kd.R_reads' HO_99.out).2.2 x101_2 p366 q366
           cases e366
           replace p366 := eq_true p366
           replace q366 := eq_true q366
           try go_wp2_with (first | ((with_reducible refine gate_dst (N := 22) rfl ?_); refine bE 22 #[.int .i64 0, .int .i64 0] 24 ?_; intro gb367 hg w48 hbox hb; have n0_ := Am (Kd.R_below (Kd.R_elderB (kW HO_9) gb367 (Nat.le_of_eq hg.symm)) hb); have n1_ := Am (Kd.R_below (Kd.R_elderB (kW HO_99) gb367 (Nat.le_of_eq hg.symm)) hb); have hp0 := pA BK350 hb; have hv := vK HB hb; have n5_ := Am (bT hv hb); have n6_ := Am (hbox); have GW367 := kG hg hv; have GE367 := kG hg hv; have hp1 := pK BK350 hb; obtain ⟨NB350_367, NB367_350⟩ := kXY hg hp1 BK350; obtain ⟨NB351_367, NB367_351⟩ := kXY hg hp1 BK351; obtain ⟨NB365_367, NB367_365⟩ := kXY hg hp1 BK365; clear HO_9; clear HO_99; clear HB; have HO_9 := n0_; have HO_99 := n1_; replace BK350 := hp0 BK350; replace BK351 := hp0 BK351; replace BK365 := hp0 BK365; have HB := n5_; have BK367 := n6_; clear n0_ n1_ n5_ n6_ hp0 hp1 hv; clear hb hbox hg; have nq49 := kO NB367_350; have nq50 := kO NB367_351; have nq51 := kO NB367_365; have zq52 := c2 BK367; have nq53 := kO NB365_350; have nq54 := kO NB365_351; have zq55 := c2 BK365) | ((with_reducible refine gate_callee (f := 9) rfl ?_); refine gL (some 108) Try.func9 #[.agg #[.int .i64 x366000_2, .int .i64 x366001_2], .agg #[.int .i64 ((rd_T24 t352 x101_2).f0), .int .i64 ((rd_T24 t352 x101_2).f1)]] rfl ?_; (with_reducible refine (impl_AddTurns.calls k2 x366000_2 x366001_2 ((rd_T24 t352 x101_2).f0) ((rd_T24 t352 x101_2).f1) t368 t369 t370 _ A43.out).mono ?_); rintro e w56 ⟨rfl, hb⟩; refine ⟨_, rfl, ?_⟩; have n0_ := Am (Kd.R_below (by (with_reducible repeat (first | apply Kd.R_alloc | apply Kd.R_drewN | apply Kd.R_drew)); exact (Kd.R_mono (Kd.R_far (p := ⟨gb367, 1, none⟩) (Kd.R_far (p := ⟨gb367, 0, none⟩) (Kd.R_mono HO_9.out (fun k_ hk => (⟨hk, hk.2⟩ : _ ∧ k_ ≠ gb367))) (fun _ hk => hk.2) (.int .i64 ((rd_T24 t352 x101_2).f0))) (fun _ hk => hk.2) (.int .i64 ((rd_T24 t352 x101_2).f1))) (fun _ h_ => h_.1))) hb); have n1_ := Am (Kd.R_below (by (with_reducible repeat (first | apply Kd.R_alloc | apply Kd.R_drewN | apply Kd.R_drew)); exact (Kd.R_mono (Kd.R_far (p := ⟨gb367, 1, none⟩) (Kd.R_far (p := ⟨gb367, 0, none⟩) (Kd.R_mono HO_99.out (fun k_ hk => (⟨hk, hk.2⟩ : _ ∧ k_ ≠ gb367))) (fun _ hk => hk.2) (.int .i64 ((rd_T24 t352 x101_2).f0))) (fun _ hk => hk.2) (.int .i64 ((rd_T24 t352 x101_2).f1))) (fun _ h_ => h_.1))) hb); have hp0 := pB gb367 BK350 hb; have n5_ := Am (kB (g := gb367) (o := .cells #[.int .i64 ((rd_T24 t352 x101_2).f0), .int .i64 ((rd_T24 t352 x101_2).f1)] 24 (0, 0)) (by (with_reducible repeat (first | refine kN ?_ _ | refine kD ?_ | refine kA ?_ _)); refine kP (cs := #[.int .i64 ((rd_T24 t352 x101_2).f0), .int .i64 0]) ?_ 1 _ rfl; (with_reducible repeat (first | refine kN ?_ _ | refine kD ?_ | refine kA ?_ _)); refine kP (cs := #[.int .i64 0, .int .i64 0]) ?_ 0 _ rfl; (with_reducible repeat (first | refine kN ?_ _ | refine kD ?_ | refine kA ?_ _)); exact BK367.out) hb); have hv := vK HB hb; have n6_ := Am (bT hv hb); clear HO_9; clear HO_99; clear BK367; clear HB; have HO_9 := n0_; have HO_99 := n1_; replace BK350 := hp0 NB350_367 BK350; replace BK351 := hp0 NB351_367 BK351; replace BK365 := hp0 NB365_367 BK365; have BK367 := n5_; have HB := n6_; clear n0_ n1_ n5_ n6_ hp0 hv; (try clear hb); (try clear hk)) | ((with_reducible refine gate_dst (N := 23) rfl ?_); refine bE 23 #[.int .i64 0, .int .i64 0] 24 ?_; intro gb371 hg w57 hbox hb; have n0_ := Am (Kd.R_below (Kd.R_elderB (kW HO_9) gb371 (Nat.le_of_eq hg.symm)) hb); have n1_ := Am (Kd.R_below (Kd.R_elderB (kW HO_99) gb371 (Nat.le_of_eq hg.symm)) hb); have hp0 := pA BK350 hb; have hv := vK HB hb; have n6_ := Am (bT hv hb); have n7_ := Am (hbox); have GW371 := kG hg hv; have GE371 := kG hg hv; have hp1 := pK BK350 hb; obtain ⟨NB350_371, NB371_350⟩ := kXY hg hp1 BK350; obtain ⟨NB351_371, NB371_351⟩ := kXY hg hp1 BK351; obtain ⟨NB365_371, NB371_365⟩ := kXY hg hp1 BK365; obtain ⟨NB367_371, NB371_367⟩ := kXY hg hp1 BK367; clear HO_9; clear HO_99; clear HB; have HO_9 := n0_; have HO_99 := n1_; replace BK350 := hp0 BK350; replace BK351 := hp0 BK351; replace BK365 := hp0 BK365; replace BK367 := hp0 BK367; have HB := n6_; have BK371 := n7_; clear n0_ n1_ n6_ n7_ hp0 hp1 hv; clear hb hbox hg; have nq58 := kO NB371_350; have nq59 := kO NB371_351; have nq60 := kO NB371_365; have nq61 := kO NB371_367; have hcz62_0 : w57.cell? ⟨gb371, 0, none⟩ = some (.int .i64 0) := (kC BK371.out 0).trans rfl; have hcz62_1 : w57.cell? ⟨gb371, 1, none⟩ = some (.int .i64 0) := (kC BK371.out 1).trans rfl; have hfz62_0 := kF BK371.out 0; have hfz62_1 := kF BK371.out 1; have zq63 := c2 BK365))
           have n0_ : Aside0 (Kd.R k24 24 ((((w57.setCell ⟨gb371, 0, none⟩ (.int .i64 t368)).setCell ⟨gb371, 1, none⟩ (.int .i64 t369)).setCell ⟨gb365, 0, none⟩ (.int .i64 t368)).setCell ⟨gb365, 1, none⟩ (.int .i64 t369)) w.heap.size (fun k_ => k_ ≠ gb350 ∧ k_ ≠ gb365 ∧ k_ ≠ gb367 ∧ k_ ≠ gb371) (.slice (some ad366) t352.length co35) t352) := ⟨by (with_reducible repeat (first | apply Kd.R_alloc | apply Kd.R_drewN | apply Kd.R_drew)); exact Kd.R_mono (Kd.R_far (p := ⟨gb365, 1, none⟩) (Kd.R_far (p := ⟨gb365, 0, none⟩) (Kd.R_far (p := ⟨gb371, 1, none⟩) (Kd.R_far (p := ⟨gb371, 0, none⟩) (Kd.R_mono (Kd.R_mono HO_9.out (fun k_ hk => (⟨hk, hk.2⟩ : _ ∧ k_ ≠ gb371))) (fun k_ hk => (⟨hk, hk.1.1.1.2⟩ : _ ∧ k_ ≠ gb365))) (fun _ hk => hk.1.2) (.int .i64 t368)) (fun _ hk => hk.1.2) (.int .i64 t369)) (fun _ hk => hk.2) (.int .i64 t368)) (fun _ hk => hk.2) (.int .i64 t369)) (fun _ hk => ⟨hk.1.1.1.1.1, ⟨hk.1.1.1.1.2, ⟨hk.1.1.1.2, hk.1.1.2⟩⟩⟩)⟩
           have n1_ : Aside0 (Kd.R k24 24 ((((w57.setCell ⟨gb371, 0, none⟩ (.int .i64 t368)).setCell ⟨gb371, 1, none⟩ (.int .i64 t369)).setCell ⟨gb365, 0, none⟩ (.int .i64 t368)).setCell ⟨gb365, 1, none⟩ (.int .i64 t369)) w.heap.size (fun k_ => k_ ≠ gb350 ∧ k_ ≠ gb365 ∧ k_ ≠ gb367 ∧ k_ ≠ gb371) (.slice (some ad366) t352.length co35) t352) := ⟨by (with_reducible repeat (first | apply Kd.R_alloc | apply Kd.R_drewN | apply Kd.R_drew)); exact Kd.R_mono (Kd.R_far (p := ⟨gb365, 1, none⟩) (Kd.R_far (p := ⟨gb365, 0, none⟩) (Kd.R_far (p := ⟨gb371, 1, none⟩) (Kd.R_far (p := ⟨gb371, 0, none⟩) (Kd.R_mono (Kd.R_mono HO_99.out (fun k_ hk => (⟨hk, hk.2⟩ : _ ∧ k_ ≠ gb371))) (fun k_ hk => (⟨hk, hk.1.1.1.2⟩ : _ ∧ k_ ≠ gb365))) (fun _ hk => hk.1.2) (.int .i64 t368)) (fun _ hk => hk.1.2) (.int .i64 t369)) (fun _ hk => hk.2) (.int .i64 t368)) (fun _ hk => hk.2) (.int .i64 t369)) (fun _ hk => ⟨hk.1.1.1.1.1, ⟨hk.1.1.1.1.2, ⟨hk.1.1.1.2, hk.1.1.2⟩⟩⟩)⟩
           have n2_ : Aside0 (((((w57.setCell ⟨gb371, 0, none⟩ (.int .i64 t368)).setCell ⟨gb371, 1, none⟩ (.int .i64 t369)).setCell ⟨gb365, 0, none⟩ (.int .i64 t368)).setCell ⟨gb365, 1, none⟩ (.int .i64 t369)).heap[gb350]? = some (.cells #[.int .i64 a1_0, .int .i64 a1_1] 24 (0, 0))) := ⟨by (with_reducible repeat (first | refine kN ?_ _ | refine kD ?_ | refine kA ?_ _)); refine kR ?_ NB350_365.out _; (with_reducible repeat (first | refine kN ?_ _ | refine kD ?_ | refine kA ?_ _)); refine kR ?_ NB350_365.out _; (with_reducible repeat (first | refine kN ?_ _ | refine kD ?_ | refine kA ?_ _)); refine kR ?_ NB350_371.out _; (with_reducible repeat (first | refine kN ?_ _ | refine kD ?_ | refine kA ?_ _)); refine kR ?_ NB350_371.out _; (with_reducible repeat (first | refine kN ?_ _ | refine kD ?_ | refine kA ?_ _)); exact BK350.out⟩
           have n3_ : Aside0 (((((w57.setCell ⟨gb371, 0, none⟩ (.int .i64 t368)).setCell ⟨gb371, 1, none⟩ (.int .i64 t369)).setCell ⟨gb365, 0, none⟩ (.int .i64 t368)).setCell ⟨gb365, 1, none⟩ (.int .i64 t369)).heap[gb351]? = some (.cells #[.int .i64 a3_0, .int .i64 a3_1, .int .i64 a3_2] 26 (0, 0))) := ⟨by (with_reducible repeat (first | refine kN ?_ _ | refine kD ?_ | refine kA ?_ _)); refine kR ?_ NB351_365.out _; (with_reducible repeat (first | refine kN ?_ _ | refine kD ?_ | refine kA ?_ _)); refine kR ?_ NB351_365.out _; (with_reducible repeat (first | refine kN ?_ _ | refine kD ?_ | refine kA ?_ _)); refine kR ?_ NB351_371.out _; (with_reducible repeat (first | refine kN ?_ _ | refine kD ?_ | refine kA ?_ _)); refine kR ?_ NB351_371.out _; (with_reducible repeat (first | refine kN ?_ _ | refine kD ?_ | refine kA ?_ _)); exact BK351.out⟩
           have n4_ : Aside0 (((((w57.setCell ⟨gb371, 0, none⟩ (.int .i64 t368)).setCell ⟨gb371, 1, none⟩ (.int .i64 t369)).setCell ⟨gb365, 0, none⟩ (.int .i64 t368)).setCell ⟨gb365, 1, none⟩ (.int .i64 t369)).heap[gb365]? = some (.cells #[.int .i64 t368, .int .i64 t369] 24 (0, 0))) := ⟨by (with_reducible repeat (first | refine kN ?_ _ | refine kD ?_ | refine kA ?_ _)); refine kP (cs := #[.int .i64 t368, .int .i64 x366001_2]) ?_ 1 _ rfl; (with_reducible repeat (first | refine kN ?_ _ | refine kD ?_ | refine kA ?_ _)); refine kP (cs := #[.int .i64 x366000_2, .int .i64 x366001_2]) ?_ 0 _ rfl; (with_reducible repeat (first | refine kN ?_ _ | refine kD ?_ | refine kA ?_ _)); refine kR ?_ NB365_371.out _; (with_reducible repeat (first | refine kN ?_ _ | refine kD ?_ | refine kA ?_ _)); refine kR ?_ NB365_371.out _; (with_reducible repeat (first | refine kN ?_ _ | refine kD ?_ | refine kA ?_ _)); exact BK365.out⟩
           have n5_ : Aside0 (((((w57.setCell ⟨gb371, 0, none⟩ (.int .i64 t368)).setCell ⟨gb371, 1, none⟩ (.int .i64 t369)).setCell ⟨gb365, 0, none⟩ (.int .i64 t368)).setCell ⟨gb365, 1, none⟩ (.int .i64 t369)).heap[gb367]? = some (.cells #[.int .i64 ((rd_T24 t352 x101_2).f0), .int .i64 ((rd_T24 t352 x101_2).f1)] 24 (0, 0))) := ⟨by (with_reducible repeat (first | refine kN ?_ _ | refine kD ?_ | refine kA ?_ _)); refine kR ?_ NB367_365.out _; (with_reducible repeat (first | refine kN ?_ _ | refine kD ?_ | refine kA ?_ _)); refine kR ?_ NB367_365.out _; (with_reducible repeat (first | refine kN ?_ _ | refine kD ?_ | refine kA ?_ _)); refine kR ?_ NB367_371.out _; (with_reducible repeat (first | refine kN ?_ _ | refine kD ?_ | refine kA ?_ _)); refine kR ?_ NB367_371.out _; (with_reducible repeat (first | refine kN ?_ _ | refine kD ?_ | refine kA ?_ _)); exact BK367.out⟩
           have n6_ : Aside0 (((((w57.setCell ⟨gb371, 0, none⟩ (.int .i64 t368)).setCell ⟨gb371, 1, none⟩ (.int .i64 t369)).setCell ⟨gb365, 0, none⟩ (.int .i64 t368)).setCell ⟨gb365, 1, none⟩ (.int .i64 t369)).heap[gb371]? = some (.cells #[.int .i64 t368, .int .i64 t369] 24 (0, 0))) := ⟨by (with_reducible repeat (first | refine kN ?_ _ | refine kD ?_ | refine kA ?_ _)); refine kR ?_ NB371_365.out _; (with_reducible repeat (first | refine kN ?_ _ | refine kD ?_ | refine kA ?_ _)); refine kR ?_ NB371_365.out _; (with_reducible repeat (first | refine kN ?_ _ | refine kD ?_ | refine kA ?_ _)); refine kP (cs := #[.int .i64 t368, .int .i64 0]) ?_ 1 _ rfl; (with_reducible repeat (first | refine kN ?_ _ | refine kD ?_ | refine kA ?_ _)); refine kP (cs := #[.int .i64 0, .int .i64 0]) ?_ 0 _ rfl; (with_reducible repeat (first | refine kN ?_ _ | refine kD ?_ | refine kA ?_ _)); exact BK371.out⟩
           have n7_ : Aside0 (Below w.heap.size w ((((w57.setCell ⟨gb371, 0, none⟩ (.int .i64 t368)).setCell ⟨gb371, 1, none⟩ (.int .i64 t369)).setCell ⟨gb365, 0, none⟩ (.int .i64 t368)).setCell ⟨gb365, 1, none⟩ (.int .i64 t369))) := ⟨by repeat (first | (with_reducible first | exact HB.out | apply bA | apply bN | apply bD | refine bX ?_ (by assumption)) | exact HB.out)⟩
           (try clear HO_9)
           (try clear HO_99)
           (try clear BK350)
           (try clear BK351)
           (try clear BK365)
           (try clear BK367)
           (try clear BK371)
           (try clear HB)
           generalize ((((w57.setCell ⟨gb371, 0, none⟩ (.int .i64 t368)).setCell ⟨gb371, 1, none⟩ (.int .i64 t369)).setCell ⟨gb365, 0, none⟩ (.int .i64 t368)).setCell ⟨gb365, 1, none⟩ (.int .i64 t369)) = w64 at n0_ n1_ n2_ n3_ n4_ n5_ n6_ n7_ ⊢
           have HO_9 := n0_; have HO_99 := n1_; have BK350 := n2_; have BK351 := n3_; have BK365 := n4_; have BK367 := n5_; have BK371 := n6_; have HB := n7_
           clear n0_ n1_ n2_ n3_ n4_ n5_ n6_ n7_
           have H := HX_.out
           clear HX_
           by_cases c45 : x20_2 = true
           ·subst c45
            have H1 : (if 0 < (t352.length : Int) then (if t370 = true then (laws_FnHandsSpreadOfAll.l0 k2 a2 t352 t360 (l0.length : Int) t370 (((rd_T24 t352 x101_2).f0) == ((rd_T24 t352 0).f0) && (((rd_T24 t352 x101_2).f1) == ((rd_T24 t352 0).f1))) t352 (t352.length : Int) (wrap64 (x101_2 + 1)) a3_0 a3_1 a3_2 t368 t369) else (if t360 = true then (if (l0.length : Int) > 1 then (if (!(((rd_T24 t352 0).f0) == 1) || (!(((rd_T24 t352 0).f1) == (l0.length : Int)))) = true then (some false) else (if (l0.length : Int) = 1 then (laws_FnHandsSpreadOfAll.j2 k2 a2 a3_0 a3_1 a3_2) else (laws_FnHandsSpreadOfAll.j2 k2 a2 a3_0 a3_1 a3_2))) else (if (l0.length : Int) = 1 then (laws_FnHandsSpreadOfAll.j2 k2 a2 a3_0 a3_1 a3_2) else (laws_FnHandsSpreadOfAll.j2 k2 a2 a3_0 a3_1 a3_2))) else (if (l0.length : Int) = 1 then (some false) else (laws_FnHandsSpreadOfAll.j2 k2 a2 a3_0 a3_1 a3_2)))) else (none)) = some r := by rw [if_pos rfl] at H; exact H
            clear H
            have H := H1
            clear H1
            by_cases c46 : 0 < (t352.length : Int)
            ·rw [if_pos c46] at H
             have c46b0 : decide (0 < (t352.length : Int)) = true := decide_eq_true c46
             have c46b1 : decide (0 < t352.length) = true := decide_eq_true (by omega)
             clear c46
             by_cases c47 : t370 = true
             ·subst c47
              have H1 : (laws_FnHandsSpreadOfAll.l0 k2 a2 t352 t360 (l0.length : Int) true (((rd_T24 t352 x101_2).f0) == ((rd_T24 t352 0).f0) && (((rd_T24 t352 x101_2).f1) == ((rd_T24 t352 0).f1))) t352 (t352.length : Int) (wrap64 (x101_2 + 1)) a3_0 a3_1 a3_2 t368 t369) = some r := by rw [if_pos rfl] at H; exact H
              clear H
              have H := H1
              clear H1
              as_aux_lemma =>
               have H' := Am H
               clear H
               have n0_ := Am (Kd.R_drew HO_9.out)
               have n1_ := Am (Kd.R_drew HO_99.out)
               have n2_ := Am (kD BK350.out)
               have n3_ := Am (kD BK351.out)
               have n4_ := Am (kD BK365.out)
               have n5_ := Am (kD BK367.out)
               have n6_ := Am (kD BK371.out)
               have n7_ := Am (bD HB.out)
               clear HO_9 HO_99 BK350 BK351 BK365 BK367 BK371 HB
               have HO_9 := n0_; have HO_99 := n1_; have BK350 := n2_; have BK351 := n3_; have BK365 := n4_; have BK367 := n5_; have BK371 := n6_; have HB := n7_
               clear n0_ n1_ n2_ n3_ n4_ n5_ n6_ n7_
               have p372 : 0 ≤ (0 : Int) := (by omega)
               have q372 : 0 < (t352.length : Int) := of_decide_eq_true (by first | (with_reducible assumption) | assumption)
               obtain ⟨ad372, e372, hx372_0, hx372_1⟩ := at_T24 (Kd.R_reads' HO_9.out).2.2 0 p372 q372
               obtain rfl : ad366 = ad372 := (by injection e372)
               have qi372 : (0 < t352.length) = True := eq_true (by omega)
               (try rw [show ((0 : Int)).toNat = 0 from rfl] at hx372_0)
               (try rw [show 0 * 2 = 0 from rfl] at hx372_0)
               (try rw [Addr.add_zero'] at hx372_0)
               (try rw [show ((0 : Int)).toNat = 0 from rfl] at hx372_1)
               (try rw [show 0 * 2 = 0 from rfl] at hx372_1)
               (try rw [Addr.add_zero'] at hx372_1)
               replace p372 := eq_true p372
               replace q372 := eq_true q372
               refine start_ (n := 9) (S := fun w' => w'.cell? ⟨gb367, 0, none⟩ = some (.int .i64 ((rd_T24 t352 x101_2).f0)) ∧ w'.cell? ⟨gb367, 1, none⟩ = some (.int .i64 ((rd_T24 t352 x101_2).f1)) ∧ w'.cell? ad366 = some (.int .i64 ((rd_T24 t352 0).f0)) ∧ w'.cell? ⟨ad366.block, ad366.off + 1, none⟩ = some (.int .i64 ((rd_T24 t352 0).f1))) (ds := []) (pT 9 0) (by kernel_rfl) rfl rfl ⟨c20 BK367.out, c21 BK367.out, hx372_0, hx372_1⟩ (fun hHeld => ?_); refine with_tabW laws_FnHandsSpreadOfAll.tab22 laws_FnHandsSpreadOfAll.bits22 (fun HT_ HW_ => ?_)
               generalize w64.drew = w65 at HO_9 HO_99 BK350 BK351 BK365 BK367 BK371 HB hx372_0 hx372_1 hHeld ⊢
               iterate 2
                refine pI (v := ?_) (a' := ?_) rfl (any_of HT_.out (by kernel_rfl)) (fun _ _ _ h => h) (Or.inl ⟨by rfl, ?_⟩) ?_ ?_
                rotate_left
                ·intro w'
                 go_simp
                 with_reducible rfl
                rotate_left
                ·show Act.put _ (some _) _ = _
                 simp only [Act.put, List.setIfInBounds_toArray, List.set_cons_zero, List.set_cons_succ, i64_w, i32_w]
                 rfl
               refine pure_ (i := 3) (N := some 119) (v := ?_) (a' := ?_) #[true, true, false, true, false, false, false, false, false] rfl rfl (any_of HT_.out (by kernel_rfl)) (fun _ _ _ h => h) (Or.inl ⟨by rfl, ?_⟩) ?_ ?_
               rotate_left
               ·intro w'
                go_simp
                with_reducible rfl
               rotate_left
               ·simp only [Act.put, List.setIfInBounds_toArray, List.set_cons_zero, List.set_cons_succ, i64_w, i32_w]
                rfl
               refine pure_ (i := 4) (N := some 120) (v := ?_) (a' := ?_) #[true, true, false, true, true, false, false, false, false] rfl rfl (any_of HT_.out (by kernel_rfl)) (fun _ _ _ h => h) (Or.inl ⟨by rfl, ?_⟩) ?_ ?_
               rotate_left
               ·intro w'
                go_simp
                with_reducible rfl
               rotate_left
               ·simp only [Act.put, List.setIfInBounds_toArray, List.set_cons_zero, List.set_cons_succ, i64_w, i32_w]
                rfl
               refine take_ (i := 2) (N := some 118) (v := ?_) (a' := ?_) (pT 9 5) rfl rfl (take_ofW HT_.out HW_.out (by kernel_rfl)) (fun _ _ _ h => h) (Or.inl ⟨by rfl, ?_⟩) hHeld ?_ ?_
               rotate_left
               ·rintro w' ⟨s0, s1, s2, s3⟩
                go_simp
                with_reducible rfl
               rotate_left
               ·simp only [Act.put, List.setIfInBounds_toArray, List.set_cons_zero, List.set_cons_succ, i64_w, i32_w]
                rfl
               iterate 4
                first
                | refine pI (v := ?_) (a' := ?_) rfl (any_of HT_.out (by kernel_rfl)) (fun _ _ _ h => h) (Or.inl ⟨by rfl, ?_⟩) ?_ ?_
                  rotate_left
                  ·intro w'
                   go_simp
                   with_reducible rfl
                  rotate_left
                  ·show Act.put _ (some _) _ = _
                   simp only [Act.put, List.setIfInBounds_toArray, List.set_cons_zero, List.set_cons_succ, i64_w, i32_w]
                   rfl
                | refine tI (v := ?_) (a' := ?_) rfl (take_ofW HT_.out HW_.out (by kernel_rfl)) (fun _ _ _ h => h) (Or.inl ⟨by rfl, ?_⟩) hHeld ?_ ?_
                  rotate_left
                  ·rintro w' ⟨s0, s1, s2, s3⟩
                   go_simp
                   with_reducible rfl
                  rotate_left
                  ·show Act.put _ (some _) _ = _
                   simp only [Act.put, List.setIfInBounds_toArray, List.set_cons_zero, List.set_cons_succ, i64_w, i32_w]
                   rfl
               refine done_ (done_of HT_.out (by kernel_rfl)) ?_
               try go_wp2
               go_roundg k2
               case measure => have := HJ11.out; have := HK2.out; omega
               case rel =>
                refine ⟨(true), ((((rd_T24 t352 x101_2).f0) == ((rd_T24 t352 0).f0) && (((rd_T24 t352 x101_2).f1) == ((rd_T24 t352 0).f1)))), (wrap64 (x101_2 + 1)), (t368), (t369), (by first | rfl | (simp; done) | (simp [*]; done)), ⟨rfl⟩, (by first | rfl | (simp; done) | (simp [*]; done)), (by first | rfl | (simp; done) | (simp [*]; done)), H', ⟨by have := HJ11.out; have := HK2.out; omega⟩, ⟨by (with_reducible repeat (first | apply Kd.R_alloc | apply Kd.R_drewN | apply Kd.R_drew)); exact Kd.R_mono HO_9.out (fun _ hk => ⟨hk.1, hk.2.1⟩)⟩, ⟨by (with_reducible repeat (first | apply Kd.R_alloc | apply Kd.R_drewN | apply Kd.R_drew)); exact Kd.R_mono HO_99.out (fun _ hk => ⟨hk.1, hk.2.1⟩)⟩, ⟨?_⟩, ⟨?_⟩, ⟨?_⟩, ⟨by repeat (first | (with_reducible first | exact HB.out | apply bA | apply bN | apply bD | refine bX ?_ (by assumption)) | exact HB.out)⟩⟩
                all_goals ((with_reducible repeat (first | refine kN ?_ _ | refine kD ?_ | refine kA ?_ _)); exact Aside0.out (by assumption))
             replace c47 := Bool.eq_false_iff.mpr c47
             subst c47
             have H1 : (if t360 = true then (if (l0.length : Int) > 1 then (if (!(((rd_T24 t352 0).f0) == 1) || (!(((rd_T24 t352 0).f1) == (l0.length : Int)))) = true then (some false) else (if (l0.length : Int) = 1 then (laws_FnHandsSpreadOfAll.j2 k2 a2 a3_0 a3_1 a3_2) else (laws_FnHandsSpreadOfAll.j2 k2 a2 a3_0 a3_1 a3_2))) else (if (l0.length : Int) = 1 then (laws_FnHandsSpreadOfAll.j2 k2 a2 a3_0 a3_1 a3_2) else (laws_FnHandsSpreadOfAll.j2 k2 a2 a3_0 a3_1 a3_2))) else (if (l0.length : Int) = 1 then (some false) else (laws_FnHandsSpreadOfAll.j2 k2 a2 a3_0 a3_1 a3_2))) = some r := by rw [if_neg (show ¬ (false = true) by decide)] at H; exact H
             clear H
             have H := H1
             clear H1
             by_cases c66 : t360 = true
             ·subst c66
              have H1 : (if (l0.length : Int) > 1 then (if (!(((rd_T24 t352 0).f0) == 1) || (!(((rd_T24 t352 0).f1) == (l0.length : Int)))) = true then (some false) else (if (l0.length : Int) = 1 then (laws_FnHandsSpreadOfAll.j2 k2 a2 a3_0 a3_1 a3_2) else (laws_FnHandsSpreadOfAll.j2 k2 a2 a3_0 a3_1 a3_2))) else (if (l0.length : Int) = 1 then (laws_FnHandsSpreadOfAll.j2 k2 a2 a3_0 a3_1 a3_2) else (laws_FnHandsSpreadOfAll.j2 k2 a2 a3_0 a3_1 a3_2))) = some r := by rw [if_pos rfl] at H; exact H
              clear H
              have H := H1
              clear H1
              by_cases c67 : (l0.length : Int) > 1
              ·rw [if_pos c67] at H
               have c67b0 : decide (1 < (l0.length : Int)) = true := decide_eq_true c67
               have c67b1 : decide (1 < l0.length) = true := decide_eq_true (by omega)
               clear c67
               by_cases c68 : (!(((rd_T24 t352 0).f0) == 1) || (!(((rd_T24 t352 0).f1) == (l0.length : Int)))) = true
               ·rw [if_pos c68] at H
                have c68b0 : (!(((rd_T24 t352 0).f0) == 1) || (!(((rd_T24 t352 0).f1) == (l0.length : Int)))) = true := c68
                clear c68
                as_aux_lemma =>
                 exact absurd ((Option.some.inj H).trans hlaw.out) (by decide)
               rw [if_neg c68] at H
               have c68b0 : (!(((rd_T24 t352 0).f0) == 1) || (!(((rd_T24 t352 0).f1) == (l0.length : Int)))) = false := by simpa using c68
               clear c68
               by_cases c69 : (l0.length : Int) = 1
               ·rw [if_pos c69] at H
                have c69b0 : ((l0.length : Int) == 1) = true := beq_iff_eq.mpr c69
                have c69b1 : ((l0.length : Int) != 1) = false := bne_eq_false_iff_eq.mpr c69
                clear c69
                as_aux_lemma =>
                 have H' := Am H
                 clear H
                 have n0_ := Am (Kd.R_drew HO_9.out)
                 have n1_ := Am (Kd.R_drew HO_99.out)
                 have n2_ := Am (kD BK350.out)
                 have n3_ := Am (kD BK351.out)
                 have n4_ := Am (kD BK365.out)
                 have n5_ := Am (kD BK367.out)
                 have n6_ := Am (kD BK371.out)
                 have n7_ := Am (bD HB.out)
                 clear HO_9 HO_99 BK350 BK351 BK365 BK367 BK371 HB
                 have HO_9 := n0_; have HO_99 := n1_; have BK350 := n2_; have BK351 := n3_; have BK365 := n4_; have BK367 := n5_; have BK371 := n6_; have HB := n7_
                 clear n0_ n1_ n2_ n3_ n4_ n5_ n6_ n7_
                 have p372 : 0 ≤ (0 : Int) := (by omega)
                 have q372 : 0 < (t352.length : Int) := of_decide_eq_true (by first | (with_reducible assumption) | assumption)
                 obtain ⟨ad372, e372, hx372_0, hx372_1⟩ := at_T24 (Kd.R_reads' HO_9.out).2.2 0 p372 q372
                 obtain rfl : ad366 = ad372 := (by injection e372)
                 have qi372 : (0 < t352.length) = True := eq_true (by omega)
                 (try rw [show ((0 : Int)).toNat = 0 from rfl] at hx372_0)
                 (try rw [show 0 * 2 = 0 from rfl] at hx372_0)
                 (try rw [Addr.add_zero'] at hx372_0)
                 (try rw [show ((0 : Int)).toNat = 0 from rfl] at hx372_1)
                 (try rw [show 0 * 2 = 0 from rfl] at hx372_1)
                 (try rw [Addr.add_zero'] at hx372_1)
                 replace p372 := eq_true p372
                 replace q372 := eq_true q372
                 refine start_ (n := 9) (S := fun w' => w'.cell? ⟨gb367, 0, none⟩ = some (.int .i64 ((rd_T24 t352 x101_2).f0)) ∧ w'.cell? ⟨gb367, 1, none⟩ = some (.int .i64 ((rd_T24 t352 x101_2).f1)) ∧ w'.cell? ad366 = some (.int .i64 ((rd_T24 t352 0).f0)) ∧ w'.cell? ⟨ad366.block, ad366.off + 1, none⟩ = some (.int .i64 ((rd_T24 t352 0).f1))) (ds := []) (pT 9 0) (by kernel_rfl) rfl rfl ⟨c20 BK367.out, c21 BK367.out, hx372_0, hx372_1⟩ (fun hHeld => ?_); refine with_tabW laws_FnHandsSpreadOfAll.tab22 laws_FnHandsSpreadOfAll.bits22 (fun HT_ HW_ => ?_)
                 generalize w64.drew = w87 at HO_9 HO_99 BK350 BK351 BK365 BK367 BK371 HB hx372_0 hx372_1 hHeld ⊢
                 iterate 2
                  refine pI (v := ?_) (a' := ?_) rfl (any_of HT_.out (by kernel_rfl)) (fun _ _ _ h => h) (Or.inl ⟨by rfl, ?_⟩) ?_ ?_
                  rotate_left
                  ·intro w'
                   go_simp
                   with_reducible rfl
                  rotate_left
                  ·show Act.put _ (some _) _ = _
                   simp only [Act.put, List.setIfInBounds_toArray, List.set_cons_zero, List.set_cons_succ, i64_w, i32_w]
                   rfl
                 refine pure_ (i := 3) (N := some 119) (v := ?_) (a' := ?_) #[true, true, false, true, false, false, false, false, false] rfl rfl (any_of HT_.out (by kernel_rfl)) (fun _ _ _ h => h) (Or.inl ⟨by rfl, ?_⟩) ?_ ?_
                 rotate_left
                 ·intro w'
                  go_simp
                  with_reducible rfl
                 rotate_left
                 ·simp only [Act.put, List.setIfInBounds_toArray, List.set_cons_zero, List.set_cons_succ, i64_w, i32_w]
                  rfl
                 refine pure_ (i := 4) (N := some 120) (v := ?_) (a' := ?_) #[true, true, false, true, true, false, false, false, false] rfl rfl (any_of HT_.out (by kernel_rfl)) (fun _ _ _ h => h) (Or.inl ⟨by rfl, ?_⟩) ?_ ?_
                 rotate_left
                 ·intro w'
                  go_simp
                  with_reducible rfl
                 rotate_left
                 ·simp only [Act.put, List.setIfInBounds_toArray, List.set_cons_zero, List.set_cons_succ, i64_w, i32_w]
                  rfl
                 refine take_ (i := 2) (N := some 118) (v := ?_) (a' := ?_) (pT 9 5) rfl rfl (take_ofW HT_.out HW_.out (by kernel_rfl)) (fun _ _ _ h => h) (Or.inl ⟨by rfl, ?_⟩) hHeld ?_ ?_
                 rotate_left
                 ·rintro w' ⟨s0, s1, s2, s3⟩
                  go_simp
                  with_reducible rfl
                 rotate_left
                 ·simp only [Act.put, List.setIfInBounds_toArray, List.set_cons_zero, List.set_cons_succ, i64_w, i32_w]
                  rfl
                 iterate 4
                  first
                  | refine pI (v := ?_) (a' := ?_) rfl (any_of HT_.out (by kernel_rfl)) (fun _ _ _ h => h) (Or.inl ⟨by rfl, ?_⟩) ?_ ?_
                    rotate_left
                    ·intro w'
                     go_simp
                     with_reducible rfl
                    rotate_left
                    ·show Act.put _ (some _) _ = _
                     simp only [Act.put, List.setIfInBounds_toArray, List.set_cons_zero, List.set_cons_succ, i64_w, i32_w]
                     rfl
                  | refine tI (v := ?_) (a' := ?_) rfl (take_ofW HT_.out HW_.out (by kernel_rfl)) (fun _ _ _ h => h) (Or.inl ⟨by rfl, ?_⟩) hHeld ?_ ?_
                    rotate_left
                    ·rintro w' ⟨s0, s1, s2, s3⟩
                     go_simp
                     with_reducible rfl
                    rotate_left
                    ·show Act.put _ (some _) _ = _
                     simp only [Act.put, List.setIfInBounds_toArray, List.set_cons_zero, List.set_cons_succ, i64_w, i32_w]
                     rfl
                 refine done_ (done_of HT_.out (by kernel_rfl)) ?_
                 have p373 : 0 ≤ (0 : Int) := (by omega)
                 have q373 : 0 < (t352.length : Int) := of_decide_eq_true (by first | (with_reducible assumption) | assumption)
                 obtain ⟨ad373, e373, hx373_0, hx373_1⟩ := at_T24 (Kd.R_reads' HO_9.out).2.2 0 p373 q373
                 obtain rfl : ad366 = ad373 := (by injection e373)
                 have qi373 : (0 < t352.length) = True := eq_true (by omega)
                 (try rw [show ((0 : Int)).toNat = 0 from rfl] at hx373_0)
                 (try rw [show 0 * 2 = 0 from rfl] at hx373_0)
                 (try rw [Addr.add_zero'] at hx373_0)
                 (try rw [show ((0 : Int)).toNat = 0 from rfl] at hx373_1)
                 (try rw [show 0 * 2 = 0 from rfl] at hx373_1)
                 (try rw [Addr.add_zero'] at hx373_1)
                 replace p373 := eq_true p373
                 replace q373 := eq_true q373
                 try go_wp2
                 go_meet
                 case rel => exact ⟨_, H', ⟨by have := HJ11.out; have := HK2.out; first | omega | exact Nat.le_refl _⟩, kV BK350, kV BK351, ⟨by repeat (first | (with_reducible first | exact HB.out | apply bA | apply bN | apply bD | refine bX ?_ (by assumption)) | exact HB.out)⟩⟩
               rw [if_neg c69] at H
               have c69b0 : ((l0.length : Int) == 1) = false := beq_eq_false_iff_ne.mpr c69
               have c69b1 : ((l0.length : Int) != 1) = true := bne_iff_ne.mpr c69
               as_aux_lemma =>
                have H' := Am H
                clear H
                have n0_ := Am (Kd.R_drew HO_9.out)
                have n1_ := Am (Kd.R_drew HO_99.out)
                have n2_ := Am (kD BK350.out)
                have n3_ := Am (kD BK351.out)
                have n4_ := Am (kD BK365.out)
                have n5_ := Am (kD BK367.out)
                have n6_ := Am (kD BK371.out)
                have n7_ := Am (bD HB.out)
                clear HO_9 HO_99 BK350 BK351 BK365 BK367 BK371 HB
                have HO_9 := n0_; have HO_99 := n1_; have BK350 := n2_; have BK351 := n3_; have BK365 := n4_; have BK367 := n5_; have BK371 := n6_; have HB := n7_
                clear n0_ n1_ n2_ n3_ n4_ n5_ n6_ n7_
                have p372 : 0 ≤ (0 : Int) := (by omega)
                have q372 : 0 < (t352.length : Int) := of_decide_eq_true (by first | (with_reducible assumption) | assumption)
                obtain ⟨ad372, e372, hx372_0, hx372_1⟩ := at_T24 (Kd.R_reads' HO_9.out).2.2 0 p372 q372
                obtain rfl : ad366 = ad372 := (by injection e372)
                have qi372 : (0 < t352.length) = True := eq_true (by omega)
                (try rw [show ((0 : Int)).toNat = 0 from rfl] at hx372_0)
                (try rw [show 0 * 2 = 0 from rfl] at hx372_0)
                (try rw [Addr.add_zero'] at hx372_0)
                (try rw [show ((0 : Int)).toNat = 0 from rfl] at hx372_1)
                (try rw [show 0 * 2 = 0 from rfl] at hx372_1)
                (try rw [Addr.add_zero'] at hx372_1)
                replace p372 := eq_true p372
                replace q372 := eq_true q372
                refine start_ (n := 9) (S := fun w' => w'.cell? ⟨gb367, 0, none⟩ = some (.int .i64 ((rd_T24 t352 x101_2).f0)) ∧ w'.cell? ⟨gb367, 1, none⟩ = some (.int .i64 ((rd_T24 t352 x101_2).f1)) ∧ w'.cell? ad366 = some (.int .i64 ((rd_T24 t352 0).f0)) ∧ w'.cell? ⟨ad366.block, ad366.off + 1, none⟩ = some (.int .i64 ((rd_T24 t352 0).f1))) (ds := []) (pT 9 0) (by kernel_rfl) rfl rfl ⟨c20 BK367.out, c21 BK367.out, hx372_0, hx372_1⟩ (fun hHeld => ?_); refine with_tabW laws_FnHandsSpreadOfAll.tab22 laws_FnHandsSpreadOfAll.bits22 (fun HT_ HW_ => ?_)
                generalize w64.drew = w105 at HO_9 HO_99 BK350 BK351 BK365 BK367 BK371 HB hx372_0 hx372_1 hHeld ⊢
                iterate 2
                 refine pI (v := ?_) (a' := ?_) rfl (any_of HT_.out (by kernel_rfl)) (fun _ _ _ h => h) (Or.inl ⟨by rfl, ?_⟩) ?_ ?_
                 rotate_left
                 ·intro w'
                  go_simp
                  with_reducible rfl
                 rotate_left
                 ·show Act.put _ (some _) _ = _
                  simp only [Act.put, List.setIfInBounds_toArray, List.set_cons_zero, List.set_cons_succ, i64_w, i32_w]
                  rfl
                refine pure_ (i := 3) (N := some 119) (v := ?_) (a' := ?_) #[true, true, false, true, false, false, false, false, false] rfl rfl (any_of HT_.out (by kernel_rfl)) (fun _ _ _ h => h) (Or.inl ⟨by rfl, ?_⟩) ?_ ?_
                rotate_left
                ·intro w'
                 go_simp
                 with_reducible rfl
                rotate_left
                ·simp only [Act.put, List.setIfInBounds_toArray, List.set_cons_zero, List.set_cons_succ, i64_w, i32_w]
                 rfl
                refine pure_ (i := 4) (N := some 120) (v := ?_) (a' := ?_) #[true, true, false, true, true, false, false, false, false] rfl rfl (any_of HT_.out (by kernel_rfl)) (fun _ _ _ h => h) (Or.inl ⟨by rfl, ?_⟩) ?_ ?_
                rotate_left
                ·intro w'
                 go_simp
                 with_reducible rfl
                rotate_left
                ·simp only [Act.put, List.setIfInBounds_toArray, List.set_cons_zero, List.set_cons_succ, i64_w, i32_w]
                 rfl
                refine take_ (i := 2) (N := some 118) (v := ?_) (a' := ?_) (pT 9 5) rfl rfl (take_ofW HT_.out HW_.out (by kernel_rfl)) (fun _ _ _ h => h) (Or.inl ⟨by rfl, ?_⟩) hHeld ?_ ?_
                rotate_left
                ·rintro w' ⟨s0, s1, s2, s3⟩
                 go_simp
                 with_reducible rfl
                rotate_left
                ·simp only [Act.put, List.setIfInBounds_toArray, List.set_cons_zero, List.set_cons_succ, i64_w, i32_w]
                 rfl
                iterate 4
                 first
                 | refine pI (v := ?_) (a' := ?_) rfl (any_of HT_.out (by kernel_rfl)) (fun _ _ _ h => h) (Or.inl ⟨by rfl, ?_⟩) ?_ ?_
                   rotate_left
                   ·intro w'
                    go_simp
                    with_reducible rfl
                   rotate_left
                   ·show Act.put _ (some _) _ = _
                    simp only [Act.put, List.setIfInBounds_toArray, List.set_cons_zero, List.set_cons_succ, i64_w, i32_w]
                    rfl
                 | refine tI (v := ?_) (a' := ?_) rfl (take_ofW HT_.out HW_.out (by kernel_rfl)) (fun _ _ _ h => h) (Or.inl ⟨by rfl, ?_⟩) hHeld ?_ ?_
                   rotate_left
                   ·rintro w' ⟨s0, s1, s2, s3⟩
                    go_simp
                    with_reducible rfl
                   rotate_left
                   ·show Act.put _ (some _) _ = _
                    simp only [Act.put, List.setIfInBounds_toArray, List.set_cons_zero, List.set_cons_succ, i64_w, i32_w]
                    rfl
                refine done_ (done_of HT_.out (by kernel_rfl)) ?_
                have p373 : 0 ≤ (0 : Int) := (by omega)
                have q373 : 0 < (t352.length : Int) := of_decide_eq_true (by first | (with_reducible assumption) | assumption)
                obtain ⟨ad373, e373, hx373_0, hx373_1⟩ := at_T24 (Kd.R_reads' HO_9.out).2.2 0 p373 q373
                obtain rfl : ad366 = ad373 := (by injection e373)
                have qi373 : (0 < t352.length) = True := eq_true (by omega)
                (try rw [show ((0 : Int)).toNat = 0 from rfl] at hx373_0)
                (try rw [show 0 * 2 = 0 from rfl] at hx373_0)
                (try rw [Addr.add_zero'] at hx373_0)
                (try rw [show ((0 : Int)).toNat = 0 from rfl] at hx373_1)
                (try rw [show 0 * 2 = 0 from rfl] at hx373_1)
                (try rw [Addr.add_zero'] at hx373_1)
                replace p373 := eq_true p373
                replace q373 := eq_true q373
                try go_wp2
                go_meet
                case rel => exact ⟨_, H', ⟨by have := HJ11.out; have := HK2.out; first | omega | exact Nat.le_refl _⟩, kV BK350, kV BK351, ⟨by repeat (first | (with_reducible first | exact HB.out | apply bA | apply bN | apply bD | refine bX ?_ (by assumption)) | exact HB.out)⟩⟩
              rw [if_neg c67] at H
              have c67b0 : decide (1 < (l0.length : Int)) = false := decide_eq_false c67
              have c67b1 : decide (1 < l0.length) = false := decide_eq_false (by omega)
              clear c67
              by_cases c106 : (l0.length : Int) = 1
              ·rw [if_pos c106] at H
               have c106b0 : ((l0.length : Int) == 1) = true := beq_iff_eq.mpr c106
               have c106b1 : ((l0.length : Int) != 1) = false := bne_eq_false_iff_eq.mpr c106
               clear c106
               as_aux_lemma =>
                have H' := Am H
                clear H
                have n0_ := Am (Kd.R_drew HO_9.out)
                have n1_ := Am (Kd.R_drew HO_99.out)
                have n2_ := Am (kD BK350.out)
                have n3_ := Am (kD BK351.out)
                have n4_ := Am (kD BK365.out)
                have n5_ := Am (kD BK367.out)
                have n6_ := Am (kD BK371.out)
                have n7_ := Am (bD HB.out)
                clear HO_9 HO_99 BK350 BK351 BK365 BK367 BK371 HB
                have HO_9 := n0_; have HO_99 := n1_; have BK350 := n2_; have BK351 := n3_; have BK365 := n4_; have BK367 := n5_; have BK371 := n6_; have HB := n7_
                clear n0_ n1_ n2_ n3_ n4_ n5_ n6_ n7_
                have p372 : 0 ≤ (0 : Int) := (by omega)
                have q372 : 0 < (t352.length : Int) := of_decide_eq_true (by first | (with_reducible assumption) | assumption)
                obtain ⟨ad372, e372, hx372_0, hx372_1⟩ := at_T24 (Kd.R_reads' HO_9.out).2.2 0 p372 q372
                obtain rfl : ad366 = ad372 := (by injection e372)
                have qi372 : (0 < t352.length) = True := eq_true (by omega)
                (try rw [show ((0 : Int)).toNat = 0 from rfl] at hx372_0)
                (try rw [show 0 * 2 = 0 from rfl] at hx372_0)
                (try rw [Addr.add_zero'] at hx372_0)
                (try rw [show ((0 : Int)).toNat = 0 from rfl] at hx372_1)
                (try rw [show 0 * 2 = 0 from rfl] at hx372_1)
                (try rw [Addr.add_zero'] at hx372_1)
                replace p372 := eq_true p372
                replace q372 := eq_true q372
                refine start_ (n := 9) (S := fun w' => w'.cell? ⟨gb367, 0, none⟩ = some (.int .i64 ((rd_T24 t352 x101_2).f0)) ∧ w'.cell? ⟨gb367, 1, none⟩ = some (.int .i64 ((rd_T24 t352 x101_2).f1)) ∧ w'.cell? ad366 = some (.int .i64 ((rd_T24 t352 0).f0)) ∧ w'.cell? ⟨ad366.block, ad366.off + 1, none⟩ = some (.int .i64 ((rd_T24 t352 0).f1))) (ds := []) (pT 9 0) (by kernel_rfl) rfl rfl ⟨c20 BK367.out, c21 BK367.out, hx372_0, hx372_1⟩ (fun hHeld => ?_); refine with_tabW laws_FnHandsSpreadOfAll.tab22 laws_FnHandsSpreadOfAll.bits22 (fun HT_ HW_ => ?_)
                generalize w64.drew = w124 at HO_9 HO_99 BK350 BK351 BK365 BK367 BK371 HB hx372_0 hx372_1 hHeld ⊢
                iterate 2
                 refine pI (v := ?_) (a' := ?_) rfl (any_of HT_.out (by kernel_rfl)) (fun _ _ _ h => h) (Or.inl ⟨by rfl, ?_⟩) ?_ ?_
                 rotate_left
                 ·intro w'
                  go_simp
                  with_reducible rfl
                 rotate_left
                 ·show Act.put _ (some _) _ = _
                  simp only [Act.put, List.setIfInBounds_toArray, List.set_cons_zero, List.set_cons_succ, i64_w, i32_w]
                  rfl
                refine pure_ (i := 3) (N := some 119) (v := ?_) (a' := ?_) #[true, true, false, true, false, false, false, false, false] rfl rfl (any_of HT_.out (by kernel_rfl)) (fun _ _ _ h => h) (Or.inl ⟨by rfl, ?_⟩) ?_ ?_
                rotate_left
                ·intro w'
                 go_simp
                 with_reducible rfl
                rotate_left
                ·simp only [Act.put, List.setIfInBounds_toArray, List.set_cons_zero, List.set_cons_succ, i64_w, i32_w]
                 rfl
                refine pure_ (i := 4) (N := some 120) (v := ?_) (a' := ?_) #[true, true, false, true, true, false, false, false, false] rfl rfl (any_of HT_.out (by kernel_rfl)) (fun _ _ _ h => h) (Or.inl ⟨by rfl, ?_⟩) ?_ ?_
                rotate_left
                ·intro w'
                 go_simp
                 with_reducible rfl
                rotate_left
                ·simp only [Act.put, List.setIfInBounds_toArray, List.set_cons_zero, List.set_cons_succ, i64_w, i32_w]
                 rfl
                refine take_ (i := 2) (N := some 118) (v := ?_) (a' := ?_) (pT 9 5) rfl rfl (take_ofW HT_.out HW_.out (by kernel_rfl)) (fun _ _ _ h => h) (Or.inl ⟨by rfl, ?_⟩) hHeld ?_ ?_
                rotate_left
                ·rintro w' ⟨s0, s1, s2, s3⟩
                 go_simp
                 with_reducible rfl
                rotate_left
                ·simp only [Act.put, List.setIfInBounds_toArray, List.set_cons_zero, List.set_cons_succ, i64_w, i32_w]
                 rfl
                iterate 4
                 first
                 | refine pI (v := ?_) (a' := ?_) rfl (any_of HT_.out (by kernel_rfl)) (fun _ _ _ h => h) (Or.inl ⟨by rfl, ?_⟩) ?_ ?_
                   rotate_left
                   ·intro w'
                    go_simp
                    with_reducible rfl
                   rotate_left
                   ·show Act.put _ (some _) _ = _
                    simp only [Act.put, List.setIfInBounds_toArray, List.set_cons_zero, List.set_cons_succ, i64_w, i32_w]
                    rfl
                 | refine tI (v := ?_) (a' := ?_) rfl (take_ofW HT_.out HW_.out (by kernel_rfl)) (fun _ _ _ h => h) (Or.inl ⟨by rfl, ?_⟩) hHeld ?_ ?_
                   rotate_left
                   ·rintro w' ⟨s0, s1, s2, s3⟩
                    go_simp
                    with_reducible rfl
                   rotate_left
                   ·show Act.put _ (some _) _ = _
                    simp only [Act.put, List.setIfInBounds_toArray, List.set_cons_zero, List.set_cons_succ, i64_w, i32_w]
                    rfl
                refine done_ (done_of HT_.out (by kernel_rfl)) ?_
                try go_wp2
                go_meet
                case rel => exact ⟨_, H', ⟨by have := HJ11.out; have := HK2.out; first | omega | exact Nat.le_refl _⟩, kV BK350, kV BK351, ⟨by repeat (first | (with_reducible first | exact HB.out | apply bA | apply bN | apply bD | refine bX ?_ (by assumption)) | exact HB.out)⟩⟩
              rw [if_neg c106] at H
              have c106b0 : ((l0.length : Int) == 1) = false := beq_eq_false_iff_ne.mpr c106
              have c106b1 : ((l0.length : Int) != 1) = true := bne_iff_ne.mpr c106
              as_aux_lemma =>
               have H' := Am H
               clear H
               have n0_ := Am (Kd.R_drew HO_9.out)
               have n1_ := Am (Kd.R_drew HO_99.out)
               have n2_ := Am (kD BK350.out)
               have n3_ := Am (kD BK351.out)
               have n4_ := Am (kD BK365.out)
               have n5_ := Am (kD BK367.out)
               have n6_ := Am (kD BK371.out)
               have n7_ := Am (bD HB.out)
               clear HO_9 HO_99 BK350 BK351 BK365 BK367 BK371 HB
               have HO_9 := n0_; have HO_99 := n1_; have BK350 := n2_; have BK351 := n3_; have BK365 := n4_; have BK367 := n5_; have BK371 := n6_; have HB := n7_
               clear n0_ n1_ n2_ n3_ n4_ n5_ n6_ n7_
               have p372 : 0 ≤ (0 : Int) := (by omega)
               have q372 : 0 < (t352.length : Int) := of_decide_eq_true (by first | (with_reducible assumption) | assumption)
               obtain ⟨ad372, e372, hx372_0, hx372_1⟩ := at_T24 (Kd.R_reads' HO_9.out).2.2 0 p372 q372
               obtain rfl : ad366 = ad372 := (by injection e372)
               have qi372 : (0 < t352.length) = True := eq_true (by omega)
               (try rw [show ((0 : Int)).toNat = 0 from rfl] at hx372_0)
               (try rw [show 0 * 2 = 0 from rfl] at hx372_0)
               (try rw [Addr.add_zero'] at hx372_0)
               (try rw [show ((0 : Int)).toNat = 0 from rfl] at hx372_1)
               (try rw [show 0 * 2 = 0 from rfl] at hx372_1)
               (try rw [Addr.add_zero'] at hx372_1)
               replace p372 := eq_true p372
               replace q372 := eq_true q372
               refine start_ (n := 9) (S := fun w' => w'.cell? ⟨gb367, 0, none⟩ = some (.int .i64 ((rd_T24 t352 x101_2).f0)) ∧ w'.cell? ⟨gb367, 1, none⟩ = some (.int .i64 ((rd_T24 t352 x101_2).f1)) ∧ w'.cell? ad366 = some (.int .i64 ((rd_T24 t352 0).f0)) ∧ w'.cell? ⟨ad366.block, ad366.off + 1, none⟩ = some (.int .i64 ((rd_T24 t352 0).f1))) (ds := []) (pT 9 0) (by kernel_rfl) rfl rfl ⟨c20 BK367.out, c21 BK367.out, hx372_0, hx372_1⟩ (fun hHeld => ?_); refine with_tabW laws_FnHandsSpreadOfAll.tab22 laws_FnHandsSpreadOfAll.bits22 (fun HT_ HW_ => ?_)
               generalize w64.drew = w142 at HO_9 HO_99 BK350 BK351 BK365 BK367 BK371 HB hx372_0 hx372_1 hHeld ⊢
               iterate 2
                refine pI (v := ?_) (a' := ?_) rfl (any_of HT_.out (by kernel_rfl)) (fun _ _ _ h => h) (Or.inl ⟨by rfl, ?_⟩) ?_ ?_
                rotate_left
                ·intro w'
                 go_simp
                 with_reducible rfl
                rotate_left
                ·show Act.put _ (some _) _ = _
                 simp only [Act.put, List.setIfInBounds_toArray, List.set_cons_zero, List.set_cons_succ, i64_w, i32_w]
                 rfl
               refine pure_ (i := 3) (N := some 119) (v := ?_) (a' := ?_) #[true, true, false, true, false, false, false, false, false] rfl rfl (any_of HT_.out (by kernel_rfl)) (fun _ _ _ h => h) (Or.inl ⟨by rfl, ?_⟩) ?_ ?_
               rotate_left
               ·intro w'
                go_simp
                with_reducible rfl
               rotate_left
               ·simp only [Act.put, List.setIfInBounds_toArray, List.set_cons_zero, List.set_cons_succ, i64_w, i32_w]
                rfl
               refine pure_ (i := 4) (N := some 120) (v := ?_) (a' := ?_) #[true, true, false, true, true, false, false, false, false] rfl rfl (any_of HT_.out (by kernel_rfl)) (fun _ _ _ h => h) (Or.inl ⟨by rfl, ?_⟩) ?_ ?_
               rotate_left
               ·intro w'
                go_simp
                with_reducible rfl
               rotate_left
               ·simp only [Act.put, List.setIfInBounds_toArray, List.set_cons_zero, List.set_cons_succ, i64_w, i32_w]
                rfl
               refine take_ (i := 2) (N := some 118) (v := ?_) (a' := ?_) (pT 9 5) rfl rfl (take_ofW HT_.out HW_.out (by kernel_rfl)) (fun _ _ _ h => h) (Or.inl ⟨by rfl, ?_⟩) hHeld ?_ ?_
               rotate_left
               ·rintro w' ⟨s0, s1, s2, s3⟩
                go_simp
                with_reducible rfl
               rotate_left
               ·simp only [Act.put, List.setIfInBounds_toArray, List.set_cons_zero, List.set_cons_succ, i64_w, i32_w]
                rfl
               iterate 4
                first
                | refine pI (v := ?_) (a' := ?_) rfl (any_of HT_.out (by kernel_rfl)) (fun _ _ _ h => h) (Or.inl ⟨by rfl, ?_⟩) ?_ ?_
                  rotate_left
                  ·intro w'
                   go_simp
                   with_reducible rfl
                  rotate_left
                  ·show Act.put _ (some _) _ = _
                   simp only [Act.put, List.setIfInBounds_toArray, List.set_cons_zero, List.set_cons_succ, i64_w, i32_w]
                   rfl
                | refine tI (v := ?_) (a' := ?_) rfl (take_ofW HT_.out HW_.out (by kernel_rfl)) (fun _ _ _ h => h) (Or.inl ⟨by rfl, ?_⟩) hHeld ?_ ?_
                  rotate_left
                  ·rintro w' ⟨s0, s1, s2, s3⟩
                   go_simp
                   with_reducible rfl
                  rotate_left
                  ·show Act.put _ (some _) _ = _
                   simp only [Act.put, List.setIfInBounds_toArray, List.set_cons_zero, List.set_cons_succ, i64_w, i32_w]
                   rfl
               refine done_ (done_of HT_.out (by kernel_rfl)) ?_
               try go_wp2
               go_meet
               case rel => exact ⟨_, H', ⟨by have := HJ11.out; have := HK2.out; first | omega | exact Nat.le_refl _⟩, kV BK350, kV BK351, ⟨by repeat (first | (with_reducible first | exact HB.out | apply bA | apply bN | apply bD | refine bX ?_ (by assumption)) | exact HB.out)⟩⟩
             replace c66 := Bool.eq_false_iff.mpr c66
             subst c66
             have H1 : (if (l0.length : Int) = 1 then (some false) else (laws_FnHandsSpreadOfAll.j2 k2 a2 a3_0 a3_1 a3_2)) = some r := by rw [if_neg (show ¬ (false = true) by decide)] at H; exact H
             clear H
             have H := H1
             clear H1
             by_cases c143 : (l0.length : Int) = 1
             ·rw [if_pos c143] at H
              have c143b0 : ((l0.length : Int) == 1) = true := beq_iff_eq.mpr c143
              have c143b1 : ((l0.length : Int) != 1) = false := bne_eq_false_iff_eq.mpr c143
              clear c143
              as_aux_lemma =>
               exact absurd ((Option.some.inj H).trans hlaw.out) (by decide)
             rw [if_neg c143] at H
             have c143b0 : ((l0.length : Int) == 1) = false := beq_eq_false_iff_ne.mpr c143
             have c143b1 : ((l0.length : Int) != 1) = true := bne_iff_ne.mpr c143
             as_aux_lemma =>
              have H' := Am H
              clear H
              have n0_ := Am (Kd.R_drew HO_9.out)
              have n1_ := Am (Kd.R_drew HO_99.out)
              have n2_ := Am (kD BK350.out)
              have n3_ := Am (kD BK351.out)
              have n4_ := Am (kD BK365.out)
              have n5_ := Am (kD BK367.out)
              have n6_ := Am (kD BK371.out)
              have n7_ := Am (bD HB.out)
              clear HO_9 HO_99 BK350 BK351 BK365 BK367 BK371 HB
              have HO_9 := n0_; have HO_99 := n1_; have BK350 := n2_; have BK351 := n3_; have BK365 := n4_; have BK367 := n5_; have BK371 := n6_; have HB := n7_
              clear n0_ n1_ n2_ n3_ n4_ n5_ n6_ n7_
              have p372 : 0 ≤ (0 : Int) := (by omega)
              have q372 : 0 < (t352.length : Int) := of_decide_eq_true (by first | (with_reducible assumption) | assumption)
              obtain ⟨ad372, e372, hx372_0, hx372_1⟩ := at_T24 (Kd.R_reads' HO_9.out).2.2 0 p372 q372
              obtain rfl : ad366 = ad372 := (by injection e372)
              have qi372 : (0 < t352.length) = True := eq_true (by omega)
              (try rw [show ((0 : Int)).toNat = 0 from rfl] at hx372_0)
              (try rw [show 0 * 2 = 0 from rfl] at hx372_0)
              (try rw [Addr.add_zero'] at hx372_0)
              (try rw [show ((0 : Int)).toNat = 0 from rfl] at hx372_1)
              (try rw [show 0 * 2 = 0 from rfl] at hx372_1)
              (try rw [Addr.add_zero'] at hx372_1)
              replace p372 := eq_true p372
              replace q372 := eq_true q372
              refine start_ (n := 9) (S := fun w' => w'.cell? ⟨gb367, 0, none⟩ = some (.int .i64 ((rd_T24 t352 x101_2).f0)) ∧ w'.cell? ⟨gb367, 1, none⟩ = some (.int .i64 ((rd_T24 t352 x101_2).f1)) ∧ w'.cell? ad366 = some (.int .i64 ((rd_T24 t352 0).f0)) ∧ w'.cell? ⟨ad366.block, ad366.off + 1, none⟩ = some (.int .i64 ((rd_T24 t352 0).f1))) (ds := []) (pT 9 0) (by kernel_rfl) rfl rfl ⟨c20 BK367.out, c21 BK367.out, hx372_0, hx372_1⟩ (fun hHeld => ?_); refine with_tabW laws_FnHandsSpreadOfAll.tab22 laws_FnHandsSpreadOfAll.bits22 (fun HT_ HW_ => ?_)
              generalize w64.drew = w161 at HO_9 HO_99 BK350 BK351 BK365 BK367 BK371 HB hx372_0 hx372_1 hHeld ⊢
              iterate 2
               refine pI (v := ?_) (a' := ?_) rfl (any_of HT_.out (by kernel_rfl)) (fun _ _ _ h => h) (Or.inl ⟨by rfl, ?_⟩) ?_ ?_
               rotate_left
               ·intro w'
                go_simp
                with_reducible rfl
               rotate_left
               ·show Act.put _ (some _) _ = _
                simp only [Act.put, List.setIfInBounds_toArray, List.set_cons_zero, List.set_cons_succ, i64_w, i32_w]
                rfl
              refine pure_ (i := 3) (N := some 119) (v := ?_) (a' := ?_) #[true, true, false, true, false, false, false, false, false] rfl rfl (any_of HT_.out (by kernel_rfl)) (fun _ _ _ h => h) (Or.inl ⟨by rfl, ?_⟩) ?_ ?_
              rotate_left
              ·intro w'
               go_simp
               with_reducible rfl
              rotate_left
              ·simp only [Act.put, List.setIfInBounds_toArray, List.set_cons_zero, List.set_cons_succ, i64_w, i32_w]
               rfl
              refine pure_ (i := 4) (N := some 120) (v := ?_) (a' := ?_) #[true, true, false, true, true, false, false, false, false] rfl rfl (any_of HT_.out (by kernel_rfl)) (fun _ _ _ h => h) (Or.inl ⟨by rfl, ?_⟩) ?_ ?_
              rotate_left
              ·intro w'
               go_simp
               with_reducible rfl
              rotate_left
              ·simp only [Act.put, List.setIfInBounds_toArray, List.set_cons_zero, List.set_cons_succ, i64_w, i32_w]
               rfl
              refine take_ (i := 2) (N := some 118) (v := ?_) (a' := ?_) (pT 9 5) rfl rfl (take_ofW HT_.out HW_.out (by kernel_rfl)) (fun _ _ _ h => h) (Or.inl ⟨by rfl, ?_⟩) hHeld ?_ ?_
              rotate_left
              ·rintro w' ⟨s0, s1, s2, s3⟩
               go_simp
               with_reducible rfl
              rotate_left
              ·simp only [Act.put, List.setIfInBounds_toArray, List.set_cons_zero, List.set_cons_succ, i64_w, i32_w]
               rfl
              iterate 4
               first
               | refine pI (v := ?_) (a' := ?_) rfl (any_of HT_.out (by kernel_rfl)) (fun _ _ _ h => h) (Or.inl ⟨by rfl, ?_⟩) ?_ ?_
                 rotate_left
                 ·intro w'
                  go_simp
                  with_reducible rfl
                 rotate_left
                 ·show Act.put _ (some _) _ = _
                  simp only [Act.put, List.setIfInBounds_toArray, List.set_cons_zero, List.set_cons_succ, i64_w, i32_w]
                  rfl
               | refine tI (v := ?_) (a' := ?_) rfl (take_ofW HT_.out HW_.out (by kernel_rfl)) (fun _ _ _ h => h) (Or.inl ⟨by rfl, ?_⟩) hHeld ?_ ?_
                 rotate_left
                 ·rintro w' ⟨s0, s1, s2, s3⟩
                  go_simp
                  with_reducible rfl
                 rotate_left
                 ·show Act.put _ (some _) _ = _
                  simp only [Act.put, List.setIfInBounds_toArray, List.set_cons_zero, List.set_cons_succ, i64_w, i32_w]
                  rfl
              refine done_ (done_of HT_.out (by kernel_rfl)) ?_
              try go_wp2
              go_meet
              case rel => exact ⟨_, H', ⟨by have := HJ11.out; have := HK2.out; first | omega | exact Nat.le_refl _⟩, kV BK350, kV BK351, ⟨by repeat (first | (with_reducible first | exact HB.out | apply bA | apply bN | apply bD | refine bX ?_ (by assumption)) | exact HB.out)⟩⟩
            rw [if_neg c46] at H
            exact absurd H (by simp)
           replace c45 := Bool.eq_false_iff.mpr c45
           subst c45
           have H1 : (if t370 = true then (laws_FnHandsSpreadOfAll.l0 k2 a2 t352 t360 (l0.length : Int) t370 false t352 (t352.length : Int) (wrap64 (x101_2 + 1)) a3_0 a3_1 a3_2 t368 t369) else (if t360 = true then (if (l0.length : Int) > 1 then (if 0 < (t352.length : Int) then (if (!(((rd_T24 t352 0).f0) == 1) || (!(((rd_T24 t352 0).f1) == (l0.length : Int)))) = true then (some false) else (if (l0.length : Int) = 1 then (laws_FnHandsSpreadOfAll.j2 k2 a2 a3_0 a3_1 a3_2) else (laws_FnHandsSpreadOfAll.j2 k2 a2 a3_0 a3_1 a3_2))) else (none)) else (if (l0.length : Int) = 1 then (laws_FnHandsSpreadOfAll.j2 k2 a2 a3_0 a3_1 a3_2) else (laws_FnHandsSpreadOfAll.j2 k2 a2 a3_0 a3_1 a3_2))) else (if (l0.length : Int) = 1 then (some false) else (laws_FnHandsSpreadOfAll.j2 k2 a2 a3_0 a3_1 a3_2)))) = some r := by rw [if_neg (show ¬ (false = true) by decide)] at H; exact H
           clear H
           have H := H1
           clear H1
           by_cases c162 : t370 = true
           ·subst c162
            have H1 : (laws_FnHandsSpreadOfAll.l0 k2 a2 t352 t360 (l0.length : Int) true false t352 (t352.length : Int) (wrap64 (x101_2 + 1)) a3_0 a3_1 a3_2 t368 t369) = some r := by rw [if_pos rfl] at H; exact H
            clear H
            have H := H1
            clear H1
            as_aux_lemma =>
             have H' := Am H
             clear H
             have n0_ := Am (Kd.R_drew HO_9.out)
             have n1_ := Am (Kd.R_drew HO_99.out)
             have n2_ := Am (kD BK350.out)
             have n3_ := Am (kD BK351.out)
             have n4_ := Am (kD BK365.out)
             have n5_ := Am (kD BK367.out)
             have n6_ := Am (kD BK371.out)
             have n7_ := Am (bD HB.out)
             clear HO_9 HO_99 BK350 BK351 BK365 BK367 BK371 HB
             have HO_9 := n0_; have HO_99 := n1_; have BK350 := n2_; have BK351 := n3_; have BK365 := n4_; have BK367 := n5_; have BK371 := n6_; have HB := n7_
             clear n0_ n1_ n2_ n3_ n4_ n5_ n6_ n7_
             refine start_ (n := 9) (S := fun w' => True) (ds := []) (pT 9 0) (by kernel_rfl) rfl rfl trivial (fun hHeld => ?_); refine with_tabW laws_FnHandsSpreadOfAll.tab22 laws_FnHandsSpreadOfAll.bits22 (fun HT_ HW_ => ?_)
             generalize w64.drew = w180 at HO_9 HO_99 BK350 BK351 BK365 BK367 BK371 HB hHeld ⊢
             iterate 9
              first
              | refine pI (v := ?_) (a' := ?_) rfl (any_of HT_.out (by kernel_rfl)) (fun _ _ _ h => h) (Or.inl ⟨by rfl, ?_⟩) ?_ ?_
                rotate_left
                ·intro w'
                 go_simp
                 with_reducible rfl
                rotate_left
                ·show Act.put _ (some _) _ = _
                 simp only [Act.put, List.setIfInBounds_toArray, List.set_cons_zero, List.set_cons_succ, i64_w, i32_w]
                 rfl
              | refine pI (v := undef) (a' := ?_) rfl (any_of HT_.out (by kernel_rfl)) (fun _ _ _ h => h) (Or.inr ⟨by rfl, rfl⟩) ?_ ?_
                rotate_left
                ·show Act.put _ (some _) _ = _
                 simp only [Act.put, List.setIfInBounds_toArray, List.set_cons_zero, List.set_cons_succ, i64_w, i32_w]
                 rfl
             refine done_ (done_of HT_.out (by kernel_rfl)) ?_
             try go_wp2
             go_roundg k2
             case measure => have := HJ11.out; have := HK2.out; omega
             case rel =>
              refine ⟨(true), (false), (wrap64 (x101_2 + 1)), (t368), (t369), (by first | rfl | (simp; done) | (simp [*]; done)), ⟨rfl⟩, (by first | rfl | (simp; done) | (simp [*]; done)), (by first | rfl | (simp; done) | (simp [*]; done)), H', ⟨by have := HJ11.out; have := HK2.out; omega⟩, ⟨by (with_reducible repeat (first | apply Kd.R_alloc | apply Kd.R_drewN | apply Kd.R_drew)); exact Kd.R_mono HO_9.out (fun _ hk => ⟨hk.1, hk.2.1⟩)⟩, ⟨by (with_reducible repeat (first | apply Kd.R_alloc | apply Kd.R_drewN | apply Kd.R_drew)); exact Kd.R_mono HO_99.out (fun _ hk => ⟨hk.1, hk.2.1⟩)⟩, ⟨?_⟩, ⟨?_⟩, ⟨?_⟩, ⟨by repeat (first | (with_reducible first | exact HB.out | apply bA | apply bN | apply bD | refine bX ?_ (by assumption)) | exact HB.out)⟩⟩
              all_goals ((with_reducible repeat (first | refine kN ?_ _ | refine kD ?_ | refine kA ?_ _)); exact Aside0.out (by assumption))
           replace c162 := Bool.eq_false_iff.mpr c162
           subst c162
           have H1 : (if t360 = true then (if (l0.length : Int) > 1 then (if 0 < (t352.length : Int) then (if (!(((rd_T24 t352 0).f0) == 1) || (!(((rd_T24 t352 0).f1) == (l0.length : Int)))) = true then (some false) else (if (l0.length : Int) = 1 then (laws_FnHandsSpreadOfAll.j2 k2 a2 a3_0 a3_1 a3_2) else (laws_FnHandsSpreadOfAll.j2 k2 a2 a3_0 a3_1 a3_2))) else (none)) else (if (l0.length : Int) = 1 then (laws_FnHandsSpreadOfAll.j2 k2 a2 a3_0 a3_1 a3_2) else (laws_FnHandsSpreadOfAll.j2 k2 a2 a3_0 a3_1 a3_2))) else (if (l0.length : Int) = 1 then (some false) else (laws_FnHandsSpreadOfAll.j2 k2 a2 a3_0 a3_1 a3_2))) = some r := by rw [if_neg (show ¬ (false = true) by decide)] at H; exact H
           clear H
           have H := H1
           clear H1
           by_cases c181 : t360 = true
           ·subst c181
            have H1 : (if (l0.length : Int) > 1 then (if 0 < (t352.length : Int) then (if (!(((rd_T24 t352 0).f0) == 1) || (!(((rd_T24 t352 0).f1) == (l0.length : Int)))) = true then (some false) else (if (l0.length : Int) = 1 then (laws_FnHandsSpreadOfAll.j2 k2 a2 a3_0 a3_1 a3_2) else (laws_FnHandsSpreadOfAll.j2 k2 a2 a3_0 a3_1 a3_2))) else (none)) else (if (l0.length : Int) = 1 then (laws_FnHandsSpreadOfAll.j2 k2 a2 a3_0 a3_1 a3_2) else (laws_FnHandsSpreadOfAll.j2 k2 a2 a3_0 a3_1 a3_2))) = some r := by rw [if_pos rfl] at H; exact H
            clear H
            have H := H1
            clear H1
            by_cases c182 : (l0.length : Int) > 1
            ·rw [if_pos c182] at H
             have c182b0 : decide (1 < (l0.length : Int)) = true := decide_eq_true c182
             have c182b1 : decide (1 < l0.length) = true := decide_eq_true (by omega)
             clear c182
             by_cases c183 : 0 < (t352.length : Int)
             ·rw [if_pos c183] at H
              have c183b0 : decide (0 < (t352.length : Int)) = true := decide_eq_true c183
              have c183b1 : decide (0 < t352.length) = true := decide_eq_true (by omega)
              clear c183
              by_cases c184 : (!(((rd_T24 t352 0).f0) == 1) || (!(((rd_T24 t352 0).f1) == (l0.length : Int)))) = true
              ·rw [if_pos c184] at H
               have c184b0 : (!(((rd_T24 t352 0).f0) == 1) || (!(((rd_T24 t352 0).f1) == (l0.length : Int)))) = true := c184
               clear c184
               as_aux_lemma =>
                exact absurd ((Option.some.inj H).trans hlaw.out) (by decide)
              rw [if_neg c184] at H
              have c184b0 : (!(((rd_T24 t352 0).f0) == 1) || (!(((rd_T24 t352 0).f1) == (l0.length : Int)))) = false := by simpa using c184
              clear c184
              by_cases c185 : (l0.length : Int) = 1
              ·rw [if_pos c185] at H
               have c185b0 : ((l0.length : Int) == 1) = true := beq_iff_eq.mpr c185
               have c185b1 : ((l0.length : Int) != 1) = false := bne_eq_false_iff_eq.mpr c185
               clear c185
               as_aux_lemma =>
                have H' := Am H
                clear H
                have n0_ := Am (Kd.R_drew HO_9.out)
                have n1_ := Am (Kd.R_drew HO_99.out)
                have n2_ := Am (kD BK350.out)
                have n3_ := Am (kD BK351.out)
                have n4_ := Am (kD BK365.out)
                have n5_ := Am (kD BK367.out)
                have n6_ := Am (kD BK371.out)
                have n7_ := Am (bD HB.out)
                clear HO_9 HO_99 BK350 BK351 BK365 BK367 BK371 HB
                have HO_9 := n0_; have HO_99 := n1_; have BK350 := n2_; have BK351 := n3_; have BK365 := n4_; have BK367 := n5_; have BK371 := n6_; have HB := n7_
                clear n0_ n1_ n2_ n3_ n4_ n5_ n6_ n7_
                refine start_ (n := 9) (S := fun w' => True) (ds := []) (pT 9 0) (by kernel_rfl) rfl rfl trivial (fun hHeld => ?_); refine with_tabW laws_FnHandsSpreadOfAll.tab22 laws_FnHandsSpreadOfAll.bits22 (fun HT_ HW_ => ?_)
                generalize w64.drew = w203 at HO_9 HO_99 BK350 BK351 BK365 BK367 BK371 HB hHeld ⊢
                iterate 9
                 first
                 | refine pI (v := ?_) (a' := ?_) rfl (any_of HT_.out (by kernel_rfl)) (fun _ _ _ h => h) (Or.inl ⟨by rfl, ?_⟩) ?_ ?_
                   rotate_left
                   ·intro w'
                    go_simp
                    with_reducible rfl
                   rotate_left
                   ·show Act.put _ (some _) _ = _
                    simp only [Act.put, List.setIfInBounds_toArray, List.set_cons_zero, List.set_cons_succ, i64_w, i32_w]
                    rfl
                 | refine pI (v := undef) (a' := ?_) rfl (any_of HT_.out (by kernel_rfl)) (fun _ _ _ h => h) (Or.inr ⟨by rfl, rfl⟩) ?_ ?_
                   rotate_left
                   ·show Act.put _ (some _) _ = _
                    simp only [Act.put, List.setIfInBounds_toArray, List.set_cons_zero, List.set_cons_succ, i64_w, i32_w]
                    rfl
                refine done_ (done_of HT_.out (by kernel_rfl)) ?_
                have p374 : 0 ≤ (0 : Int) := (by omega)
                have q374 : 0 < (t352.length : Int) := of_decide_eq_true (by first | (with_reducible assumption) | assumption)
                obtain ⟨ad374, e374, hx374_0, hx374_1⟩ := at_T24 (Kd.R_reads' HO_9.out).2.2 0 p374 q374
                obtain rfl : ad366 = ad374 := (by injection e374)
                have qi374 : (0 < t352.length) = True := eq_true (by omega)
                (try rw [show ((0 : Int)).toNat = 0 from rfl] at hx374_0)
                (try rw [show 0 * 2 = 0 from rfl] at hx374_0)
                (try rw [Addr.add_zero'] at hx374_0)
                (try rw [show ((0 : Int)).toNat = 0 from rfl] at hx374_1)
                (try rw [show 0 * 2 = 0 from rfl] at hx374_1)
                (try rw [Addr.add_zero'] at hx374_1)
                replace p374 := eq_true p374
                replace q374 := eq_true q374
                try go_wp2
                go_meet
                case rel => exact ⟨_, H', ⟨by have := HJ11.out; have := HK2.out; first | omega | exact Nat.le_refl _⟩, kV BK350, kV BK351, ⟨by repeat (first | (with_reducible first | exact HB.out | apply bA | apply bN | apply bD | refine bX ?_ (by assumption)) | exact HB.out)⟩⟩
              rw [if_neg c185] at H
              have c185b0 : ((l0.length : Int) == 1) = false := beq_eq_false_iff_ne.mpr c185
              have c185b1 : ((l0.length : Int) != 1) = true := bne_iff_ne.mpr c185
              as_aux_lemma =>
               have H' := Am H
               clear H
               have n0_ := Am (Kd.R_drew HO_9.out)
               have n1_ := Am (Kd.R_drew HO_99.out)
               have n2_ := Am (kD BK350.out)
               have n3_ := Am (kD BK351.out)
               have n4_ := Am (kD BK365.out)
               have n5_ := Am (kD BK367.out)
               have n6_ := Am (kD BK371.out)
               have n7_ := Am (bD HB.out)
               clear HO_9 HO_99 BK350 BK351 BK365 BK367 BK371 HB
               have HO_9 := n0_; have HO_99 := n1_; have BK350 := n2_; have BK351 := n3_; have BK365 := n4_; have BK367 := n5_; have BK371 := n6_; have HB := n7_
               clear n0_ n1_ n2_ n3_ n4_ n5_ n6_ n7_
               refine start_ (n := 9) (S := fun w' => True) (ds := []) (pT 9 0) (by kernel_rfl) rfl rfl trivial (fun hHeld => ?_); refine with_tabW laws_FnHandsSpreadOfAll.tab22 laws_FnHandsSpreadOfAll.bits22 (fun HT_ HW_ => ?_)
               generalize w64.drew = w221 at HO_9 HO_99 BK350 BK351 BK365 BK367 BK371 HB hHeld ⊢
               iterate 9
                first
                | refine pI (v := ?_) (a' := ?_) rfl (any_of HT_.out (by kernel_rfl)) (fun _ _ _ h => h) (Or.inl ⟨by rfl, ?_⟩) ?_ ?_
                  rotate_left
                  ·intro w'
                   go_simp
                   with_reducible rfl
                  rotate_left
                  ·show Act.put _ (some _) _ = _
                   simp only [Act.put, List.setIfInBounds_toArray, List.set_cons_zero, List.set_cons_succ, i64_w, i32_w]
                   rfl
                | refine pI (v := undef) (a' := ?_) rfl (any_of HT_.out (by kernel_rfl)) (fun _ _ _ h => h) (Or.inr ⟨by rfl, rfl⟩) ?_ ?_
                  rotate_left
                  ·show Act.put _ (some _) _ = _
                   simp only [Act.put, List.setIfInBounds_toArray, List.set_cons_zero, List.set_cons_succ, i64_w, i32_w]
                   rfl
               refine done_ (done_of HT_.out (by kernel_rfl)) ?_
               have p374 : 0 ≤ (0 : Int) := (by omega)
               have q374 : 0 < (t352.length : Int) := of_decide_eq_true (by first | (with_reducible assumption) | assumption)
               obtain ⟨ad374, e374, hx374_0, hx374_1⟩ := at_T24 (Kd.R_reads' HO_9.out).2.2 0 p374 q374
               obtain rfl : ad366 = ad374 := (by injection e374)
               have qi374 : (0 < t352.length) = True := eq_true (by omega)
               (try rw [show ((0 : Int)).toNat = 0 from rfl] at hx374_0)
               (try rw [show 0 * 2 = 0 from rfl] at hx374_0)
               (try rw [Addr.add_zero'] at hx374_0)
               (try rw [show ((0 : Int)).toNat = 0 from rfl] at hx374_1)
               (try rw [show 0 * 2 = 0 from rfl] at hx374_1)
               (try rw [Addr.add_zero'] at hx374_1)
               replace p374 := eq_true p374
               replace q374 := eq_true q374
               try go_wp2
               go_meet
               case rel => exact ⟨_, H', ⟨by have := HJ11.out; have := HK2.out; first | omega | exact Nat.le_refl _⟩, kV BK350, kV BK351, ⟨by repeat (first | (with_reducible first | exact HB.out | apply bA | apply bN | apply bD | refine bX ?_ (by assumption)) | exact HB.out)⟩⟩
             rw [if_neg c183] at H
             exact absurd H (by simp)
            rw [if_neg c182] at H
            have c182b0 : decide (1 < (l0.length : Int)) = false := decide_eq_false c182
            have c182b1 : decide (1 < l0.length) = false := decide_eq_false (by omega)
            clear c182
            by_cases c222 : (l0.length : Int) = 1
            ·rw [if_pos c222] at H
             have c222b0 : ((l0.length : Int) == 1) = true := beq_iff_eq.mpr c222
             have c222b1 : ((l0.length : Int) != 1) = false := bne_eq_false_iff_eq.mpr c222
             clear c222
             as_aux_lemma =>
              have H' := Am H
              clear H
              have n0_ := Am (Kd.R_drew HO_9.out)
              have n1_ := Am (Kd.R_drew HO_99.out)
              have n2_ := Am (kD BK350.out)
              have n3_ := Am (kD BK351.out)
              have n4_ := Am (kD BK365.out)
              have n5_ := Am (kD BK367.out)
              have n6_ := Am (kD BK371.out)
              have n7_ := Am (bD HB.out)
              clear HO_9 HO_99 BK350 BK351 BK365 BK367 BK371 HB
              have HO_9 := n0_; have HO_99 := n1_; have BK350 := n2_; have BK351 := n3_; have BK365 := n4_; have BK367 := n5_; have BK371 := n6_; have HB := n7_
              clear n0_ n1_ n2_ n3_ n4_ n5_ n6_ n7_
              refine start_ (n := 9) (S := fun w' => True) (ds := []) (pT 9 0) (by kernel_rfl) rfl rfl trivial (fun hHeld => ?_); refine with_tabW laws_FnHandsSpreadOfAll.tab22 laws_FnHandsSpreadOfAll.bits22 (fun HT_ HW_ => ?_)
              generalize w64.drew = w240 at HO_9 HO_99 BK350 BK351 BK365 BK367 BK371 HB hHeld ⊢
              iterate 9
               first
               | refine pI (v := ?_) (a' := ?_) rfl (any_of HT_.out (by kernel_rfl)) (fun _ _ _ h => h) (Or.inl ⟨by rfl, ?_⟩) ?_ ?_
                 rotate_left
                 ·intro w'
                  go_simp
                  with_reducible rfl
                 rotate_left
                 ·show Act.put _ (some _) _ = _
                  simp only [Act.put, List.setIfInBounds_toArray, List.set_cons_zero, List.set_cons_succ, i64_w, i32_w]
                  rfl
               | refine pI (v := undef) (a' := ?_) rfl (any_of HT_.out (by kernel_rfl)) (fun _ _ _ h => h) (Or.inr ⟨by rfl, rfl⟩) ?_ ?_
                 rotate_left
                 ·show Act.put _ (some _) _ = _
                  simp only [Act.put, List.setIfInBounds_toArray, List.set_cons_zero, List.set_cons_succ, i64_w, i32_w]
                  rfl
              refine done_ (done_of HT_.out (by kernel_rfl)) ?_
              try go_wp2
              go_meet
              case rel => exact ⟨_, H', ⟨by have := HJ11.out; have := HK2.out; first | omega | exact Nat.le_refl _⟩, kV BK350, kV BK351, ⟨by repeat (first | (with_reducible first | exact HB.out | apply bA | apply bN | apply bD | refine bX ?_ (by assumption)) | exact HB.out)⟩⟩
            rw [if_neg c222] at H
            have c222b0 : ((l0.length : Int) == 1) = false := beq_eq_false_iff_ne.mpr c222
            have c222b1 : ((l0.length : Int) != 1) = true := bne_iff_ne.mpr c222
            as_aux_lemma =>
             have H' := Am H
             clear H
             have n0_ := Am (Kd.R_drew HO_9.out)
             have n1_ := Am (Kd.R_drew HO_99.out)
             have n2_ := Am (kD BK350.out)
             have n3_ := Am (kD BK351.out)
             have n4_ := Am (kD BK365.out)
             have n5_ := Am (kD BK367.out)
             have n6_ := Am (kD BK371.out)
             have n7_ := Am (bD HB.out)
             clear HO_9 HO_99 BK350 BK351 BK365 BK367 BK371 HB
             have HO_9 := n0_; have HO_99 := n1_; have BK350 := n2_; have BK351 := n3_; have BK365 := n4_; have BK367 := n5_; have BK371 := n6_; have HB := n7_
             clear n0_ n1_ n2_ n3_ n4_ n5_ n6_ n7_
             refine start_ (n := 9) (S := fun w' => True) (ds := []) (pT 9 0) (by kernel_rfl) rfl rfl trivial (fun hHeld => ?_); refine with_tabW laws_FnHandsSpreadOfAll.tab22 laws_FnHandsSpreadOfAll.bits22 (fun HT_ HW_ => ?_)
             generalize w64.drew = w258 at HO_9 HO_99 BK350 BK351 BK365 BK367 BK371 HB hHeld ⊢
             iterate 9
              first
              | refine pI (v := ?_) (a' := ?_) rfl (any_of HT_.out (by kernel_rfl)) (fun _ _ _ h => h) (Or.inl ⟨by rfl, ?_⟩) ?_ ?_
                rotate_left
                ·intro w'
                 go_simp
                 with_reducible rfl
                rotate_left
                ·show Act.put _ (some _) _ = _
                 simp only [Act.put, List.setIfInBounds_toArray, List.set_cons_zero, List.set_cons_succ, i64_w, i32_w]
                 rfl
              | refine pI (v := undef) (a' := ?_) rfl (any_of HT_.out (by kernel_rfl)) (fun _ _ _ h => h) (Or.inr ⟨by rfl, rfl⟩) ?_ ?_
                rotate_left
                ·show Act.put _ (some _) _ = _
                 simp only [Act.put, List.setIfInBounds_toArray, List.set_cons_zero, List.set_cons_succ, i64_w, i32_w]
                 rfl
             refine done_ (done_of HT_.out (by kernel_rfl)) ?_
             try go_wp2
             go_meet
             case rel => exact ⟨_, H', ⟨by have := HJ11.out; have := HK2.out; first | omega | exact Nat.le_refl _⟩, kV BK350, kV BK351, ⟨by repeat (first | (with_reducible first | exact HB.out | apply bA | apply bN | apply bD | refine bX ?_ (by assumption)) | exact HB.out)⟩⟩
           replace c181 := Bool.eq_false_iff.mpr c181
           subst c181
           have H1 : (if (l0.length : Int) = 1 then (some false) else (laws_FnHandsSpreadOfAll.j2 k2 a2 a3_0 a3_1 a3_2)) = some r := by rw [if_neg (show ¬ (false = true) by decide)] at H; exact H
           clear H
           have H := H1
           clear H1
           by_cases c259 : (l0.length : Int) = 1
           ·rw [if_pos c259] at H
            have c259b0 : ((l0.length : Int) == 1) = true := beq_iff_eq.mpr c259
            have c259b1 : ((l0.length : Int) != 1) = false := bne_eq_false_iff_eq.mpr c259
            clear c259
            as_aux_lemma =>
             exact absurd ((Option.some.inj H).trans hlaw.out) (by decide)
           rw [if_neg c259] at H
           have c259b0 : ((l0.length : Int) == 1) = false := beq_eq_false_iff_ne.mpr c259
           have c259b1 : ((l0.length : Int) != 1) = true := bne_iff_ne.mpr c259
           as_aux_lemma =>
            have H' := Am H
            clear H
            have n0_ := Am (Kd.R_drew HO_9.out)
            have n1_ := Am (Kd.R_drew HO_99.out)
            have n2_ := Am (kD BK350.out)
            have n3_ := Am (kD BK351.out)
            have n4_ := Am (kD BK365.out)
            have n5_ := Am (kD BK367.out)
            have n6_ := Am (kD BK371.out)
            have n7_ := Am (bD HB.out)
            clear HO_9 HO_99 BK350 BK351 BK365 BK367 BK371 HB
            have HO_9 := n0_; have HO_99 := n1_; have BK350 := n2_; have BK351 := n3_; have BK365 := n4_; have BK367 := n5_; have BK371 := n6_; have HB := n7_
            clear n0_ n1_ n2_ n3_ n4_ n5_ n6_ n7_
            refine start_ (n := 9) (S := fun w' => True) (ds := []) (pT 9 0) (by kernel_rfl) rfl rfl trivial (fun hHeld => ?_); refine with_tabW laws_FnHandsSpreadOfAll.tab22 laws_FnHandsSpreadOfAll.bits22 (fun HT_ HW_ => ?_)
            generalize w64.drew = w277 at HO_9 HO_99 BK350 BK351 BK365 BK367 BK371 HB hHeld ⊢
            iterate 9
             first
             | refine pI (v := ?_) (a' := ?_) rfl (any_of HT_.out (by kernel_rfl)) (fun _ _ _ h => h) (Or.inl ⟨by rfl, ?_⟩) ?_ ?_
               rotate_left
               ·intro w'
                go_simp
                with_reducible rfl
               rotate_left
               ·show Act.put _ (some _) _ = _
                simp only [Act.put, List.setIfInBounds_toArray, List.set_cons_zero, List.set_cons_succ, i64_w, i32_w]
                rfl
             | refine pI (v := undef) (a' := ?_) rfl (any_of HT_.out (by kernel_rfl)) (fun _ _ _ h => h) (Or.inr ⟨by rfl, rfl⟩) ?_ ?_
               rotate_left
               ·show Act.put _ (some _) _ = _
                simp only [Act.put, List.setIfInBounds_toArray, List.set_cons_zero, List.set_cons_succ, i64_w, i32_w]
                rfl
            refine done_ (done_of HT_.out (by kernel_rfl)) ?_
            try go_wp2
            go_meet
            case rel => exact ⟨_, H', ⟨by have := HJ11.out; have := HK2.out; first | omega | exact Nat.le_refl _⟩, kV BK350, kV BK351, ⟨by repeat (first | (with_reducible first | exact HB.out | apply bA | apply bN | apply bD | refine bX ?_ (by assumption)) | exact HB.out)⟩⟩
          exact absurd hInv.out c44
         rw [if_neg c42] at H
         exact absurd H (by simp)
        rw [if_neg c41] at H
        exact absurd H (by simp)
       rw [if_neg c40] at H
       have c40b0 : decide (x101_2 < (t352.length : Int)) = false := decide_eq_false c40
       clear c40
       by_cases c473 : x19_2 = true
       ·subst c473
        have H1 : (if x366000_2 = 0 then (if t360 = true then (if (l0.length : Int) > 1 then (if 0 < (t352.length : Int) then (if (!(((rd_T24 t352 0).f0) == 1) || (!(((rd_T24 t352 0).f1) == (l0.length : Int)))) = true then (some false) else (if (l0.length : Int) = 1 then (if x20_2 = true then (if (t360 != true) = true then (some false) else (laws_FnHandsSpreadOfAll.j2 k2 a2 a3_0 a3_1 a3_2)) else (if (t360 != false) = true then (some false) else (laws_FnHandsSpreadOfAll.j2 k2 a2 a3_0 a3_1 a3_2))) else (if x20_2 = true then (if (t360 != (decide (((rd_T24 t352 0).f0) > 0))) = true then (some false) else (laws_FnHandsSpreadOfAll.j2 k2 a2 a3_0 a3_1 a3_2)) else (if (t360 != false) = true then (some false) else (laws_FnHandsSpreadOfAll.j2 k2 a2 a3_0 a3_1 a3_2))))) else (none)) else (if (l0.length : Int) = 1 then (if x20_2 = true then (if (t360 != true) = true then (some false) else (laws_FnHandsSpreadOfAll.j2 k2 a2 a3_0 a3_1 a3_2)) else (if (t360 != false) = true then (some false) else (laws_FnHandsSpreadOfAll.j2 k2 a2 a3_0 a3_1 a3_2))) else (if x20_2 = true then (if 0 < (t352.length : Int) then (if (t360 != (decide (((rd_T24 t352 0).f0) > 0))) = true then (some false) else (laws_FnHandsSpreadOfAll.j2 k2 a2 a3_0 a3_1 a3_2)) else (none)) else (if (t360 != false) = true then (some false) else (laws_FnHandsSpreadOfAll.j2 k2 a2 a3_0 a3_1 a3_2))))) else (if (l0.length : Int) = 1 then (some false) else (if x20_2 = true then (if 0 < (t352.length : Int) then (if (t360 != (decide (((rd_T24 t352 0).f0) > 0))) = true then (some false) else (laws_FnHandsSpreadOfAll.j2 k2 a2 a3_0 a3_1 a3_2)) else (none)) else (if (t360 != false) = true then (some false) else (laws_FnHandsSpreadOfAll.j2 k2 a2 a3_0 a3_1 a3_2))))) else (some false)) = some r := by rw [if_pos rfl] at H; exact H
        clear H
        have H := H1
        clear H1
        by_cases c474 : x366000_2 = 0
        ·rw [if_pos c474] at H
         have c474b0 : (x366000_2 == 0) = true := beq_iff_eq.mpr c474
         have c474b1 : (x366000_2 != 0) = false := bne_eq_false_iff_eq.mpr c474
         clear c474
         by_cases c475 : t360 = true
         ·subst c475
          have H1 : (if (l0.length : Int) > 1 then (if 0 < (t352.length : Int) then (if (!(((rd_T24 t352 0).f0) == 1) || (!(((rd_T24 t352 0).f1) == (l0.length : Int)))) = true then (some false) else (if (l0.length : Int) = 1 then (if x20_2 = true then (if (true != true) = true then (some false) else (laws_FnHandsSpreadOfAll.j2 k2 a2 a3_0 a3_1 a3_2)) else (if (true != false) = true then (some false) else (laws_FnHandsSpreadOfAll.j2 k2 a2 a3_0 a3_1 a3_2))) else (if x20_2 = true then (if (true != (decide (((rd_T24 t352 0).f0) > 0))) = true then (some false) else (laws_FnHandsSpreadOfAll.j2 k2 a2 a3_0 a3_1 a3_2)) else (if (true != false) = true then (some false) else (laws_FnHandsSpreadOfAll.j2 k2 a2 a3_0 a3_1 a3_2))))) else (none)) else (if (l0.length : Int) = 1 then (if x20_2 = true then (if (true != true) = true then (some false) else (laws_FnHandsSpreadOfAll.j2 k2 a2 a3_0 a3_1 a3_2)) else (if (true != false) = true then (some false) else (laws_FnHandsSpreadOfAll.j2 k2 a2 a3_0 a3_1 a3_2))) else (if x20_2 = true then (if 0 < (t352.length : Int) then (if (true != (decide (((rd_T24 t352 0).f0) > 0))) = true then (some false) else (laws_FnHandsSpreadOfAll.j2 k2 a2 a3_0 a3_1 a3_2)) else (none)) else (if (true != false) = true then (some false) else (laws_FnHandsSpreadOfAll.j2 k2 a2 a3_0 a3_1 a3_2))))) = some r := by rw [if_pos rfl] at H; exact H
          clear H
          have H := H1
          clear H1
          by_cases c476 : (l0.length : Int) > 1
          ·rw [if_pos c476] at H
           have c476b0 : decide (1 < (l0.length : Int)) = true := decide_eq_true c476
           have c476b1 : decide (1 < l0.length) = true := decide_eq_true (by omega)
           clear c476
           by_cases c477 : 0 < (t352.length : Int)
           ·rw [if_pos c477] at H
            have c477b0 : decide (0 < (t352.length : Int)) = true := decide_eq_true c477
            have c477b1 : decide (0 < t352.length) = true := decide_eq_true (by omega)
            clear c477
            by_cases c478 : (!(((rd_T24 t352 0).f0) == 1) || (!(((rd_T24 t352 0).f1) == (l0.length : Int)))) = true
            ·rw [if_pos c478] at H
             have c478b0 : (!(((rd_T24 t352 0).f0) == 1) || (!(((rd_T24 t352 0).f1) == (l0.length : Int)))) = true := c478
             clear c478
             as_aux_lemma =>
              exact absurd ((Option.some.inj H).trans hlaw.out) (by decide)
            rw [if_neg c478] at H
            have c478b0 : (!(((rd_T24 t352 0).f0) == 1) || (!(((rd_T24 t352 0).f1) == (l0.length : Int)))) = false := by simpa using c478
            clear c478
            by_cases c479 : (l0.length : Int) = 1
            ·rw [if_pos c479] at H
             have c479b0 : ((l0.length : Int) == 1) = true := beq_iff_eq.mpr c479
             have c479b1 : ((l0.length : Int) != 1) = false := bne_eq_false_iff_eq.mpr c479
             clear c479
             by_cases c480 : x20_2 = true
             ·subst c480
              have H1 : (if (true != true) = true then (some false) else (laws_FnHandsSpreadOfAll.j2 k2 a2 a3_0 a3_1 a3_2)) = some r := by rw [if_pos rfl] at H; exact H
              clear H
              have H := H1
              clear H1
              by_cases c481 : (true != true) = true
              ·rw [if_pos c481] at H
               have c481b0 : (true != true) = true := c481
               clear c481
               as_aux_lemma =>
                exact absurd ((Option.some.inj H).trans hlaw.out) (by decide)
              rw [if_neg c481] at H
              have c481b0 : (true != true) = false := by first | rfl | exact absurd rfl c481
              clear c481
              as_aux_lemma =>
               have H' := Am H
               clear H
               have nq482 := kO NB365_350; have nq483 := kO NB365_351
               have zq484 := c2 BK365
               have p378 : 0 ≤ (0 : Int) := (by omega)
               have q378 : 0 < (t352.length : Int) := of_decide_eq_true (by first | (with_reducible assumption) | assumption)
               obtain ⟨ad378, e378, hx378_0, hx378_1⟩ := at_T24 (Kd.R_reads' HO_9.out).2.2 0 p378 q378
               cases e378
               have qi378 : (0 < t352.length) = True := eq_true (by omega)
               (try rw [show ((0 : Int)).toNat = 0 from rfl] at hx378_0)
               (try rw [show 0 * 2 = 0 from rfl] at hx378_0)
               (try rw [Addr.add_zero'] at hx378_0)
               (try rw [show ((0 : Int)).toNat = 0 from rfl] at hx378_1)
               (try rw [show 0 * 2 = 0 from rfl] at hx378_1)
               (try rw [Addr.add_zero'] at hx378_1)
               replace p378 := eq_true p378
               replace q378 := eq_true q378
               go_wp2
               go_meet
               case rel => exact ⟨_, H', ⟨by have := HJ11.out; have := HK2.out; first | omega | exact Nat.le_refl _⟩, kV BK350, kV BK351, ⟨by repeat (first | (with_reducible first | exact HB.out | apply bA | apply bN | apply bD | refine bX ?_ (by assumption)) | exact HB.out)⟩⟩
             replace c480 := Bool.eq_false_iff.mpr c480
             subst c480
             have H1 : (if (true != false) = true then (some false) else (laws_FnHandsSpreadOfAll.j2 k2 a2 a3_0 a3_1 a3_2)) = some r := by rw [if_neg (show ¬ (false = true) by decide)] at H; exact H
             clear H
             have H := H1
             clear H1
             by_cases c485 : (true != false) = true
             ·rw [if_pos c485] at H
              have c485b0 : (true != false) = true := c485
              clear c485
              as_aux_lemma =>
               exact absurd ((Option.some.inj H).trans hlaw.out) (by decide)
             exact absurd rfl c485
            rw [if_neg c479] at H
            have c479b0 : ((l0.length : Int) == 1) = false := beq_eq_false_iff_ne.mpr c479
            have c479b1 : ((l0.length : Int) != 1) = true := bne_iff_ne.mpr c479
            by_cases c489 : x20_2 = true
            ·subst c489
             have H1 : (if (true != (decide (((rd_T24 t352 0).f0) > 0))) = true then (some false) else (laws_FnHandsSpreadOfAll.j2 k2 a2 a3_0 a3_1 a3_2)) = some r := by rw [if_pos rfl] at H; exact H
             clear H
             have H := H1
             clear H1
             by_cases c490 : (true != (decide (((rd_T24 t352 0).f0) > 0))) = true
             ·rw [if_pos c490] at H
              have c490b0 : (true != (decide (((rd_T24 t352 0).f0) > 0))) = true := c490
              (try (have c490b1 : decide (true = (decide (((rd_T24 t352 0).f0) > 0))) = false := by simpa using c490))
              (try (have c490b2 : (true == (decide (((rd_T24 t352 0).f0) > 0))) = false := by simpa using c490))
              (try (have c490b3 : ¬ (true = (decide (((rd_T24 t352 0).f0) > 0))) := by simpa using c490))
              clear c490
              as_aux_lemma =>
               exact absurd ((Option.some.inj H).trans hlaw.out) (by decide)
             rw [if_neg c490] at H
             have c490b0 : (true != (decide (((rd_T24 t352 0).f0) > 0))) = false := by simpa using c490
             (try (have c490b1 : decide (true = (decide (((rd_T24 t352 0).f0) > 0))) = true := by simpa using c490))
             (try (have c490b2 : (true == (decide (((rd_T24 t352 0).f0) > 0))) = true := by simpa using c490))
             clear c490
             as_aux_lemma =>
              have H' := Am H
              clear H
              have nq491 := kO NB365_350; have nq492 := kO NB365_351
              have zq493 := c2 BK365
              have p378 : 0 ≤ (0 : Int) := (by omega)
              have q378 : 0 < (t352.length : Int) := of_decide_eq_true (by first | (with_reducible assumption) | assumption)
              obtain ⟨ad378, e378, hx378_0, hx378_1⟩ := at_T24 (Kd.R_reads' HO_9.out).2.2 0 p378 q378
              cases e378
              have qi378 : (0 < t352.length) = True := eq_true (by omega)
              (try rw [show ((0 : Int)).toNat = 0 from rfl] at hx378_0)
              (try rw [show 0 * 2 = 0 from rfl] at hx378_0)
              (try rw [Addr.add_zero'] at hx378_0)
              (try rw [show ((0 : Int)).toNat = 0 from rfl] at hx378_1)
              (try rw [show 0 * 2 = 0 from rfl] at hx378_1)
              (try rw [Addr.add_zero'] at hx378_1)
              replace p378 := eq_true p378
              replace q378 := eq_true q378
              have p379 : 0 ≤ (0 : Int) := (by omega)
              have q379 : 0 < (t352.length : Int) := of_decide_eq_true (by first | (with_reducible assumption) | assumption)
              obtain ⟨ad379, e379, hx379_0, hx379_1⟩ := at_T24 (Kd.R_reads' HO_9.out).2.2 0 p379 q379
              obtain rfl : ad378 = ad379 := (by injection e379)
              have qi379 : (0 < t352.length) = True := eq_true (by omega)
              (try rw [show ((0 : Int)).toNat = 0 from rfl] at hx379_0)
              (try rw [show 0 * 2 = 0 from rfl] at hx379_0)
              (try rw [Addr.add_zero'] at hx379_0)
              (try rw [show ((0 : Int)).toNat = 0 from rfl] at hx379_1)
              (try rw [show 0 * 2 = 0 from rfl] at hx379_1)
              (try rw [Addr.add_zero'] at hx379_1)
              replace p379 := eq_true p379
              replace q379 := eq_true q379
              go_wp2
              go_meet
              case rel => exact ⟨_, H', ⟨by have := HJ11.out; have := HK2.out; first | omega | exact Nat.le_refl _⟩, kV BK350, kV BK351, ⟨by repeat (first | (with_reducible first | exact HB.out | apply bA | apply bN | apply bD | refine bX ?_ (by assumption)) | exact HB.out)⟩⟩
            replace c489 := Bool.eq_false_iff.mpr c489
            subst c489
            have H1 : (if (true != false) = true then (some false) else (laws_FnHandsSpreadOfAll.j2 k2 a2 a3_0 a3_1 a3_2)) = some r := by rw [if_neg (show ¬ (false = true) by decide)] at H; exact H
            clear H
            have H := H1
            clear H1
            by_cases c494 : (true != false) = true
            ·rw [if_pos c494] at H
             have c494b0 : (true != false) = true := c494
             clear c494
             as_aux_lemma =>
              exact absurd ((Option.some.inj H).trans hlaw.out) (by decide)
            exact absurd rfl c494
           rw [if_neg c477] at H
           exact absurd H (by simp)
          rw [if_neg c476] at H
          have c476b0 : decide (1 < (l0.length : Int)) = false := decide_eq_false c476
          have c476b1 : decide (1 < l0.length) = false := decide_eq_false (by omega)
          clear c476
          by_cases c498 : (l0.length : Int) = 1
          ·rw [if_pos c498] at H
           have c498b0 : ((l0.length : Int) == 1) = true := beq_iff_eq.mpr c498
           have c498b1 : ((l0.length : Int) != 1) = false := bne_eq_false_iff_eq.mpr c498
           clear c498
           by_cases c499 : x20_2 = true
           ·subst c499
            have H1 : (if (true != true) = true then (some false) else (laws_FnHandsSpreadOfAll.j2 k2 a2 a3_0 a3_1 a3_2)) = some r := by rw [if_pos rfl] at H; exact H
            clear H
            have H := H1
            clear H1
            by_cases c500 : (true != true) = true
            ·rw [if_pos c500] at H
             have c500b0 : (true != true) = true := c500
             clear c500
             as_aux_lemma =>
              exact absurd ((Option.some.inj H).trans hlaw.out) (by decide)
            rw [if_neg c500] at H
            have c500b0 : (true != true) = false := by first | rfl | exact absurd rfl c500
            clear c500
            as_aux_lemma =>
             have H' := Am H
             clear H
             have nq501 := kO NB365_350; have nq502 := kO NB365_351
             have zq503 := c2 BK365
             go_wp2
             go_meet
             case rel => exact ⟨_, H', ⟨by have := HJ11.out; have := HK2.out; first | omega | exact Nat.le_refl _⟩, kV BK350, kV BK351, ⟨by repeat (first | (with_reducible first | exact HB.out | apply bA | apply bN | apply bD | refine bX ?_ (by assumption)) | exact HB.out)⟩⟩
           replace c499 := Bool.eq_false_iff.mpr c499
           subst c499
           have H1 : (if (true != false) = true then (some false) else (laws_FnHandsSpreadOfAll.j2 k2 a2 a3_0 a3_1 a3_2)) = some r := by rw [if_neg (show ¬ (false = true) by decide)] at H; exact H
           clear H
           have H := H1
           clear H1
           by_cases c504 : (true != false) = true
           ·rw [if_pos c504] at H
            have c504b0 : (true != false) = true := c504
            clear c504
            as_aux_lemma =>
             exact absurd ((Option.some.inj H).trans hlaw.out) (by decide)
           exact absurd rfl c504
          rw [if_neg c498] at H
          have c498b0 : ((l0.length : Int) == 1) = false := beq_eq_false_iff_ne.mpr c498
          have c498b1 : ((l0.length : Int) != 1) = true := bne_iff_ne.mpr c498
          by_cases c508 : x20_2 = true
          ·subst c508
           have H1 : (if 0 < (t352.length : Int) then (if (true != (decide (((rd_T24 t352 0).f0) > 0))) = true then (some false) else (laws_FnHandsSpreadOfAll.j2 k2 a2 a3_0 a3_1 a3_2)) else (none)) = some r := by rw [if_pos rfl] at H; exact H
           clear H
           have H := H1
           clear H1
           by_cases c509 : 0 < (t352.length : Int)
           ·rw [if_pos c509] at H
            have c509b0 : decide (0 < (t352.length : Int)) = true := decide_eq_true c509
            have c509b1 : decide (0 < t352.length) = true := decide_eq_true (by omega)
            clear c509
            by_cases c510 : (true != (decide (((rd_T24 t352 0).f0) > 0))) = true
            ·rw [if_pos c510] at H
             have c510b0 : (true != (decide (((rd_T24 t352 0).f0) > 0))) = true := c510
             (try (have c510b1 : decide (true = (decide (((rd_T24 t352 0).f0) > 0))) = false := by simpa using c510))
             (try (have c510b2 : (true == (decide (((rd_T24 t352 0).f0) > 0))) = false := by simpa using c510))
             (try (have c510b3 : ¬ (true = (decide (((rd_T24 t352 0).f0) > 0))) := by simpa using c510))
             clear c510
             as_aux_lemma =>
              exact absurd ((Option.some.inj H).trans hlaw.out) (by decide)
            rw [if_neg c510] at H
            have c510b0 : (true != (decide (((rd_T24 t352 0).f0) > 0))) = false := by simpa using c510
            (try (have c510b1 : decide (true = (decide (((rd_T24 t352 0).f0) > 0))) = true := by simpa using c510))
            (try (have c510b2 : (true == (decide (((rd_T24 t352 0).f0) > 0))) = true := by simpa using c510))
            clear c510
            as_aux_lemma =>
             have H' := Am H
             clear H
             have nq511 := kO NB365_350; have nq512 := kO NB365_351
             have zq513 := c2 BK365
             have p380 : 0 ≤ (0 : Int) := (by omega)
             have q380 : 0 < (t352.length : Int) := of_decide_eq_true (by first | (with_reducible assumption) | assumption)
             obtain ⟨ad380, e380, hx380_0, hx380_1⟩ := at_T24 (Kd.R_reads' HO_9.out).2.2 0 p380 q380
             cases e380
             have qi380 : (0 < t352.length) = True := eq_true (by omega)
             (try rw [show ((0 : Int)).toNat = 0 from rfl] at hx380_0)
             (try rw [show 0 * 2 = 0 from rfl] at hx380_0)
             (try rw [Addr.add_zero'] at hx380_0)
             (try rw [show ((0 : Int)).toNat = 0 from rfl] at hx380_1)
             (try rw [show 0 * 2 = 0 from rfl] at hx380_1)
             (try rw [Addr.add_zero'] at hx380_1)
             replace p380 := eq_true p380
             replace q380 := eq_true q380
             go_wp2
             go_meet
             case rel => exact ⟨_, H', ⟨by have := HJ11.out; have := HK2.out; first | omega | exact Nat.le_refl _⟩, kV BK350, kV BK351, ⟨by repeat (first | (with_reducible first | exact HB.out | apply bA | apply bN | apply bD | refine bX ?_ (by assumption)) | exact HB.out)⟩⟩
           rw [if_neg c509] at H
           exact absurd H (by simp)
          replace c508 := Bool.eq_false_iff.mpr c508
          subst c508
          have H1 : (if (true != false) = true then (some false) else (laws_FnHandsSpreadOfAll.j2 k2 a2 a3_0 a3_1 a3_2)) = some r := by rw [if_neg (show ¬ (false = true) by decide)] at H; exact H
          clear H
          have H := H1
          clear H1
          by_cases c514 : (true != false) = true
          ·rw [if_pos c514] at H
           have c514b0 : (true != false) = true := c514
           clear c514
           as_aux_lemma =>
            exact absurd ((Option.some.inj H).trans hlaw.out) (by decide)
          exact absurd rfl c514
         replace c475 := Bool.eq_false_iff.mpr c475
         subst c475
         have H1 : (if (l0.length : Int) = 1 then (some false) else (if x20_2 = true then (if 0 < (t352.length : Int) then (if (false != (decide (((rd_T24 t352 0).f0) > 0))) = true then (some false) else (laws_FnHandsSpreadOfAll.j2 k2 a2 a3_0 a3_1 a3_2)) else (none)) else (if (false != false) = true then (some false) else (laws_FnHandsSpreadOfAll.j2 k2 a2 a3_0 a3_1 a3_2)))) = some r := by rw [if_neg (show ¬ (false = true) by decide)] at H; exact H
         clear H
         have H := H1
         clear H1
         by_cases c518 : (l0.length : Int) = 1
         ·rw [if_pos c518] at H
          have c518b0 : ((l0.length : Int) == 1) = true := beq_iff_eq.mpr c518
          have c518b1 : ((l0.length : Int) != 1) = false := bne_eq_false_iff_eq.mpr c518
          clear c518
          as_aux_lemma =>
           exact absurd ((Option.some.inj H).trans hlaw.out) (by decide)
         rw [if_neg c518] at H
         have c518b0 : ((l0.length : Int) == 1) = false := beq_eq_false_iff_ne.mpr c518
         have c518b1 : ((l0.length : Int) != 1) = true := bne_iff_ne.mpr c518
         by_cases c519 : x20_2 = true
         ·subst c519
          have H1 : (if 0 < (t352.length : Int) then (if (false != (decide (((rd_T24 t352 0).f0) > 0))) = true then (some false) else (laws_FnHandsSpreadOfAll.j2 k2 a2 a3_0 a3_1 a3_2)) else (none)) = some r := by rw [if_pos rfl] at H; exact H
          clear H
          have H := H1
          clear H1
          by_cases c520 : 0 < (t352.length : Int)
          ·rw [if_pos c520] at H
           have c520b0 : decide (0 < (t352.length : Int)) = true := decide_eq_true c520
           have c520b1 : decide (0 < t352.length) = true := decide_eq_true (by omega)
           clear c520
           by_cases c521 : (false != (decide (((rd_T24 t352 0).f0) > 0))) = true
           ·rw [if_pos c521] at H
            have c521b0 : (false != (decide (((rd_T24 t352 0).f0) > 0))) = true := c521
            (try (have c521b1 : decide (false = (decide (((rd_T24 t352 0).f0) > 0))) = false := by simpa using c521))
            (try (have c521b2 : (false == (decide (((rd_T24 t352 0).f0) > 0))) = false := by simpa using c521))
            (try (have c521b3 : ¬ (false = (decide (((rd_T24 t352 0).f0) > 0))) := by simpa using c521))
            clear c521
            as_aux_lemma =>
             exact absurd ((Option.some.inj H).trans hlaw.out) (by decide)
           rw [if_neg c521] at H
           have c521b0 : (false != (decide (((rd_T24 t352 0).f0) > 0))) = false := by simpa using c521
           (try (have c521b1 : decide (false = (decide (((rd_T24 t352 0).f0) > 0))) = true := by simpa using c521))
           (try (have c521b2 : (false == (decide (((rd_T24 t352 0).f0) > 0))) = true := by simpa using c521))
           clear c521
           as_aux_lemma =>
            have H' := Am H
            clear H
            have nq522 := kO NB365_350; have nq523 := kO NB365_351
            have zq524 := c2 BK365
            have p381 : 0 ≤ (0 : Int) := (by omega)
            have q381 : 0 < (t352.length : Int) := of_decide_eq_true (by first | (with_reducible assumption) | assumption)
            obtain ⟨ad381, e381, hx381_0, hx381_1⟩ := at_T24 (Kd.R_reads' HO_9.out).2.2 0 p381 q381
            cases e381
            have qi381 : (0 < t352.length) = True := eq_true (by omega)
            (try rw [show ((0 : Int)).toNat = 0 from rfl] at hx381_0)
            (try rw [show 0 * 2 = 0 from rfl] at hx381_0)
            (try rw [Addr.add_zero'] at hx381_0)
            (try rw [show ((0 : Int)).toNat = 0 from rfl] at hx381_1)
            (try rw [show 0 * 2 = 0 from rfl] at hx381_1)
            (try rw [Addr.add_zero'] at hx381_1)
            replace p381 := eq_true p381
            replace q381 := eq_true q381
            go_wp2
            go_meet
            case rel => exact ⟨_, H', ⟨by have := HJ11.out; have := HK2.out; first | omega | exact Nat.le_refl _⟩, kV BK350, kV BK351, ⟨by repeat (first | (with_reducible first | exact HB.out | apply bA | apply bN | apply bD | refine bX ?_ (by assumption)) | exact HB.out)⟩⟩
          rw [if_neg c520] at H
          exact absurd H (by simp)
         replace c519 := Bool.eq_false_iff.mpr c519
         subst c519
         have H1 : (if (false != false) = true then (some false) else (laws_FnHandsSpreadOfAll.j2 k2 a2 a3_0 a3_1 a3_2)) = some r := by rw [if_neg (show ¬ (false = true) by decide)] at H; exact H
         clear H
         have H := H1
         clear H1
         by_cases c525 : (false != false) = true
         ·rw [if_pos c525] at H
          have c525b0 : (false != false) = true := c525
          clear c525
          as_aux_lemma =>
           exact absurd ((Option.some.inj H).trans hlaw.out) (by decide)
         rw [if_neg c525] at H
         have c525b0 : (false != false) = false := by first | rfl | exact absurd rfl c525
         clear c525
         as_aux_lemma =>
          have H' := Am H
          clear H
          have nq526 := kO NB365_350; have nq527 := kO NB365_351
          have zq528 := c2 BK365
          go_wp2
          go_meet
          case rel => exact ⟨_, H', ⟨by have := HJ11.out; have := HK2.out; first | omega | exact Nat.le_refl _⟩, kV BK350, kV BK351, ⟨by repeat (first | (with_reducible first | exact HB.out | apply bA | apply bN | apply bD | refine bX ?_ (by assumption)) | exact HB.out)⟩⟩
        rw [if_neg c474] at H
        have c474b0 : (x366000_2 == 0) = false := beq_eq_false_iff_ne.mpr c474
        have c474b1 : (x366000_2 != 0) = true := bne_iff_ne.mpr c474
        as_aux_lemma =>
         exact absurd ((Option.some.inj H).trans hlaw.out) (by decide)
       exact absurd hInv.out c473
    rw [if_neg c34] at H
    have c34b0 : ((t352.length : Int) == (l0.length : Int)) = false := beq_eq_false_iff_ne.mpr c34
    have c34b1 : ((t352.length : Int) != (l0.length : Int)) = true := bne_iff_ne.mpr c34
    have c34b2 : (t352.length == l0.length) = false := by first | simpa using c34 | (simp at c34 ⊢; omega)
    (first | rw [c34b0] | (simp only [i64_w, i32_w]; rw [c34b0]) | skip)
    as_aux_lemma =>
     exact absurd ((Option.some.inj H).trans hlaw.out) (by decide)
   replace c33 := Bool.eq_false_iff.mpr c33
   subst c33
   have H1 : (laws_FnHandsSpreadOfAll.j2 kj11 a2 a3_0 a3_1 a3_2) = some r := by rw [if_neg (show ¬ (false = true) by decide)] at H; exact H
   clear H
   have H := H1
   clear H1
   as_aux_lemma =>
    have H' := Am H
    clear H
    go_wp2
    go_meet
    case rel => exact ⟨_, H', ⟨by have := HJ11.out; first | omega | exact Nat.le_refl _⟩, kV BK350, kV BK351, ⟨by repeat (first | (with_reducible first | exact HB.out | apply bA | apply bN | apply bD | refine bX ?_ (by assumption)) | exact HB.out)⟩⟩
  clear HC32
  (try clear c5)
  obtain ⟨kq, HA, HJ31, BK350, BK351, HB⟩ := hcut
  cases kq with
  | zero => exact absurd HA.out (by simp [laws_FnHandsSpreadOfAll.j2])
  | succ kj31 =>
   have H := HA.out
   clear HA
   simp only [laws_FnHandsSpreadOfAll.j2] at H
   replace H := Option.bind_eq_some_iff.mp H
   obtain ⟨⟨t383, t384⟩, A5360, H⟩ := H
   try dsimp only at H
   have A536 := Am A5360
   clear A5360
   replace H := Option.bind_eq_some_iff.mp H
   obtain ⟨⟨t387, t388⟩, A5370, H⟩ := H
   try dsimp only at H
   have A537 := Am A5370
   clear A5370
   have HC538 := Am H
   clear H
   go_upto_region 29 with (first | ((with_reducible refine gate_callee (f := 10) rfl ?_); refine gL (some 177) Try.func10 #[.int .i64 a2] rfl ?_; (with_reducible refine (impl_HandsOfDial.calls a2 t383 t384 _ A536.out).mono ?_); rintro e w539 ⟨v385, rfl, ho0, hb⟩; refine ⟨_, rfl, ?_⟩; have n0_ := Am (Kd.R_lower (Kd.R_newB ho0 (g := gb351) (o := .cells #[.int .i64 a3_0, .int .i64 a3_1, .int .i64 a3_2] 26 (0, 0)) (kU BK351)) (bZ (by repeat (first | (with_reducible first | exact HB.out | apply bA | apply bN | apply bD | refine bX ?_ (by assumption)) | exact HB.out)))); have hp0 := pA BK350 hb; have hv := vK HB hb; have n3_ := Am (bT hv hb); clear HB; have HO386 := n0_; replace BK350 := hp0 BK350; replace BK351 := hp0 BK351; have HB := n3_; clear n0_ n3_ hp0 hv; (try clear hb); (try clear ho0)) | ((with_reducible refine gate_callee (f := 11) rfl ?_); refine gL (some 182) Try.func11 #[.int .i64 a2] rfl ?_; (with_reducible refine (spec_HandsOfDial.calls a2 t387 t388 _ A537.out).mono ?_); rintro e w540 ⟨v389, rfl, ho0, hb⟩; refine ⟨_, rfl, ?_⟩; have n0_ := Am (Kd.R_elder' (kW HO386) (Kd.R_base ho0) hb); have n1_ := Am (Kd.R_lower (Kd.R_newB (Kd.R_new' ho0 (Kd.R_lt (kW HO386))) (g := gb351) (o := .cells #[.int .i64 a3_0, .int .i64 a3_1, .int .i64 a3_2] 26 (0, 0)) (kU BK351)) (bZ (by repeat (first | (with_reducible first | exact HB.out | apply bA | apply bN | apply bD | refine bX ?_ (by assumption)) | exact HB.out)))); have hp0 := pA BK350 hb; have hv := vK HB hb; have n4_ := Am (bT hv hb); clear HO386; clear HB; have HO386 := n0_; have HO390 := n1_; replace BK350 := hp0 BK350; replace BK351 := hp0 BK351; have HB := n4_; clear n0_ n1_ n4_ hp0 hv; (try clear hb); (try clear ho0)))
   (try simp only [Act.put, List.setIfInBounds_toArray, List.set_cons_zero, List.set_cons_succ])
   go_cut [193] from 92 to 192 (fun v193 wc => ∃ (kq : Nat) (x193_537 : Bool), v193 = .bool x193_537 ∧ Aside0 (laws_FnHandsSpreadOfAll.j3 kq a2 t383 t384 x193_537 a3_0 a3_1 a3_2 = some r) ∧ Aside0 (kq ≤ kj31) ∧ Aside0 (Kd.R k26 26 wc w.heap.size (fun k_ => k_ ≠ gb351) v385 t383) ∧ Aside0 (wc.heap[gb350]? = some (.cells #[.int .i64 a1_0, .int .i64 a1_1] 24 (0, 0))) ∧ Aside0 (wc.heap[gb351]? = some (.cells #[.int .i64 a3_0, .int .i64 a3_1, .int .i64 a3_2] 26 (0, 0))) ∧ Aside0 (Below w.heap.size w wc))
   case first =>
    have H := HC538.out
    clear HC538
    by_cases c541 : (t384 != t388) = true
    ·rw [if_pos c541] at H
     have c541b0 : (t384 != t388) = true := c541
     (try (have c541b1 : decide (t384 = t388) = false := by simpa using c541))
     (try (have c541b2 : (t384 == t388) = false := by simpa using c541))
     (try (have c541b3 : ¬ (t384 = t388) := by simpa using c541))
     clear c541
     (first | rw [c541b0] | (simp only [i64_w, i32_w]; rw [c541b0]) | skip)
     as_aux_lemma =>
      exact absurd ((laws_FnHandsSpreadOfAll.j3_no H).symm.trans hlaw.out) (by decide)
    rw [if_neg c541] at H
    have c541b0 : (t384 != t388) = false := by simpa using c541
    (try (have c541b1 : decide (t384 = t388) = true := by simpa using c541))
    (try (have c541b2 : (t384 == t388) = true := by simpa using c541))
    clear c541
    (first | rw [c541b0] | (simp only [i64_w, i32_w]; rw [c541b0]) | skip)
    replace H := Option.bind_eq_some_iff.mp H
    obtain ⟨t391, A5420, H⟩ := H
    try dsimp only at H
    have A542 := Am A5420
    clear A5420
    as_aux_lemma =>
     have H' := Am H
     clear H
     obtain ⟨Ao543, co543, eo543⟩ := Kd.R_slice HO386.out
     subst eo543
     obtain ⟨Ao544, co544, eo544⟩ := Kd.R_slice HO390.out
     subst eo544
     go_wp2_with (first | (go_at_call 12; (with_reducible refine (laws_kHands.calls kj31 _ _ t383 _ _ t387 t391 _ ?side1 ?side2 ?side3 ?side4 A542.out).mono ?_); (case side1 => repeat (first | exact (Kd.R_reads' HO386.out).2.2 | (with_reducible refine Kd.C_alloc ?_ _) | (with_reducible refine Kd.C_drewN ?_ _) | (with_reducible refine Kd.C_drew ?_))); (case side2 => exact (Kd.R_reads' HO386.out).2.1); (case side3 => repeat (first | exact (Kd.R_reads' HO390.out).2.2 | (with_reducible refine Kd.C_alloc ?_ _) | (with_reducible refine Kd.C_drewN ?_ _) | (with_reducible refine Kd.C_drew ?_))); (case side4 => exact (Kd.R_reads' HO390.out).2.1); rintro e w' ⟨rfl, ⟨nd, rfl⟩⟩))
     go_meet
     case rel => exact ⟨_, (!t391), (by first | rfl | (simp; done) | (simp [*]; done)), H', ⟨by have := HJ11.out; have := HJ31.out; first | omega | exact Nat.le_refl _⟩, ⟨by (with_reducible repeat (first | apply Kd.R_alloc | apply Kd.R_drewN | apply Kd.R_drew)); exact Kd.R_mono HO386.out (fun _ hk => hk.1.2)⟩, kV BK350, kV BK351, ⟨by repeat (first | (with_reducible first | exact HB.out | apply bA | apply bN | apply bD | refine bX ?_ (by assumption)) | exact HB.out)⟩⟩
   clear HC538
   (try clear c5)
   obtain ⟨kq, x193_537, rfl, HA, HJ537, HO_25, BK350, BK351, HB⟩ := hcut
   cases kq with
   | zero => exact absurd HA.out (by simp [laws_FnHandsSpreadOfAll.j3])
   | succ kj537 =>
    have H := HA.out
    clear HA
    simp only [laws_FnHandsSpreadOfAll.j3] at H
    by_cases c545 : x193_537 = true
    ·subst c545
     have H1 : (some false) = some r := by rw [if_pos rfl] at H; exact H
     clear H
     have H := H1
     clear H1
     as_aux_lemma =>
      exact absurd ((Option.some.inj H).trans hlaw.out) (by decide)
    replace c545 := Bool.eq_false_iff.mpr c545
    subst c545
    have H1 : (if t384 = true then (if (t383.length : Int) = 2 then (if 0 < (t383.length : Int) then (if 1 < (t383.length : Int) then ((impl_CountMeets.f kj537 ((rd_T26 t383 0).f0.f0) ((rd_T26 t383 0).f0.f1) ((rd_T26 t383 0).f1) ((rd_T26 t383 1).f0.f0) ((rd_T26 t383 1).f0.f1) ((rd_T26 t383 1).f1)).bind fun bt394 => (if bt394.2 = true then (laws_FnHandsSpreadOfAll.j4 kj537 a2 t383 (bt394.1 != (wrap64 (a2 - 1))) a3_0 a3_1 a3_2) else (laws_FnHandsSpreadOfAll.j4 kj537 a2 t383 true a3_0 a3_1 a3_2))) else (none)) else (none)) else (some false)) else ((impl_IsHand.f kj537 a3_0 a3_1 a3_2).bind fun t416 => ((spec_IsHand.f kj537 a3_0 a3_1 a3_2).bind fun t417 => (some (t416 == t417))))) = some r := by rw [if_neg (show ¬ (false = true) by decide)] at H; exact H
    clear H
    have H := H1
    clear H1
    by_cases c546 : t384 = true
    ·subst c546
     have H1 : (if (t383.length : Int) = 2 then (if 0 < (t383.length : Int) then (if 1 < (t383.length : Int) then ((impl_CountMeets.f kj537 ((rd_T26 t383 0).f0.f0) ((rd_T26 t383 0).f0.f1) ((rd_T26 t383 0).f1) ((rd_T26 t383 1).f0.f0) ((rd_T26 t383 1).f0.f1) ((rd_T26 t383 1).f1)).bind fun bt394 => (if bt394.2 = true then (laws_FnHandsSpreadOfAll.j4 kj537 a2 t383 (bt394.1 != (wrap64 (a2 - 1))) a3_0 a3_1 a3_2) else (laws_FnHandsSpreadOfAll.j4 kj537 a2 t383 true a3_0 a3_1 a3_2))) else (none)) else (none)) else (some false)) = some r := by rw [if_pos rfl] at H; exact H
     clear H
     have H := H1
     clear H1
     by_cases c547 : (t383.length : Int) = 2
     ·rw [if_pos c547] at H
      have c547b0 : ((t383.length : Int) == 2) = true := beq_iff_eq.mpr c547
      have c547b1 : ((t383.length : Int) != 2) = false := bne_eq_false_iff_eq.mpr c547
      clear c547
      by_cases c548 : 0 < (t383.length : Int)
      ·rw [if_pos c548] at H
       have c548b0 : decide (0 < (t383.length : Int)) = true := decide_eq_true c548
       have c548b1 : decide (0 < t383.length) = true := decide_eq_true (by omega)
       clear c548
       by_cases c549 : 1 < (t383.length : Int)
       ·rw [if_pos c549] at H
        have c549b0 : decide (1 < (t383.length : Int)) = true := decide_eq_true c549
        have c549b1 : decide (1 < t383.length) = true := decide_eq_true (by omega)
        clear c549
        replace H := Option.bind_eq_some_iff.mp H
        obtain ⟨⟨t394, t395⟩, A5500, H⟩ := H
        try dsimp only at H
        have A550 := Am A5500
        clear A5500
        have HC551 := Am H
        clear H
        obtain ⟨Ao552, co552, eo552⟩ := Kd.R_slice HO_25.out
        subst eo552
        try go_wp2
        have n0_ := Am (Kd.R_drew HO_25.out)
        have n1_ := Am (kD BK350.out)
        have n2_ := Am (kD BK351.out)
        have n3_ := Am (bD HB.out)
        clear HO_25 BK350 BK351 HB
        have HO_25 := n0_; have BK350 := n1_; have BK351 := n2_; have HB := n3_
        clear n0_ n1_ n2_ n3_
        have p392 : 0 ≤ (0 : Int) := (by omega)
        have q392 : 0 < (t383.length : Int) := of_decide_eq_true (by first | (with_reducible assumption) | assumption)
        obtain ⟨ad392, e392, hx392_0, hx392_1, hx392_2⟩ := at_T26 (Kd.R_reads' HO_25.out).2.2 0 p392 q392
        cases e392
        have qi392 : (0 < t383.length) = True := eq_true (by omega)
        (try rw [show ((0 : Int)).toNat = 0 from rfl] at hx392_0)
        (try rw [show 0 * 3 = 0 from rfl] at hx392_0)
        (try rw [Addr.add_zero'] at hx392_0)
        (try rw [show ((0 : Int)).toNat = 0 from rfl] at hx392_1)
        (try rw [show 0 * 3 = 0 from rfl] at hx392_1)
        (try rw [Addr.add_zero'] at hx392_1)
        (try rw [show ((0 : Int)).toNat = 0 from rfl] at hx392_2)
        (try rw [show 0 * 3 = 0 from rfl] at hx392_2)
        (try rw [Addr.add_zero'] at hx392_2)
        replace p392 := eq_true p392
        replace q392 := eq_true q392
        have p393 : 0 ≤ (1 : Int) := (by omega)
        have q393 : 1 < (t383.length : Int) := of_decide_eq_true (by first | (with_reducible assumption) | assumption)
        obtain ⟨ad393, e393, hx393_0, hx393_1, hx393_2⟩ := at_T26 (Kd.R_reads' HO_25.out).2.2 1 p393 q393
        obtain rfl : ad392 = ad393 := (by injection e393)
        (try simp only [show (1 : Int).toNat = 1 from rfl, Nat.reduceMul, Nat.reduceEqDiff, Go.Addr.add, ↓reduceIte] at hx393_0)
        (try simp only [show (1 : Int).toNat = 1 from rfl, Nat.reduceMul, Nat.reduceEqDiff, Go.Addr.add, ↓reduceIte] at hx393_1)
        (try simp only [show (1 : Int).toNat = 1 from rfl, Nat.reduceMul, Nat.reduceEqDiff, Go.Addr.add, ↓reduceIte] at hx393_2)
        have qi393 : (1 < t383.length) = True := eq_true (by omega)
        (try rw [show ((1 : Int)).toNat = 1 from rfl] at hx393_0)
        (try rw [show 1 * 3 = 3 from rfl] at hx393_0)
        (try rw [show ((1 : Int)).toNat = 1 from rfl] at hx393_1)
        (try rw [show 1 * 3 = 3 from rfl] at hx393_1)
        (try rw [show ((1 : Int)).toNat = 1 from rfl] at hx393_2)
        (try rw [show 1 * 3 = 3 from rfl] at hx393_2)
        replace p393 := eq_true p393
        replace q393 := eq_true q393
        refine start_ (n := 12) (S := fun w' => w'.cell? ad392 = some (.int .i64 ((rd_T26 t383 0).f0.f0)) ∧ w'.cell? ⟨ad392.block, ad392.off + 1, none⟩ = some (.int .i64 ((rd_T26 t383 0).f0.f1)) ∧ w'.cell? ⟨ad392.block, ad392.off + 2, none⟩ = some (.int .i64 ((rd_T26 t383 0).f1)) ∧ w'.cell? ⟨ad392.block, ad392.off + 3, none⟩ = some (.int .i64 ((rd_T26 t383 1).f0.f0)) ∧ w'.cell? ⟨ad392.block, ad392.off + 3 + 1, none⟩ = some (.int .i64 ((rd_T26 t383 1).f0.f1)) ∧ w'.cell? ⟨ad392.block, ad392.off + 3 + 2, none⟩ = some (.int .i64 ((rd_T26 t383 1).f1))) (ds := []) (pT 12 0) (by kernel_rfl) rfl rfl ⟨hx392_0, hx392_1, hx392_2, hx393_0, hx393_1, hx393_2⟩ (fun hHeld => ?_); refine with_tabW laws_FnHandsSpreadOfAll.tab34 laws_FnHandsSpreadOfAll.bits34 (fun HT_ HW_ => ?_)
        generalize wc.drew = w553 at HO_25 BK350 BK351 HB hx392_0 hx392_1 hx392_2 hx393_0 hx393_1 hx393_2 hHeld ⊢
        iterate 2
         refine pI (v := ?_) (a' := ?_) rfl (any_of HT_.out (by kernel_rfl)) (fun _ _ _ h => h) (Or.inl ⟨by rfl, ?_⟩) ?_ ?_
         rotate_left
         ·intro w'
          go_simp
          with_reducible rfl
         rotate_left
         ·show Act.put _ (some _) _ = _
          simp only [Act.put, List.setIfInBounds_toArray, List.set_cons_zero, List.set_cons_succ, i64_w, i32_w]
          rfl
        refine pure_ (i := 3) (N := some 202) (v := ?_) (a' := ?_) #[true, true, false, true, false, false, false, false, false, false, false, false] rfl rfl (any_of HT_.out (by kernel_rfl)) (fun _ _ _ h => h) (Or.inl ⟨by rfl, ?_⟩) ?_ ?_
        rotate_left
        ·intro w'
         go_simp
         with_reducible rfl
        rotate_left
        ·simp only [Act.put, List.setIfInBounds_toArray, List.set_cons_zero, List.set_cons_succ, i64_w, i32_w]
         rfl
        refine pure_ (i := 4) (N := some 203) (v := ?_) (a' := ?_) #[true, true, false, true, true, false, false, false, false, false, false, false] rfl rfl (any_of HT_.out (by kernel_rfl)) (fun _ _ _ h => h) (Or.inl ⟨by rfl, ?_⟩) ?_ ?_
        rotate_left
        ·intro w'
         go_simp
         with_reducible rfl
        rotate_left
        ·simp only [Act.put, List.setIfInBounds_toArray, List.set_cons_zero, List.set_cons_succ, i64_w, i32_w]
         rfl
        refine take_ (i := 2) (N := some 201) (v := ?_) (a' := ?_) (pT 12 5) rfl rfl (take_ofW HT_.out HW_.out (by kernel_rfl)) (fun _ _ _ h => h) (Or.inl ⟨by rfl, ?_⟩) hHeld ?_ ?_
        rotate_left
        ·rintro w' ⟨s0, s1, s2, s3, s4, s5⟩
         go_simp
         with_reducible rfl
        rotate_left
        ·simp only [Act.put, List.setIfInBounds_toArray, List.set_cons_zero, List.set_cons_succ, i64_w, i32_w]
         rfl
        refine tI (v := ?_) (a' := ?_) rfl (take_ofW HT_.out HW_.out (by kernel_rfl)) (fun _ _ _ h => h) (Or.inl ⟨by rfl, ?_⟩) hHeld ?_ ?_
        rotate_left
        ·rintro w' ⟨s0, s1, s2, s3, s4, s5⟩
         go_simp
         with_reducible rfl
        rotate_left
        ·show Act.put _ (some _) _ = _
         simp only [Act.put, List.setIfInBounds_toArray, List.set_cons_zero, List.set_cons_succ, i64_w, i32_w]
         rfl
        refine one_ (i := 6) (N := some 205) (pT 12 7) rfl rfl (one_of HT_.out (by kernel_rfl)) (by decide) (fun K hK => ?_)
        refine goes_ Try.func13 (by kernel_rfl) rfl #[.agg #[.int .i64 ((rd_T26 t383 0).f0.f0), .int .i64 ((rd_T26 t383 0).f0.f1), .int .i64 ((rd_T26 t383 0).f1)], .agg #[.int .i64 ((rd_T26 t383 1).f0.f0), .int .i64 ((rd_T26 t383 1).f0.f1), .int .i64 ((rd_T26 t383 1).f1)]] (by rfl) rfl rfl (by (try simp only [List.map_toArray, List.map_cons, List.map_nil]); first | done | rfl | (simp only [List.length_drop, List.length_take]; rfl)) ?_
        with_reducible refine (impl_CountMeets.calls kj537 ((rd_T26 t383 0).f0.f0) ((rd_T26 t383 0).f0.f1) ((rd_T26 t383 0).f1) ((rd_T26 t383 1).f0.f0) ((rd_T26 t383 1).f0.f1) ((rd_T26 t383 1).f1) t394 t395 _ A550.out).mono ?_
        rintro e w554 ⟨rfl, hb⟩
        have HS0_ := (hb.cell (World.block_lt_of_cell? _ _ (hHeld.1))).trans (hHeld.1)
        have HS1_ := (hb.cell (World.block_lt_of_cell? _ _ (hHeld.2.1))).trans (hHeld.2.1)
        have HS2_ := (hb.cell (World.block_lt_of_cell? _ _ (hHeld.2.2.1))).trans (hHeld.2.2.1)
        have HS3_ := (hb.cell (World.block_lt_of_cell? _ _ (hHeld.2.2.2.1))).trans (hHeld.2.2.2.1)
        have HS4_ := (hb.cell (World.block_lt_of_cell? _ _ (hHeld.2.2.2.2.1))).trans (hHeld.2.2.2.2.1)
        have HS5_ := (hb.cell (World.block_lt_of_cell? _ _ (hHeld.2.2.2.2.2))).trans (hHeld.2.2.2.2.2)
        refine ⟨_, rfl, ?_⟩
        have n0_ := Am (Kd.R_below (kW HO_25) hb)
        have hp0 := pA BK350 hb
        have hv := vK HB hb
        have n3_ := Am (bT hv hb)
        clear HO_25 HB
        have HO_25 := n0_
        replace BK350 := hp0 BK350; replace BK351 := hp0 BK351
        have HB := n3_
        clear n0_ n3_ hp0 hv
        (try clear hb)
        refine hK.out _ _ ⟨HS0_, HS1_, HS2_, HS3_, HS4_, HS5_⟩ (fun hHeld => ?_)
        clear hK K
        refine norm_ (a' := ?_) ?_ ?_
        rotate_left
        ·show Act.put _ (some 205) _ = _
         simp only [Act.put, List.setIfInBounds_toArray, List.set_cons_zero, List.set_cons_succ, i64_w, i32_w]
         rfl
        iterate 5
         refine pI (v := ?_) (a' := ?_) rfl (any_of HT_.out (by kernel_rfl)) (fun _ _ _ h => h) (Or.inl ⟨by rfl, ?_⟩) ?_ ?_
         rotate_left
         ·intro w'
          go_simp
          with_reducible rfl
         rotate_left
         ·show Act.put _ (some _) _ = _
          simp only [Act.put, List.setIfInBounds_toArray, List.set_cons_zero, List.set_cons_succ, i64_w, i32_w]
          rfl
        refine done_ (done_of HT_.out (by kernel_rfl)) ?_
        go_upto_region 35 with (fail)
        go_cut [215] from 194 to 214 (fun v215 wc => ∃ (kq : Nat) (x215_550 : Bool), v215 = .bool x215_550 ∧ Aside0 (laws_FnHandsSpreadOfAll.j4 kq a2 t383 x215_550 a3_0 a3_1 a3_2 = some r) ∧ Aside0 (kq ≤ kj537) ∧ Aside0 (Kd.R k26 26 wc w.heap.size (fun k_ => k_ ≠ gb351) (.slice (some ad392) t383.length co552) t383) ∧ Aside0 (wc.heap[gb350]? = some (.cells #[.int .i64 a1_0, .int .i64 a1_1] 24 (0, 0))) ∧ Aside0 (wc.heap[gb351]? = some (.cells #[.int .i64 a3_0, .int .i64 a3_1, .int .i64 a3_2] 26 (0, 0))) ∧ Aside0 (Below w.heap.size w wc))
        case first =>
         have H := HC551.out
         clear HC551
         by_cases c555 : t395 = true
         ·subst c555
          have H1 : (laws_FnHandsSpreadOfAll.j4 kj537 a2 t383 (t394 != (wrap64 (a2 - 1))) a3_0 a3_1 a3_2) = some r := by rw [if_pos rfl] at H; exact H
          clear H
          have H := H1
          clear H1
          as_aux_lemma =>
           have H' := Am H
           clear H
           go_wp2
           go_meet
           case rel => exact ⟨_, ((t394 != (wrap64 (a2 - 1)))), (by first | rfl | (simp; done) | (simp [*]; done)), H', ⟨by have := HJ11.out; have := HJ31.out; have := HJ537.out; first | omega | exact Nat.le_refl _⟩, ⟨kW HO_25⟩, kV BK350, kV BK351, ⟨by repeat (first | (with_reducible first | exact HB.out | apply bA | apply bN | apply bD | refine bX ?_ (by assumption)) | exact HB.out)⟩⟩
         replace c555 := Bool.eq_false_iff.mpr c555
         subst c555
         have H1 : (laws_FnHandsSpreadOfAll.j4 kj537 a2 t383 true a3_0 a3_1 a3_2) = some r := by rw [if_neg (show ¬ (false = true) by decide)] at H; exact H
         clear H
         have H := H1
         clear H1
         as_aux_lemma =>
          exact absurd ((laws_FnHandsSpreadOfAll.j4_no H).symm.trans hlaw.out) (by decide)
        clear HC551
        (try clear c5); (try clear p392); (try clear q392); (try clear qi392); (try clear p393); (try clear q393); (try clear qi393); (try clear c545); (try clear c546); (try clear c547); (try clear c547b0); (try clear c547b1); (try clear c548); (try clear c548b0); (try clear c548b1); (try clear c549); (try clear c549b0); (try clear c549b1); (try clear hx392_0); (try clear hx392_1); (try clear hx392_2); (try clear hx393_0); (try clear hx393_1); (try clear hx393_2)
        obtain ⟨kq, x215_550, rfl, HA, HJ550, HO_25, BK350, BK351, HB⟩ := hcut
        cases kq with
        | zero => exact absurd HA.out (by simp [laws_FnHandsSpreadOfAll.j4])
        | succ kj550 =>
         have H := HA.out
         clear HA
         simp only [laws_FnHandsSpreadOfAll.j4] at H
         by_cases c556 : x215_550 = true
         ·subst c556
          have H1 : (some false) = some r := by rw [if_pos rfl] at H; exact H
          clear H
          have H := H1
          clear H1
          as_aux_lemma =>
           exact absurd ((Option.some.inj H).trans hlaw.out) (by decide)
         replace c556 := Bool.eq_false_iff.mpr c556
         subst c556
         have H1 : (laws_FnHandsSpreadOfAll.l1 kj550 a2 t383 0 a3_0 a3_1 a3_2) = some r := by rw [if_neg (show ¬ (false = true) by decide)] at H; exact H
         clear H
         have H := H1
         clear H1
         have H' := Am H
         clear H
         go_wp2
         go_loopg [31] kj550 (fun kq v31 w' => ∃ (x31_5 : Int), v31 = .int .i64 x31_5 ∧ Aside0 (laws_FnHandsSpreadOfAll.l1 kq a2 t383 x31_5 a3_0 a3_1 a3_2 = some r) ∧ Aside0 (kq ≤ kj550) ∧ Aside0 (Kd.R k26 26 w' w.heap.size (fun k_ => k_ ≠ gb351) (.slice (some ad392) t383.length co552) t383) ∧ Aside0 (w'.heap[gb350]? = some (.cells #[.int .i64 a1_0, .int .i64 a1_1] 24 (0, 0))) ∧ Aside0 (w'.heap[gb351]? = some (.cells #[.int .i64 a3_0, .int .i64 a3_1, .int .i64 a3_2] 26 (0, 0))) ∧ Aside0 (Below w.heap.size w w'))
         case atStart => exact ⟨(0), (by first | rfl | (simp; done) | (simp [*]; done)), H', ⟨Nat.le_refl _⟩, ⟨kW HO_25⟩, kV BK350, kV BK351, ⟨by repeat (first | (with_reducible first | exact HB.out | apply bA | apply bN | apply bD | refine bX ?_ (by assumption)) | exact HB.out)⟩⟩
         case round =>
          clear H'
          (try clear c5); (try clear p392); (try clear q392); (try clear qi392); (try clear p393); (try clear q393); (try clear qi393); (try clear c545); (try clear c546); (try clear c547); (try clear c547b0); (try clear c547b1); (try clear c548); (try clear c548b0); (try clear c548b1); (try clear c549); (try clear c549b0); (try clear c549b1); (try clear c556); (try clear hx392_0); (try clear hx392_1); (try clear hx392_2); (try clear hx393_0); (try clear hx393_1); (try clear hx393_2)
          obtain ⟨x31_5, rfl, HA, HK5, HO_25, BK350, BK351, HB⟩ := hrel
          cases gk with
          | zero => exact absurd HA.out (by simp [laws_FnHandsSpreadOfAll.l1])
          | succ k5 =>
           have H := HA.out
           clear HA
           simp only [laws_FnHandsSpreadOfAll.l1] at H
           by_cases c557 : x31_5 < a2
           ·rw [if_pos c557] at H
            have c557b0 : decide (x31_5 < a2) = true := decide_eq_true c557
            clear c557
            replace H := Option.bind_eq_some_iff.mp H
            obtain ⟨⟨t398, t399, t400⟩, A5580, H⟩ := H
            try dsimp only at H
            have A558 := Am A5580
            clear A5580
            by_cases c559 : 0 < (t383.length : Int)
            ·rw [if_pos c559] at H
             have c559b0 : decide (0 < (t383.length : Int)) = true := decide_eq_true c559
             have c559b1 : decide (0 < t383.length) = true := decide_eq_true (by omega)
             clear c559
             replace H := Option.bind_eq_some_iff.mp H
             obtain ⟨⟨t403, t404, t405⟩, A5600, H⟩ := H
             try dsimp only at H
             have A560 := Am A5600
             clear A5600
             by_cases c561 : 1 < (t383.length : Int)
             ·rw [if_pos c561] at H
              have c561b0 : decide (1 < (t383.length : Int)) = true := decide_eq_true c561
              have c561b1 : decide (1 < t383.length) = true := decide_eq_true (by omega)
              clear c561
              replace H := Option.bind_eq_some_iff.mp H
              obtain ⟨⟨t408, t409, t410⟩, A5620, H⟩ := H
              try dsimp only at H
              have A562 := Am A5620
              clear A5620
              replace H := Option.bind_eq_some_iff.mp H
              obtain ⟨⟨t412, t413, t414⟩, A5630, H⟩ := H
              try dsimp only at H
              have A563 := Am A5630
              clear A5630
              by_cases c564 : t400 = true
              ·subst c564
               have H1 : (if t405 = true then (if (!(t403 == t398) || (!(t404 == t399))) = true then (some false) else (if t410 = true then (if t414 = true then (if (!(t408 == t412) || (!(t409 == t413))) = true then (some false) else (laws_FnHandsSpreadOfAll.l1 k5 a2 t383 (wrap64 (x31_5 + 1)) a3_0 a3_1 a3_2)) else (some false)) else (some false))) else (some false)) = some r := by rw [if_pos rfl] at H; exact H
               clear H
               have H := H1
               clear H1
               by_cases c565 : t405 = true
               ·subst c565
                have H1 : (if (!(t403 == t398) || (!(t404 == t399))) = true then (some false) else (if t410 = true then (if t414 = true then (if (!(t408 == t412) || (!(t409 == t413))) = true then (some false) else (laws_FnHandsSpreadOfAll.l1 k5 a2 t383 (wrap64 (x31_5 + 1)) a3_0 a3_1 a3_2)) else (some false)) else (some false))) = some r := by rw [if_pos rfl] at H; exact H
                clear H
                have H := H1
                clear H1
                by_cases c566 : (!(t403 == t398) || (!(t404 == t399))) = true
                ·rw [if_pos c566] at H
                 have c566b0 : (!(t403 == t398) || (!(t404 == t399))) = true := c566
                 clear c566
                 as_aux_lemma =>
                  exact absurd ((Option.some.inj H).trans hlaw.out) (by decide)
                rw [if_neg c566] at H
                have c566b0 : (!(t403 == t398) || (!(t404 == t399))) = false := by simpa using c566
                clear c566
                by_cases c567 : t410 = true
                ·subst c567
                 have H1 : (if t414 = true then (if (!(t408 == t412) || (!(t409 == t413))) = true then (some false) else (laws_FnHandsSpreadOfAll.l1 k5 a2 t383 (wrap64 (x31_5 + 1)) a3_0 a3_1 a3_2)) else (some false)) = some r := by rw [if_pos rfl] at H; exact H
                 clear H
                 have H := H1
                 clear H1
                 by_cases c568 : t414 = true
                 ·subst c568
                  have H1 : (if (!(t408 == t412) || (!(t409 == t413))) = true then (some false) else (laws_FnHandsSpreadOfAll.l1 k5 a2 t383 (wrap64 (x31_5 + 1)) a3_0 a3_1 a3_2)) = some r := by rw [if_pos rfl] at H; exact H
                  clear H
                  have H := H1
                  clear H1
                  by_cases c569 : (!(t408 == t412) || (!(t409 == t413))) = true
                  ·rw [if_pos c569] at H
                   have c569b0 : (!(t408 == t412) || (!(t409 == t413))) = true := c569
                   clear c569
                   as_aux_lemma =>
                    exact absurd ((Option.some.inj H).trans hlaw.out) (by decide)
                  rw [if_neg c569] at H
                  have c569b0 : (!(t408 == t412) || (!(t409 == t413))) = false := by simpa using c569
                  clear c569
                  as_aux_lemma =>
                   have H' := Am H
                   clear H
                   try go_wp2_with (first | ((with_reducible refine gate_callee (f := 14) rfl ?_); refine gL (some 224) Try.func14 #[.int .i64 a2, .int .i64 x31_5, .int .i64 20, .int .i64 0] rfl ?_; (with_reducible refine (impl_TimeOf.calls k5 a2 x31_5 20 0 t398 t399 true _ A558.out).mono ?_); rintro e w570 ⟨rfl, hb⟩; refine ⟨_, rfl, ?_⟩; have n0_ := Am (Kd.R_below (kW HO_25) hb); have hp0 := pA BK350 hb; have hv := vK HB hb; have n3_ := Am (bT hv hb); clear HO_25; clear HB; have HO_25 := n0_; replace BK350 := hp0 BK350; replace BK351 := hp0 BK351; have HB := n3_; clear n0_ n3_ hp0 hv; (try clear hb)) | ((with_reducible refine gate_dst (N := 32) rfl ?_); refine bE 32 #[.int .i64 0, .int .i64 0] 24 ?_; intro gb401 hg w571 hbox hb; have n0_ := Am (Kd.R_below (kW HO_25) hb); have hp0 := pA BK350 hb; have hv := vK HB hb; have n3_ := Am (bT hv hb); have n4_ := Am (hbox); have GW401 := kG hg hv; have GE401 := kG hg hv; have hp1 := pK BK350 hb; obtain ⟨NB350_401, NB401_350⟩ := kXY hg hp1 BK350; obtain ⟨NB351_401, NB401_351⟩ := kXY hg hp1 BK351; clear HO_25; clear HB; have HO_25 := n0_; replace BK350 := hp0 BK350; replace BK351 := hp0 BK351; have HB := n3_; have BK401 := n4_; clear n0_ n3_ n4_ hp0 hp1 hv; clear hb hbox hg; have nq572 := kO NB401_350; have nq573 := kO NB401_351; have zq574 := c2 BK401))
                   have n0_ : Aside0 (Kd.R k26 26 ((w571.setCell ⟨gb401, 0, none⟩ (.int .i64 t398)).setCell ⟨gb401, 1, none⟩ (.int .i64 t399)) w.heap.size (fun k_ => k_ ≠ gb351) (.slice (some ad392) t383.length co552) t383) := ⟨by (with_reducible repeat (first | apply Kd.R_alloc | apply Kd.R_drewN | apply Kd.R_drew)); exact Kd.R_mono (Kd.R_far (p := ⟨gb401, 1, none⟩) (Kd.R_far (p := ⟨gb401, 0, none⟩) (Kd.R_types HO_25.out BK401.out (by decide)) (fun _ hk => hk.2) (.int .i64 t398)) (fun _ hk => hk.2) (.int .i64 t399)) (fun _ hk => hk.1)⟩
                   have hq := hqR (W := ((w571.setCell ⟨gb401, 0, none⟩ (.int .i64 t398)).setCell ⟨gb401, 1, none⟩ (.int .i64 t399))) gb401 BK350.out (fun _ _ q_ h_ => by (with_reducible repeat (first | refine kN ?_ _ | refine kD ?_ | refine kA ?_ _ | refine kZ ?_ q_ _)); exact h_)
                   have n1_ := Am (hq NB350_401.out BK350.out)
                   have n2_ := Am (hq NB351_401.out BK351.out)
                   have n3_ : Aside0 (((w571.setCell ⟨gb401, 0, none⟩ (.int .i64 t398)).setCell ⟨gb401, 1, none⟩ (.int .i64 t399)).heap[gb401]? = some (.cells #[.int .i64 t398, .int .i64 t399] 24 (0, 0))) := ⟨by (with_reducible repeat (first | refine kN ?_ _ | refine kD ?_ | refine kA ?_ _)); refine kP (cs := #[.int .i64 t398, .int .i64 0]) ?_ 1 _ rfl; (with_reducible repeat (first | refine kN ?_ _ | refine kD ?_ | refine kA ?_ _)); refine kP (cs := #[.int .i64 0, .int .i64 0]) ?_ 0 _ rfl; (with_reducible repeat (first | refine kN ?_ _ | refine kD ?_ | refine kA ?_ _)); exact BK401.out⟩
                   have n4_ : Aside0 (Below w.heap.size w ((w571.setCell ⟨gb401, 0, none⟩ (.int .i64 t398)).setCell ⟨gb401, 1, none⟩ (.int .i64 t399))) := ⟨by repeat (first | (with_reducible first | exact HB.out | apply bA | apply bN | apply bD | refine bX ?_ (by assumption)) | exact HB.out)⟩
                   clear hq
                   (try clear HO_25)
                   (try clear BK350)
                   (try clear BK351)
                   (try clear BK401)
                   (try clear HB)
                   generalize ((w571.setCell ⟨gb401, 0, none⟩ (.int .i64 t398)).setCell ⟨gb401, 1, none⟩ (.int .i64 t399)) = w575 at n0_ n1_ n2_ n3_ n4_ ⊢
                   have HO_25 := n0_; have BK350 := n1_; have BK351 := n2_; have BK401 := n3_; have HB := n4_
                   clear n0_ n1_ n2_ n3_ n4_
                   have n0_ := Am (Kd.R_drew HO_25.out)
                   have n1_ := Am (kD BK350.out)
                   have n2_ := Am (kD BK351.out)
                   have n3_ := Am (kD BK401.out)
                   have n4_ := Am (bD HB.out)
                   clear HO_25 BK350 BK351 BK401 HB
                   have HO_25 := n0_; have BK350 := n1_; have BK351 := n2_; have BK401 := n3_; have HB := n4_
                   clear n0_ n1_ n2_ n3_ n4_
                   have p402 : 0 ≤ (0 : Int) := (by omega)
                   have q402 : 0 < (t383.length : Int) := of_decide_eq_true (by first | (with_reducible assumption) | assumption)
                   obtain ⟨ad402, e402, hx402_0, hx402_1, hx402_2⟩ := at_T26 (Kd.R_reads' HO_25.out).2.2 0 p402 q402
                   obtain rfl : ad392 = ad402 := (by injection e402)
                   have qi402 : (0 < t383.length) = True := eq_true (by omega)
                   (try rw [show ((0 : Int)).toNat = 0 from rfl] at hx402_0)
                   (try rw [show 0 * 3 = 0 from rfl] at hx402_0)
                   (try rw [Addr.add_zero'] at hx402_0)
                   (try rw [show ((0 : Int)).toNat = 0 from rfl] at hx402_1)
                   (try rw [show 0 * 3 = 0 from rfl] at hx402_1)
                   (try rw [Addr.add_zero'] at hx402_1)
                   (try rw [show ((0 : Int)).toNat = 0 from rfl] at hx402_2)
                   (try rw [show 0 * 3 = 0 from rfl] at hx402_2)
                   (try rw [Addr.add_zero'] at hx402_2)
                   replace p402 := eq_true p402
                   replace q402 := eq_true q402
                   refine start_ (n := 11) (S := fun w' => w'.cell? ⟨gb401, 0, none⟩ = some (.int .i64 t398) ∧ w'.cell? ⟨gb401, 1, none⟩ = some (.int .i64 t399) ∧ w'.cell? ad392 = some (.int .i64 ((rd_T26 t383 0).f0.f0)) ∧ w'.cell? ⟨ad392.block, ad392.off + 1, none⟩ = some (.int .i64 ((rd_T26 t383 0).f0.f1)) ∧ w'.cell? ⟨ad392.block, ad392.off + 2, none⟩ = some (.int .i64 ((rd_T26 t383 0).f1))) (ds := []) (pT 11 0) (by kernel_rfl) rfl rfl ⟨c20 BK401.out, c21 BK401.out, hx402_0, hx402_1, hx402_2⟩ (fun hHeld => ?_); refine with_tabW laws_FnHandsSpreadOfAll.tab41 laws_FnHandsSpreadOfAll.bits41 (fun HT_ HW_ => ?_)
                   generalize w575.drew = w576 at HO_25 BK350 BK351 BK401 HB hx402_0 hx402_1 hx402_2 hHeld ⊢
                   iterate 4
                    first
                    | refine pI (v := ?_) (a' := ?_) rfl (any_of HT_.out (by kernel_rfl)) (fun _ _ _ h => h) (Or.inl ⟨by rfl, ?_⟩) ?_ ?_
                      rotate_left
                      ·intro w'
                       go_simp
                       with_reducible rfl
                      rotate_left
                      ·show Act.put _ (some _) _ = _
                       simp only [Act.put, List.setIfInBounds_toArray, List.set_cons_zero, List.set_cons_succ, i64_w, i32_w]
                       rfl
                    | refine tI (v := ?_) (a' := ?_) rfl (take_ofW HT_.out HW_.out (by kernel_rfl)) (fun _ _ _ h => h) (Or.inl ⟨by rfl, ?_⟩) hHeld ?_ ?_
                      rotate_left
                      ·rintro w' ⟨s0, s1, s2, s3, s4⟩
                       go_simp
                       with_reducible rfl
                      rotate_left
                      ·show Act.put _ (some _) _ = _
                       simp only [Act.put, List.setIfInBounds_toArray, List.set_cons_zero, List.set_cons_succ, i64_w, i32_w]
                       rfl
                   refine join_ (σ := Nat) 2 (pT 11 9) (fun s_ => [(232, .tuple #[.agg #[.int .i64 t403, .int .i64 t404], .bool true]), (34, .pointer (some ⟨s_, 0, none⟩)), (227, .tuple #[.agg #[.int .i64 t403, .int .i64 t404], .bool true]), (233, .agg #[.int .i64 t403, .int .i64 t404]), (234, .bool true)]) (fun s_ w' => (w'.cell? ⟨gb401, 0, none⟩ = some (.int .i64 t398) ∧ w'.cell? ⟨gb401, 1, none⟩ = some (.int .i64 t399) ∧ w'.cell? ad392 = some (.int .i64 ((rd_T26 t383 0).f0.f0)) ∧ w'.cell? ⟨ad392.block, ad392.off + 1, none⟩ = some (.int .i64 ((rd_T26 t383 0).f0.f1)) ∧ w'.cell? ⟨ad392.block, ad392.off + 2, none⟩ = some (.int .i64 ((rd_T26 t383 0).f1))) ∧ (Kd.R k26 26 w' w.heap.size (fun k_ => k_ ≠ gb351) (.slice (some ad392) t383.length co552) t383) ∧ (w'.heap[gb350]? = some (.cells #[.int .i64 a1_0, .int .i64 a1_1] 24 (0, 0))) ∧ (w'.heap[gb351]? = some (.cells #[.int .i64 a3_0, .int .i64 a3_1, .int .i64 a3_2] 26 (0, 0))) ∧ (w'.heap[gb401]? = some (.cells #[.int .i64 t398, .int .i64 t399] 24 (0, 0))) ∧ (w'.heap[s_]? = some (.cells #[.int .i64 0, .int .i64 0] 24 (0, 0))) ∧ (w.heap.size ≤ s_) ∧ (w.heap.size ≤ s_) ∧ (gb350 ≠ s_) ∧ (s_ ≠ gb350) ∧ (gb351 ≠ s_) ∧ (s_ ≠ gb351) ∧ (gb401 ≠ s_) ∧ (s_ ≠ gb401) ∧ (Below w.heap.size w w')) ?_ ?_
                   rotate_left
                   ·intro hCont
                    refine two_ (i := 4) (j := 8) (Ni := some 232) (Nj := some 34) (pT 11 5) #[true, true, true, true, false, false, false, false, true, false, false] rfl rfl rfl rfl (two_of HT_.out (by kernel_rfl)) (by decide) (by decide) (fun K hK => ?_) (fun K hK => ?_)
                    ·skip
                     refine goes_ Try.func15 (by kernel_rfl) rfl #[.agg #[.int .i64 ((rd_T26 t383 0).f0.f0), .int .i64 ((rd_T26 t383 0).f0.f1), .int .i64 ((rd_T26 t383 0).f1)], .agg #[.int .i64 t398, .int .i64 t399]] (by rfl) rfl rfl (by (try simp only [List.map_toArray, List.map_cons, List.map_nil]); first | done | rfl | (simp only [List.length_drop, List.length_take]; rfl)) ?_
                     with_reducible refine (impl_HandAt.calls k5 ((rd_T26 t383 0).f0.f0) ((rd_T26 t383 0).f0.f1) ((rd_T26 t383 0).f1) t398 t399 t403 t404 true _ A560.out).mono ?_
                     rintro e w577 ⟨rfl, hb⟩
                     have HS2_ := (hb.cell (World.block_lt_of_cell? _ _ (hHeld.2.2.1))).trans (hHeld.2.2.1)
                     have HS3_ := (hb.cell (World.block_lt_of_cell? _ _ (hHeld.2.2.2.1))).trans (hHeld.2.2.2.1)
                     have HS4_ := (hb.cell (World.block_lt_of_cell? _ _ (hHeld.2.2.2.2))).trans (hHeld.2.2.2.2)
                     refine ⟨_, rfl, ?_⟩
                     have n0_ := Am (Kd.R_below (kW HO_25) hb)
                     have hp0 := pA BK350 hb
                     have hv := vK HB hb
                     have n4_ := Am (bT hv hb)
                     clear HO_25 HB
                     have HO_25 := n0_
                     replace BK350 := hp0 BK350; replace BK351 := hp0 BK351; replace BK401 := hp0 BK401
                     have HB := n4_
                     clear n0_ n4_ hp0 hv
                     (try clear hb)
                     refine hK.out _ _ ⟨c20 BK401.out, c21 BK401.out, HS2_, HS3_, HS4_⟩ (fun hHeld => ?_)
                     clear hK K
                     refine norm_ (a' := ?_) ?_ ?_
                     rotate_left
                     ·show Act.put _ (some 232) _ = _
                      simp only [Act.put, List.setIfInBounds_toArray, List.set_cons_zero, List.set_cons_succ, i64_w, i32_w]
                      rfl
                     iterate 3
                      refine pI (v := ?_) (a' := ?_) rfl (any_of HT_.out (by kernel_rfl)) (fun _ _ _ h => h) (Or.inl ⟨by rfl, ?_⟩) ?_ ?_
                      rotate_left
                      ·intro w'
                       go_simp
                       with_reducible rfl
                      rotate_left
                      ·show Act.put _ (some _) _ = _
                       simp only [Act.put, List.setIfInBounds_toArray, List.set_cons_zero, List.set_cons_succ, i64_w, i32_w]
                       rfl
                     refine one_ (i := 8) (N := some 34) (pT 11 9) rfl rfl (one_of HT_.out (by kernel_rfl)) (by decide) (fun K hK => ?_)
                     refine box_step ?hg (N := 34) ?hd (cs := #[.int .i64 0, .int .i64 0]) (t := 24) ?hr ?_; (case hd => rfl); (case hg => rfl); (case hr => first | (go_simp; done) | (go_simp; rfl))
                     intro gb406 hg w578 hbox hb
                     have HS2_ := (hb.cell (World.block_lt_of_cell? _ _ (hHeld.2.2.1))).trans (hHeld.2.2.1)
                     have HS3_ := (hb.cell (World.block_lt_of_cell? _ _ (hHeld.2.2.2.1))).trans (hHeld.2.2.2.1)
                     have HS4_ := (hb.cell (World.block_lt_of_cell? _ _ (hHeld.2.2.2.2))).trans (hHeld.2.2.2.2)
                     have n0_ := Am (Kd.R_below (kW HO_25) hb)
                     have hp0 := pA BK350 hb
                     have hv := vK HB hb
                     have n4_ := Am (bT hv hb)
                     have n5_ := Am (hbox)
                     have GW406 := kG hg hv
                     have GE406 := kG hg hv
                     have hp1 := pK BK350 hb
                     obtain ⟨NB350_406, NB406_350⟩ := kXY hg hp1 BK350
                     obtain ⟨NB351_406, NB406_351⟩ := kXY hg hp1 BK351
                     obtain ⟨NB401_406, NB406_401⟩ := kXY hg hp1 BK401
                     clear HO_25 HB
                     have HO_25 := n0_
                     replace BK350 := hp0 BK350; replace BK351 := hp0 BK351; replace BK401 := hp0 BK401
                     have HB := n4_; have BK406 := n5_
                     clear n4_ n5_ hp0 hp1 hv hb hbox hg
                     refine hK.out _ _ ⟨c20 BK401.out, c21 BK401.out, HS2_, HS3_, HS4_⟩ (fun hHeld => ?_)
                     clear hK K
                     refine norm_ (a' := ?_) ?_ ?_
                     rotate_left
                     ·show Act.put _ (some 34) _ = _
                      simp only [Act.put, List.setIfInBounds_toArray, List.set_cons_zero, List.set_cons_succ, i64_w, i32_w]
                      rfl
                     exact norm_ (by simp only [putAll, Act.put, List.setIfInBounds_toArray, List.set_cons_zero, List.set_cons_succ]) (hCont (gb406) _ ⟨hHeld, (kW HO_25), (kU BK350), (kU BK351), (kU BK401), (kU BK406), GW406.out, GE406.out, NB350_406.out, NB406_350.out, NB351_406.out, NB406_351.out, NB401_406.out, NB406_401.out, (by repeat (first | (with_reducible first | exact HB.out | apply bA | apply bN | apply bD | refine bX ?_ (by assumption)) | exact HB.out))⟩)
                    skip
                    refine box_step ?hg (N := 34) ?hd (cs := #[.int .i64 0, .int .i64 0]) (t := 24) ?hr ?_; (case hd => rfl); (case hg => rfl); (case hr => first | (go_simp; done) | (go_simp; rfl))
                    intro gb406 hg w577 hbox hb
                    have HS2_ := (hb.cell (World.block_lt_of_cell? _ _ (hHeld.2.2.1))).trans (hHeld.2.2.1)
                    have HS3_ := (hb.cell (World.block_lt_of_cell? _ _ (hHeld.2.2.2.1))).trans (hHeld.2.2.2.1)
                    have HS4_ := (hb.cell (World.block_lt_of_cell? _ _ (hHeld.2.2.2.2))).trans (hHeld.2.2.2.2)
                    have n0_ := Am (Kd.R_below (kW HO_25) hb)
                    have hp0 := pA BK350 hb
                    have hv := vK HB hb
                    have n4_ := Am (bT hv hb)
                    have n5_ := Am (hbox)
                    have GW406 := kG hg hv
                    have GE406 := kG hg hv
                    have hp1 := pK BK350 hb
                    obtain ⟨NB350_406, NB406_350⟩ := kXY hg hp1 BK350
                    obtain ⟨NB351_406, NB406_351⟩ := kXY hg hp1 BK351
                    obtain ⟨NB401_406, NB406_401⟩ := kXY hg hp1 BK401
                    clear HO_25 HB
                    have HO_25 := n0_
                    replace BK350 := hp0 BK350; replace BK351 := hp0 BK351; replace BK401 := hp0 BK401
                    have HB := n4_; have BK406 := n5_
                    clear n4_ n5_ hp0 hp1 hv hb hbox hg
                    refine hK.out _ _ ⟨c20 BK401.out, c21 BK401.out, HS2_, HS3_, HS4_⟩ (fun hHeld => ?_)
                    clear hK K
                    refine norm_ (a' := ?_) ?_ ?_
                    rotate_left
                    ·show Act.put _ (some 34) _ = _
                     simp only [Act.put, List.setIfInBounds_toArray, List.set_cons_zero, List.set_cons_succ, i64_w, i32_w]
                     rfl
                    refine one_ (i := 4) (N := some 232) #[true, true, true, true, true, false, false, false, true, false, false] rfl rfl (one_of HT_.out (by kernel_rfl)) (by decide) (fun K hK => ?_)
                    refine goes_ Try.func15 (by kernel_rfl) rfl #[.agg #[.int .i64 ((rd_T26 t383 0).f0.f0), .int .i64 ((rd_T26 t383 0).f0.f1), .int .i64 ((rd_T26 t383 0).f1)], .agg #[.int .i64 t398, .int .i64 t399]] (by rfl) rfl rfl (by (try simp only [List.map_toArray, List.map_cons, List.map_nil]); first | done | rfl | (simp only [List.length_drop, List.length_take]; rfl)) ?_
                    with_reducible refine (impl_HandAt.calls k5 ((rd_T26 t383 0).f0.f0) ((rd_T26 t383 0).f0.f1) ((rd_T26 t383 0).f1) t398 t399 t403 t404 true _ A560.out).mono ?_
                    rintro e w578 ⟨rfl, hb⟩
                    have HS2_ := (hb.cell (World.block_lt_of_cell? _ _ (hHeld.2.2.1))).trans (hHeld.2.2.1)
                    have HS3_ := (hb.cell (World.block_lt_of_cell? _ _ (hHeld.2.2.2.1))).trans (hHeld.2.2.2.1)
                    have HS4_ := (hb.cell (World.block_lt_of_cell? _ _ (hHeld.2.2.2.2))).trans (hHeld.2.2.2.2)
                    refine ⟨_, rfl, ?_⟩
                    have n0_ := Am (Kd.R_below (kW HO_25) hb)
                    have hp0 := pA BK350 hb
                    have hv := vK HB hb
                    have n5_ := Am (bT hv hb)
                    clear HO_25 HB
                    have HO_25 := n0_
                    replace BK350 := hp0 BK350; replace BK351 := hp0 BK351; replace BK401 := hp0 BK401; replace BK406 := hp0 BK406
                    have HB := n5_
                    clear n0_ n5_ hp0 hv
                    (try clear hb)
                    refine hK.out _ _ ⟨c20 BK401.out, c21 BK401.out, HS2_, HS3_, HS4_⟩ (fun hHeld => ?_)
                    clear hK K
                    refine norm_ (a' := ?_) ?_ ?_
                    rotate_left
                    ·show Act.put _ (some 232) _ = _
                     simp only [Act.put, List.setIfInBounds_toArray, List.set_cons_zero, List.set_cons_succ, i64_w, i32_w]
                     rfl
                    refine pure_ (i := 5) (N := some 227) (v := ?_) (a' := ?_) #[true, true, true, true, true, true, false, false, true, false, false] rfl rfl (any_of HT_.out (by kernel_rfl)) (fun _ _ _ h => h) (Or.inl ⟨by rfl, ?_⟩) ?_ ?_
                    rotate_left
                    ·intro w'
                     go_simp
                     with_reducible rfl
                    rotate_left
                    ·simp only [Act.put, List.setIfInBounds_toArray, List.set_cons_zero, List.set_cons_succ, i64_w, i32_w]
                     rfl
                    refine pure_ (i := 6) (N := some 233) (v := ?_) (a' := ?_) #[true, true, true, true, true, true, true, false, true, false, false] rfl rfl (any_of HT_.out (by kernel_rfl)) (fun _ _ _ h => h) (Or.inl ⟨by rfl, ?_⟩) ?_ ?_
                    rotate_left
                    ·intro w'
                     go_simp
                     with_reducible rfl
                    rotate_left
                    ·simp only [Act.put, List.setIfInBounds_toArray, List.set_cons_zero, List.set_cons_succ, i64_w, i32_w]
                     rfl
                    refine pure_ (i := 7) (N := some 234) (v := ?_) (a' := ?_) (pT 11 9) rfl rfl (any_of HT_.out (by kernel_rfl)) (fun _ _ _ h => h) (Or.inl ⟨by rfl, ?_⟩) ?_ ?_
                    rotate_left
                    ·intro w'
                     go_simp
                     with_reducible rfl
                    rotate_left
                    ·simp only [Act.put, List.setIfInBounds_toArray, List.set_cons_zero, List.set_cons_succ, i64_w, i32_w]
                     rfl
                    exact norm_ (by simp only [putAll, Act.put, List.setIfInBounds_toArray, List.set_cons_zero, List.set_cons_succ]) (hCont (gb406) _ ⟨hHeld, (kW HO_25), (kU BK350), (kU BK351), (kU BK401), (kU BK406), GW406.out, GE406.out, NB350_406.out, NB406_350.out, NB351_406.out, NB406_351.out, NB401_406.out, NB406_401.out, (by repeat (first | (with_reducible first | exact HB.out | apply bA | apply bN | apply bD | refine bX ?_ (by assumption)) | exact HB.out))⟩)
                   rintro gb406 w579 ⟨hS_, h0_, h1_, h2_, h3_, h4_, h5_, h6_, h7_, h8_, h9_, h10_, h11_, h12_, h13_⟩
                   have n0_ : Aside0 (Kd.R k26 26 w579 w.heap.size (fun k_ => k_ ≠ gb351) (.slice (some ad392) t383.length co552) t383) := ⟨h0_⟩
                   have n1_ : Aside0 (w579.heap[gb350]? = some (.cells #[.int .i64 a1_0, .int .i64 a1_1] 24 (0, 0))) := ⟨h1_⟩
                   have n2_ : Aside0 (w579.heap[gb351]? = some (.cells #[.int .i64 a3_0, .int .i64 a3_1, .int .i64 a3_2] 26 (0, 0))) := ⟨h2_⟩
                   have n3_ : Aside0 (w579.heap[gb401]? = some (.cells #[.int .i64 t398, .int .i64 t399] 24 (0, 0))) := ⟨h3_⟩
                   have n4_ : Aside0 (w579.heap[gb406]? = some (.cells #[.int .i64 0, .int .i64 0] 24 (0, 0))) := ⟨h4_⟩
                   have n5_ : Aside0 (w.heap.size ≤ gb406) := ⟨h5_⟩
                   have n6_ : Aside0 (w.heap.size ≤ gb406) := ⟨h6_⟩
                   have n7_ : Aside0 (gb350 ≠ gb406) := ⟨h7_⟩
                   have n8_ : Aside0 (gb406 ≠ gb350) := ⟨h8_⟩
                   have n9_ : Aside0 (gb351 ≠ gb406) := ⟨h9_⟩
                   have n10_ : Aside0 (gb406 ≠ gb351) := ⟨h10_⟩
                   have n11_ : Aside0 (gb401 ≠ gb406) := ⟨h11_⟩
                   have n12_ : Aside0 (gb406 ≠ gb401) := ⟨h12_⟩
                   have n13_ : Aside0 (Below w.heap.size w w579) := ⟨h13_⟩
                   clear HO_25 BK350 BK351 BK401 HB h0_ h1_ h2_ h3_ h4_ h5_ h6_ h7_ h8_ h9_ h10_ h11_ h12_ h13_
                   have HO_25 := n0_; have BK350 := n1_; have BK351 := n2_; have BK401 := n3_; have BK406 := n4_; have GW406 := n5_; have GE406 := n6_; have NB350_406 := n7_; have NB406_350 := n8_; have NB351_406 := n9_; have NB406_351 := n10_; have NB401_406 := n11_; have NB406_401 := n12_; have HB := n13_
                   clear n0_ n1_ n2_ n3_ n4_ n5_ n6_ n7_ n8_ n9_ n10_ n11_ n12_ n13_
                   have hHeld : w579.cell? ⟨gb401, 0, none⟩ = some (.int .i64 t398) ∧ w579.cell? ⟨gb401, 1, none⟩ = some (.int .i64 t399) ∧ w579.cell? ad392 = some (.int .i64 ((rd_T26 t383 0).f0.f0)) ∧ w579.cell? ⟨ad392.block, ad392.off + 1, none⟩ = some (.int .i64 ((rd_T26 t383 0).f0.f1)) ∧ w579.cell? ⟨ad392.block, ad392.off + 2, none⟩ = some (.int .i64 ((rd_T26 t383 0).f1)) := hS_
                   refine norm_ (a' := ?_) ?_ ?_
                   rotate_left
                   ·simp only [putAll, Act.put, List.setIfInBounds_toArray, List.set_cons_zero, List.set_cons_succ]
                    rfl
                   refine one_ (i := 9) (N := none) (pT 11 10) rfl rfl (one_of HT_.out (by kernel_rfl)) (by decide) (fun K hK => ?_)
                   have hs580 : w579.cell? ⟨gb406, 0, none⟩ = some (.int .i64 0) := c20 BK406.out
                   have hfs580 := kF BK406.out 0
                   have hns580_0 := NB350_406.out; have hns580_1 := NB351_406.out; have hns580_2 := NB401_406.out; have hms580_0 := NB406_350.out; have hms580_1 := NB406_351.out; have hms580_2 := NB406_401.out
                   have hs581 : w579.cell? ⟨gb406, 1, none⟩ = some (.int .i64 0) := c21 BK406.out
                   have hfs581 := kF BK406.out 1
                   have hns581_0 := NB350_406.out; have hns581_1 := NB351_406.out; have hns581_2 := NB401_406.out; have hms581_0 := NB406_350.out; have hms581_1 := NB406_351.out; have hms581_2 := NB406_401.out
                   refine skip_ (w1 := ?_) (by rfl) rfl ?_ ?_
                   rotate_left
                   ·go_simp
                    rfl
                   have e0_ : ad392.block ≠ gb406 := Kd.own_blk (Kd.R_ne HO_25.out BK406.out (by decide))
                   refine hK.out _ _ ⟨?_, ?_, ?_, ?_, ?_⟩ (fun hHeld => ?_)
                   · exact (cell_far (p := ⟨gb406, 1, none⟩) (a := ⟨gb401, 0, none⟩) NB401_406.out _).trans ((cell_far (p := ⟨gb406, 0, none⟩) (a := ⟨gb401, 0, none⟩) NB401_406.out _).trans (hHeld.1))
                   · exact (cell_far (p := ⟨gb406, 1, none⟩) (a := ⟨gb401, 1, none⟩) NB401_406.out _).trans ((cell_far (p := ⟨gb406, 0, none⟩) (a := ⟨gb401, 1, none⟩) NB401_406.out _).trans (hHeld.2.1))
                   · exact (cell_far (p := ⟨gb406, 1, none⟩) (a := ad392) e0_ _).trans ((cell_far (p := ⟨gb406, 0, none⟩) (a := ad392) e0_ _).trans (hHeld.2.2.1))
                   · exact (cell_far (p := ⟨gb406, 1, none⟩) (a := ⟨ad392.block, ad392.off + 1, none⟩) e0_ _).trans ((cell_far (p := ⟨gb406, 0, none⟩) (a := ⟨ad392.block, ad392.off + 1, none⟩) e0_ _).trans (hHeld.2.2.2.1))
                   · exact (cell_far (p := ⟨gb406, 1, none⟩) (a := ⟨ad392.block, ad392.off + 2, none⟩) e0_ _).trans ((cell_far (p := ⟨gb406, 0, none⟩) (a := ⟨ad392.block, ad392.off + 2, none⟩) e0_ _).trans (hHeld.2.2.2.2))
                   clear e0_
                   clear hK K
                   refine pI (v := ?_) (a' := ?_) rfl (any_of HT_.out (by kernel_rfl)) (fun _ _ _ h => h) (Or.inl ⟨by rfl, ?_⟩) ?_ ?_
                   rotate_left
                   ·intro w'
                    go_simp
                    with_reducible rfl
                   rotate_left
                   ·show Act.put _ (some _) _ = _
                    simp only [Act.put, List.setIfInBounds_toArray, List.set_cons_zero, List.set_cons_succ, i64_w, i32_w]
                    rfl
                   refine done_ (done_of HT_.out (by kernel_rfl)) ?_
                   try go_wp2
                   have n0_ : Aside0 (Kd.R k26 26 ((w579.setCell ⟨gb406, 0, none⟩ (.int .i64 t403)).setCell ⟨gb406, 1, none⟩ (.int .i64 t404)) w.heap.size (fun k_ => k_ ≠ gb351) (.slice (some ad392) t383.length co552) t383) := ⟨by (with_reducible repeat (first | apply Kd.R_alloc | apply Kd.R_drewN | apply Kd.R_drew)); exact Kd.R_mono (Kd.R_far (p := ⟨gb406, 1, none⟩) (Kd.R_far (p := ⟨gb406, 0, none⟩) (Kd.R_types HO_25.out BK406.out (by decide)) (fun _ hk => hk.2) (.int .i64 t403)) (fun _ hk => hk.2) (.int .i64 t404)) (fun _ hk => hk.1)⟩
                   have hq := hqR (W := ((w579.setCell ⟨gb406, 0, none⟩ (.int .i64 t403)).setCell ⟨gb406, 1, none⟩ (.int .i64 t404))) gb406 BK350.out (fun _ _ q_ h_ => by (with_reducible repeat (first | refine kN ?_ _ | refine kD ?_ | refine kA ?_ _ | refine kZ ?_ q_ _)); exact h_)
                   have n1_ := Am (hq NB350_406.out BK350.out)
                   have n2_ := Am (hq NB351_406.out BK351.out)
                   have n3_ := Am (hq NB401_406.out BK401.out)
                   have n4_ : Aside0 (((w579.setCell ⟨gb406, 0, none⟩ (.int .i64 t403)).setCell ⟨gb406, 1, none⟩ (.int .i64 t404)).heap[gb406]? = some (.cells #[.int .i64 t403, .int .i64 t404] 24 (0, 0))) := ⟨by (with_reducible repeat (first | refine kN ?_ _ | refine kD ?_ | refine kA ?_ _)); refine kP (cs := #[.int .i64 t403, .int .i64 0]) ?_ 1 _ rfl; (with_reducible repeat (first | refine kN ?_ _ | refine kD ?_ | refine kA ?_ _)); refine kP (cs := #[.int .i64 0, .int .i64 0]) ?_ 0 _ rfl; (with_reducible repeat (first | refine kN ?_ _ | refine kD ?_ | refine kA ?_ _)); exact BK406.out⟩
                   have n5_ : Aside0 (Below w.heap.size w ((w579.setCell ⟨gb406, 0, none⟩ (.int .i64 t403)).setCell ⟨gb406, 1, none⟩ (.int .i64 t404))) := ⟨by repeat (first | (with_reducible first | exact HB.out | apply bA | apply bN | apply bD | refine bX ?_ (by assumption)) | exact HB.out)⟩
                   clear hq
                   (try clear HO_25)
                   (try clear BK350)
                   (try clear BK351)
                   (try clear BK401)
                   (try clear BK406)
                   (try clear HB)
                   generalize ((w579.setCell ⟨gb406, 0, none⟩ (.int .i64 t403)).setCell ⟨gb406, 1, none⟩ (.int .i64 t404)) = w582 at n0_ n1_ n2_ n3_ n4_ n5_ ⊢
                   have HO_25 := n0_; have BK350 := n1_; have BK351 := n2_; have BK401 := n3_; have BK406 := n4_; have HB := n5_
                   clear n0_ n1_ n2_ n3_ n4_ n5_
                   have n0_ := Am (Kd.R_drew HO_25.out)
                   have n1_ := Am (kD BK350.out)
                   have n2_ := Am (kD BK351.out)
                   have n3_ := Am (kD BK401.out)
                   have n4_ := Am (kD BK406.out)
                   have n5_ := Am (bD HB.out)
                   clear HO_25 BK350 BK351 BK401 BK406 HB
                   have HO_25 := n0_; have BK350 := n1_; have BK351 := n2_; have BK401 := n3_; have BK406 := n4_; have HB := n5_
                   clear n0_ n1_ n2_ n3_ n4_ n5_
                   have p407 : 0 ≤ (1 : Int) := (by omega)
                   have q407 : 1 < (t383.length : Int) := of_decide_eq_true (by first | (with_reducible assumption) | assumption)
                   obtain ⟨ad407, e407, hx407_0, hx407_1, hx407_2⟩ := at_T26 (Kd.R_reads' HO_25.out).2.2 1 p407 q407
                   obtain rfl : ad392 = ad407 := (by injection e407)
                   (try simp only [show (1 : Int).toNat = 1 from rfl, Nat.reduceMul, Nat.reduceEqDiff, Go.Addr.add, ↓reduceIte] at hx407_0)
                   (try simp only [show (1 : Int).toNat = 1 from rfl, Nat.reduceMul, Nat.reduceEqDiff, Go.Addr.add, ↓reduceIte] at hx407_1)
                   (try simp only [show (1 : Int).toNat = 1 from rfl, Nat.reduceMul, Nat.reduceEqDiff, Go.Addr.add, ↓reduceIte] at hx407_2)
                   have qi407 : (1 < t383.length) = True := eq_true (by omega)
                   (try rw [show ((1 : Int)).toNat = 1 from rfl] at hx407_0)
                   (try rw [show 1 * 3 = 3 from rfl] at hx407_0)
                   (try rw [show ((1 : Int)).toNat = 1 from rfl] at hx407_1)
                   (try rw [show 1 * 3 = 3 from rfl] at hx407_1)
                   (try rw [show ((1 : Int)).toNat = 1 from rfl] at hx407_2)
                   (try rw [show 1 * 3 = 3 from rfl] at hx407_2)
                   replace p407 := eq_true p407
                   replace q407 := eq_true q407
                   refine start_ (n := 11) (S := fun w' => w'.cell? ⟨gb401, 0, none⟩ = some (.int .i64 t398) ∧ w'.cell? ⟨gb401, 1, none⟩ = some (.int .i64 t399) ∧ w'.cell? ⟨ad392.block, ad392.off + 3, none⟩ = some (.int .i64 ((rd_T26 t383 1).f0.f0)) ∧ w'.cell? ⟨ad392.block, ad392.off + 3 + 1, none⟩ = some (.int .i64 ((rd_T26 t383 1).f0.f1)) ∧ w'.cell? ⟨ad392.block, ad392.off + 3 + 2, none⟩ = some (.int .i64 ((rd_T26 t383 1).f1))) (ds := []) (pT 11 0) (by kernel_rfl) rfl rfl ⟨c20 BK401.out, c21 BK401.out, hx407_0, hx407_1, hx407_2⟩ (fun hHeld => ?_); refine with_tabW laws_FnHandsSpreadOfAll.tab42 laws_FnHandsSpreadOfAll.bits42 (fun HT_ HW_ => ?_)
                   generalize w582.drew = w583 at HO_25 BK350 BK351 BK401 BK406 HB hx407_0 hx407_1 hx407_2 hHeld ⊢
                   iterate 4
                    first
                    | refine pI (v := ?_) (a' := ?_) rfl (any_of HT_.out (by kernel_rfl)) (fun _ _ _ h => h) (Or.inl ⟨by rfl, ?_⟩) ?_ ?_
                      rotate_left
                      ·intro w'
                       go_simp
                       with_reducible rfl
                      rotate_left
                      ·show Act.put _ (some _) _ = _
                       simp only [Act.put, List.setIfInBounds_toArray, List.set_cons_zero, List.set_cons_succ, i64_w, i32_w]
                       rfl
                    | refine tI (v := ?_) (a' := ?_) rfl (take_ofW HT_.out HW_.out (by kernel_rfl)) (fun _ _ _ h => h) (Or.inl ⟨by rfl, ?_⟩) hHeld ?_ ?_
                      rotate_left
                      ·rintro w' ⟨s0, s1, s2, s3, s4⟩
                       go_simp
                       with_reducible rfl
                      rotate_left
                      ·show Act.put _ (some _) _ = _
                       simp only [Act.put, List.setIfInBounds_toArray, List.set_cons_zero, List.set_cons_succ, i64_w, i32_w]
                       rfl
                   refine join_ (σ := Nat) 2 (pT 11 9) (fun s_ => [(240, .tuple #[.agg #[.int .i64 t408, .int .i64 t409], .bool true]), (36, .pointer (some ⟨s_, 0, none⟩)), (235, .tuple #[.agg #[.int .i64 t408, .int .i64 t409], .bool true]), (241, .agg #[.int .i64 t408, .int .i64 t409]), (242, .bool true)]) (fun s_ w' => (w'.cell? ⟨gb401, 0, none⟩ = some (.int .i64 t398) ∧ w'.cell? ⟨gb401, 1, none⟩ = some (.int .i64 t399) ∧ w'.cell? ⟨ad392.block, ad392.off + 3, none⟩ = some (.int .i64 ((rd_T26 t383 1).f0.f0)) ∧ w'.cell? ⟨ad392.block, ad392.off + 3 + 1, none⟩ = some (.int .i64 ((rd_T26 t383 1).f0.f1)) ∧ w'.cell? ⟨ad392.block, ad392.off + 3 + 2, none⟩ = some (.int .i64 ((rd_T26 t383 1).f1))) ∧ (Kd.R k26 26 w' w.heap.size (fun k_ => k_ ≠ gb351) (.slice (some ad392) t383.length co552) t383) ∧ (w'.heap[gb350]? = some (.cells #[.int .i64 a1_0, .int .i64 a1_1] 24 (0, 0))) ∧ (w'.heap[gb351]? = some (.cells #[.int .i64 a3_0, .int .i64 a3_1, .int .i64 a3_2] 26 (0, 0))) ∧ (w'.heap[gb401]? = some (.cells #[.int .i64 t398, .int .i64 t399] 24 (0, 0))) ∧ (w'.heap[gb406]? = some (.cells #[.int .i64 t403, .int .i64 t404] 24 (0, 0))) ∧ (w'.heap[s_]? = some (.cells #[.int .i64 0, .int .i64 0] 24 (0, 0))) ∧ (w.heap.size ≤ s_) ∧ (w.heap.size ≤ s_) ∧ (gb350 ≠ s_) ∧ (s_ ≠ gb350) ∧ (gb351 ≠ s_) ∧ (s_ ≠ gb351) ∧ (gb401 ≠ s_) ∧ (s_ ≠ gb401) ∧ (gb406 ≠ s_) ∧ (s_ ≠ gb406) ∧ (Below w.heap.size w w')) ?_ ?_
                   rotate_left
                   ·intro hCont
                    refine two_ (i := 4) (j := 8) (Ni := some 240) (Nj := some 36) (pT 11 5) #[true, true, true, true, false, false, false, false, true, false, false] rfl rfl rfl rfl (two_of HT_.out (by kernel_rfl)) (by decide) (by decide) (fun K hK => ?_) (fun K hK => ?_)
                    ·skip
                     refine goes_ Try.func15 (by kernel_rfl) rfl #[.agg #[.int .i64 ((rd_T26 t383 1).f0.f0), .int .i64 ((rd_T26 t383 1).f0.f1), .int .i64 ((rd_T26 t383 1).f1)], .agg #[.int .i64 t398, .int .i64 t399]] (by rfl) rfl rfl (by (try simp only [List.map_toArray, List.map_cons, List.map_nil]); first | done | rfl | (simp only [List.length_drop, List.length_take]; rfl)) ?_
                     with_reducible refine (impl_HandAt.calls k5 ((rd_T26 t383 1).f0.f0) ((rd_T26 t383 1).f0.f1) ((rd_T26 t383 1).f1) t398 t399 t408 t409 true _ A562.out).mono ?_
                     rintro e w584 ⟨rfl, hb⟩
                     have HS2_ := (hb.cell (World.block_lt_of_cell? _ _ (hHeld.2.2.1))).trans (hHeld.2.2.1)
                     have HS3_ := (hb.cell (World.block_lt_of_cell? _ _ (hHeld.2.2.2.1))).trans (hHeld.2.2.2.1)
                     have HS4_ := (hb.cell (World.block_lt_of_cell? _ _ (hHeld.2.2.2.2))).trans (hHeld.2.2.2.2)
                     refine ⟨_, rfl, ?_⟩
                     have n0_ := Am (Kd.R_below (kW HO_25) hb)
                     have hp0 := pA BK350 hb
                     have hv := vK HB hb
                     have n5_ := Am (bT hv hb)
                     clear HO_25 HB
                     have HO_25 := n0_
                     replace BK350 := hp0 BK350; replace BK351 := hp0 BK351; replace BK401 := hp0 BK401; replace BK406 := hp0 BK406
                     have HB := n5_
                     clear n0_ n5_ hp0 hv
                     (try clear hb)
                     refine hK.out _ _ ⟨c20 BK401.out, c21 BK401.out, HS2_, HS3_, HS4_⟩ (fun hHeld => ?_)
                     clear hK K
                     refine norm_ (a' := ?_) ?_ ?_
                     rotate_left
                     ·show Act.put _ (some 240) _ = _
                      simp only [Act.put, List.setIfInBounds_toArray, List.set_cons_zero, List.set_cons_succ, i64_w, i32_w]
                      rfl
                     iterate 3
                      refine pI (v := ?_) (a' := ?_) rfl (any_of HT_.out (by kernel_rfl)) (fun _ _ _ h => h) (Or.inl ⟨by rfl, ?_⟩) ?_ ?_
                      rotate_left
                      ·intro w'
                       go_simp
                       with_reducible rfl
                      rotate_left
                      ·show Act.put _ (some _) _ = _
                       simp only [Act.put, List.setIfInBounds_toArray, List.set_cons_zero, List.set_cons_succ, i64_w, i32_w]
                       rfl
                     refine one_ (i := 8) (N := some 36) (pT 11 9) rfl rfl (one_of HT_.out (by kernel_rfl)) (by decide) (fun K hK => ?_)
                     refine box_step ?hg (N := 36) ?hd (cs := #[.int .i64 0, .int .i64 0]) (t := 24) ?hr ?_; (case hd => rfl); (case hg => rfl); (case hr => first | (go_simp; done) | (go_simp; rfl))
                     intro gb411 hg w585 hbox hb
                     have HS2_ := (hb.cell (World.block_lt_of_cell? _ _ (hHeld.2.2.1))).trans (hHeld.2.2.1)
                     have HS3_ := (hb.cell (World.block_lt_of_cell? _ _ (hHeld.2.2.2.1))).trans (hHeld.2.2.2.1)
                     have HS4_ := (hb.cell (World.block_lt_of_cell? _ _ (hHeld.2.2.2.2))).trans (hHeld.2.2.2.2)
                     have n0_ := Am (Kd.R_below (kW HO_25) hb)
                     have hp0 := pA BK350 hb
                     have hv := vK HB hb
                     have n5_ := Am (bT hv hb)
                     have n6_ := Am (hbox)
                     have GW411 := kG hg hv
                     have GE411 := kG hg hv
                     have hp1 := pK BK350 hb
                     obtain ⟨NB350_411, NB411_350⟩ := kXY hg hp1 BK350
                     obtain ⟨NB351_411, NB411_351⟩ := kXY hg hp1 BK351
                     obtain ⟨NB401_411, NB411_401⟩ := kXY hg hp1 BK401
                     obtain ⟨NB406_411, NB411_406⟩ := kXY hg hp1 BK406
                     clear HO_25 HB
                     have HO_25 := n0_
                     replace BK350 := hp0 BK350; replace BK351 := hp0 BK351; replace BK401 := hp0 BK401; replace BK406 := hp0 BK406
                     have HB := n5_; have BK411 := n6_
                     clear n5_ n6_ hp0 hp1 hv hb hbox hg
                     refine hK.out _ _ ⟨c20 BK401.out, c21 BK401.out, HS2_, HS3_, HS4_⟩ (fun hHeld => ?_)
                     clear hK K
                     refine norm_ (a' := ?_) ?_ ?_
                     rotate_left
                     ·show Act.put _ (some 36) _ = _
                      simp only [Act.put, List.setIfInBounds_toArray, List.set_cons_zero, List.set_cons_succ, i64_w, i32_w]
                      rfl
                     exact norm_ (by simp only [putAll, Act.put, List.setIfInBounds_toArray, List.set_cons_zero, List.set_cons_succ]) (hCont (gb411) _ ⟨hHeld, (kW HO_25), (kU BK350), (kU BK351), (kU BK401), (kU BK406), (kU BK411), GW411.out, GE411.out, NB350_411.out, NB411_350.out, NB351_411.out, NB411_351.out, NB401_411.out, NB411_401.out, NB406_411.out, NB411_406.out, (by repeat (first | (with_reducible first | exact HB.out | apply bA | apply bN | apply bD | refine bX ?_ (by assumption)) | exact HB.out))⟩)
                    skip
                    refine box_step ?hg (N := 36) ?hd (cs := #[.int .i64 0, .int .i64 0]) (t := 24) ?hr ?_; (case hd => rfl); (case hg => rfl); (case hr => first | (go_simp; done) | (go_simp; rfl))
                    intro gb411 hg w584 hbox hb
                    have HS2_ := (hb.cell (World.block_lt_of_cell? _ _ (hHeld.2.2.1))).trans (hHeld.2.2.1)
                    have HS3_ := (hb.cell (World.block_lt_of_cell? _ _ (hHeld.2.2.2.1))).trans (hHeld.2.2.2.1)
                    have HS4_ := (hb.cell (World.block_lt_of_cell? _ _ (hHeld.2.2.2.2))).trans (hHeld.2.2.2.2)
                    have n0_ := Am (Kd.R_below (kW HO_25) hb)
                    have hp0 := pA BK350 hb
                    have hv := vK HB hb
                    have n5_ := Am (bT hv hb)
                    have n6_ := Am (hbox)
                    have GW411 := kG hg hv
                    have GE411 := kG hg hv
                    have hp1 := pK BK350 hb
                    obtain ⟨NB350_411, NB411_350⟩ := kXY hg hp1 BK350
                    obtain ⟨NB351_411, NB411_351⟩ := kXY hg hp1 BK351
                    obtain ⟨NB401_411, NB411_401⟩ := kXY hg hp1 BK401
                    obtain ⟨NB406_411, NB411_406⟩ := kXY hg hp1 BK406
                    clear HO_25 HB
                    have HO_25 := n0_
                    replace BK350 := hp0 BK350; replace BK351 := hp0 BK351; replace BK401 := hp0 BK401; replace BK406 := hp0 BK406
                    have HB := n5_; have BK411 := n6_
                    clear n5_ n6_ hp0 hp1 hv hb hbox hg
                    refine hK.out _ _ ⟨c20 BK401.out, c21 BK401.out, HS2_, HS3_, HS4_⟩ (fun hHeld => ?_)
                    clear hK K
                    refine norm_ (a' := ?_) ?_ ?_
                    rotate_left
                    ·show Act.put _ (some 36) _ = _
                     simp only [Act.put, List.setIfInBounds_toArray, List.set_cons_zero, List.set_cons_succ, i64_w, i32_w]
                     rfl
                    refine one_ (i := 4) (N := some 240) #[true, true, true, true, true, false, false, false, true, false, false] rfl rfl (one_of HT_.out (by kernel_rfl)) (by decide) (fun K hK => ?_)
                    refine goes_ Try.func15 (by kernel_rfl) rfl #[.agg #[.int .i64 ((rd_T26 t383 1).f0.f0), .int .i64 ((rd_T26 t383 1).f0.f1), .int .i64 ((rd_T26 t383 1).f1)], .agg #[.int .i64 t398, .int .i64 t399]] (by rfl) rfl rfl (by (try simp only [List.map_toArray, List.map_cons, List.map_nil]); first | done | rfl | (simp only [List.length_drop, List.length_take]; rfl)) ?_
                    with_reducible refine (impl_HandAt.calls k5 ((rd_T26 t383 1).f0.f0) ((rd_T26 t383 1).f0.f1) ((rd_T26 t383 1).f1) t398 t399 t408 t409 true _ A562.out).mono ?_
                    rintro e w585 ⟨rfl, hb⟩
                    have HS2_ := (hb.cell (World.block_lt_of_cell? _ _ (hHeld.2.2.1))).trans (hHeld.2.2.1)
                    have HS3_ := (hb.cell (World.block_lt_of_cell? _ _ (hHeld.2.2.2.1))).trans (hHeld.2.2.2.1)
                    have HS4_ := (hb.cell (World.block_lt_of_cell? _ _ (hHeld.2.2.2.2))).trans (hHeld.2.2.2.2)
                    refine ⟨_, rfl, ?_⟩
                    have n0_ := Am (Kd.R_below (kW HO_25) hb)
                    have hp0 := pA BK350 hb
                    have hv := vK HB hb
                    have n6_ := Am (bT hv hb)
                    clear HO_25 HB
                    have HO_25 := n0_
                    replace BK350 := hp0 BK350; replace BK351 := hp0 BK351; replace BK401 := hp0 BK401; replace BK406 := hp0 BK406; replace BK411 := hp0 BK411
                    have HB := n6_
                    clear n0_ n6_ hp0 hv
                    (try clear hb)
                    refine hK.out _ _ ⟨c20 BK401.out, c21 BK401.out, HS2_, HS3_, HS4_⟩ (fun hHeld => ?_)
                    clear hK K
                    refine norm_ (a' := ?_) ?_ ?_
                    rotate_left
                    ·show Act.put _ (some 240) _ = _
                     simp only [Act.put, List.setIfInBounds_toArray, List.set_cons_zero, List.set_cons_succ, i64_w, i32_w]
                     rfl
                    refine pure_ (i := 5) (N := some 235) (v := ?_) (a' := ?_) #[true, true, true, true, true, true, false, false, true, false, false] rfl rfl (any_of HT_.out (by kernel_rfl)) (fun _ _ _ h => h) (Or.inl ⟨by rfl, ?_⟩) ?_ ?_
                    rotate_left
                    ·intro w'
                     go_simp
                     with_reducible rfl
                    rotate_left
                    ·simp only [Act.put, List.setIfInBounds_toArray, List.set_cons_zero, List.set_cons_succ, i64_w, i32_w]
                     rfl
                    refine pure_ (i := 6) (N := some 241) (v := ?_) (a' := ?_) #[true, true, true, true, true, true, true, false, true, false, false] rfl rfl (any_of HT_.out (by kernel_rfl)) (fun _ _ _ h => h) (Or.inl ⟨by rfl, ?_⟩) ?_ ?_
                    rotate_left
                    ·intro w'
                     go_simp
                     with_reducible rfl
                    rotate_left
                    ·simp only [Act.put, List.setIfInBounds_toArray, List.set_cons_zero, List.set_cons_succ, i64_w, i32_w]
                     rfl
                    refine pure_ (i := 7) (N := some 242) (v := ?_) (a' := ?_) (pT 11 9) rfl rfl (any_of HT_.out (by kernel_rfl)) (fun _ _ _ h => h) (Or.inl ⟨by rfl, ?_⟩) ?_ ?_
                    rotate_left
                    ·intro w'
                     go_simp
                     with_reducible rfl
                    rotate_left
                    ·simp only [Act.put, List.setIfInBounds_toArray, List.set_cons_zero, List.set_cons_succ, i64_w, i32_w]
                     rfl
                    exact norm_ (by simp only [putAll, Act.put, List.setIfInBounds_toArray, List.set_cons_zero, List.set_cons_succ]) (hCont (gb411) _ ⟨hHeld, (kW HO_25), (kU BK350), (kU BK351), (kU BK401), (kU BK406), (kU BK411), GW411.out, GE411.out, NB350_411.out, NB411_350.out, NB351_411.out, NB411_351.out, NB401_411.out, NB411_401.out, NB406_411.out, NB411_406.out, (by repeat (first | (with_reducible first | exact HB.out | apply bA | apply bN | apply bD | refine bX ?_ (by assumption)) | exact HB.out))⟩)
                   rintro gb411 w586 ⟨hS_, h0_, h1_, h2_, h3_, h4_, h5_, h6_, h7_, h8_, h9_, h10_, h11_, h12_, h13_, h14_, h15_, h16_⟩
                   have n0_ : Aside0 (Kd.R k26 26 w586 w.heap.size (fun k_ => k_ ≠ gb351) (.slice (some ad392) t383.length co552) t383) := ⟨h0_⟩
                   have n1_ : Aside0 (w586.heap[gb350]? = some (.cells #[.int .i64 a1_0, .int .i64 a1_1] 24 (0, 0))) := ⟨h1_⟩
                   have n2_ : Aside0 (w586.heap[gb351]? = some (.cells #[.int .i64 a3_0, .int .i64 a3_1, .int .i64 a3_2] 26 (0, 0))) := ⟨h2_⟩
                   have n3_ : Aside0 (w586.heap[gb401]? = some (.cells #[.int .i64 t398, .int .i64 t399] 24 (0, 0))) := ⟨h3_⟩
                   have n4_ : Aside0 (w586.heap[gb406]? = some (.cells #[.int .i64 t403, .int .i64 t404] 24 (0, 0))) := ⟨h4_⟩
                   have n5_ : Aside0 (w586.heap[gb411]? = some (.cells #[.int .i64 0, .int .i64 0] 24 (0, 0))) := ⟨h5_⟩
                   have n6_ : Aside0 (w.heap.size ≤ gb411) := ⟨h6_⟩
                   have n7_ : Aside0 (w.heap.size ≤ gb411) := ⟨h7_⟩
                   have n8_ : Aside0 (gb350 ≠ gb411) := ⟨h8_⟩
                   have n9_ : Aside0 (gb411 ≠ gb350) := ⟨h9_⟩
                   have n10_ : Aside0 (gb351 ≠ gb411) := ⟨h10_⟩
                   have n11_ : Aside0 (gb411 ≠ gb351) := ⟨h11_⟩
                   have n12_ : Aside0 (gb401 ≠ gb411) := ⟨h12_⟩
                   have n13_ : Aside0 (gb411 ≠ gb401) := ⟨h13_⟩
                   have n14_ : Aside0 (gb406 ≠ gb411) := ⟨h14_⟩
                   have n15_ : Aside0 (gb411 ≠ gb406) := ⟨h15_⟩
                   have n16_ : Aside0 (Below w.heap.size w w586) := ⟨h16_⟩
                   clear HO_25 BK350 BK351 BK401 BK406 HB h0_ h1_ h2_ h3_ h4_ h5_ h6_ h7_ h8_ h9_ h10_ h11_ h12_ h13_ h14_ h15_ h16_
                   have HO_25 := n0_; have BK350 := n1_; have BK351 := n2_; have BK401 := n3_; have BK406 := n4_; have BK411 := n5_; have GW411 := n6_; have GE411 := n7_; have NB350_411 := n8_; have NB411_350 := n9_; have NB351_411 := n10_; have NB411_351 := n11_; have NB401_411 := n12_; have NB411_401 := n13_; have NB406_411 := n14_; have NB411_406 := n15_; have HB := n16_
                   clear n0_ n1_ n2_ n3_ n4_ n5_ n6_ n7_ n8_ n9_ n10_ n11_ n12_ n13_ n14_ n15_ n16_
                   have hHeld : w586.cell? ⟨gb401, 0, none⟩ = some (.int .i64 t398) ∧ w586.cell? ⟨gb401, 1, none⟩ = some (.int .i64 t399) ∧ w586.cell? ⟨ad392.block, ad392.off + 3, none⟩ = some (.int .i64 ((rd_T26 t383 1).f0.f0)) ∧ w586.cell? ⟨ad392.block, ad392.off + 3 + 1, none⟩ = some (.int .i64 ((rd_T26 t383 1).f0.f1)) ∧ w586.cell? ⟨ad392.block, ad392.off + 3 + 2, none⟩ = some (.int .i64 ((rd_T26 t383 1).f1)) := hS_
                   refine norm_ (a' := ?_) ?_ ?_
                   rotate_left
                   ·simp only [putAll, Act.put, List.setIfInBounds_toArray, List.set_cons_zero, List.set_cons_succ]
                    rfl
                   refine one_ (i := 9) (N := none) (pT 11 10) rfl rfl (one_of HT_.out (by kernel_rfl)) (by decide) (fun K hK => ?_)
                   have hs587 : w586.cell? ⟨gb411, 0, none⟩ = some (.int .i64 0) := c20 BK411.out
                   have hfs587 := kF BK411.out 0
                   have hns587_0 := NB350_411.out; have hns587_1 := NB351_411.out; have hns587_2 := NB401_411.out; have hns587_3 := NB406_411.out; have hms587_0 := NB411_350.out; have hms587_1 := NB411_351.out; have hms587_2 := NB411_401.out; have hms587_3 := NB411_406.out
                   have hs588 : w586.cell? ⟨gb411, 1, none⟩ = some (.int .i64 0) := c21 BK411.out
                   have hfs588 := kF BK411.out 1
                   have hns588_0 := NB350_411.out; have hns588_1 := NB351_411.out; have hns588_2 := NB401_411.out; have hns588_3 := NB406_411.out; have hms588_0 := NB411_350.out; have hms588_1 := NB411_351.out; have hms588_2 := NB411_401.out; have hms588_3 := NB411_406.out
                   refine skip_ (w1 := ?_) (by rfl) rfl ?_ ?_
                   rotate_left
                   ·go_simp
                    rfl
                   have e0_ : ad392.block ≠ gb411 := Kd.own_blk (Kd.R_ne HO_25.out BK411.out (by decide))
                   refine hK.out _ _ ⟨?_, ?_, ?_, ?_, ?_⟩ (fun hHeld => ?_)
                   · exact (cell_far (p := ⟨gb411, 1, none⟩) (a := ⟨gb401, 0, none⟩) NB401_411.out _).trans ((cell_far (p := ⟨gb411, 0, none⟩) (a := ⟨gb401, 0, none⟩) NB401_411.out _).trans (hHeld.1))
                   · exact (cell_far (p := ⟨gb411, 1, none⟩) (a := ⟨gb401, 1, none⟩) NB401_411.out _).trans ((cell_far (p := ⟨gb411, 0, none⟩) (a := ⟨gb401, 1, none⟩) NB401_411.out _).trans (hHeld.2.1))
                   · exact (cell_far (p := ⟨gb411, 1, none⟩) (a := ⟨ad392.block, ad392.off + 3, none⟩) e0_ _).trans ((cell_far (p := ⟨gb411, 0, none⟩) (a := ⟨ad392.block, ad392.off + 3, none⟩) e0_ _).trans (hHeld.2.2.1))
                   · exact (cell_far (p := ⟨gb411, 1, none⟩) (a := ⟨ad392.block, ad392.off + 3 + 1, none⟩) e0_ _).trans ((cell_far (p := ⟨gb411, 0, none⟩) (a := ⟨ad392.block, ad392.off + 3 + 1, none⟩) e0_ _).trans (hHeld.2.2.2.1))
                   · exact (cell_far (p := ⟨gb411, 1, none⟩) (a := ⟨ad392.block, ad392.off + 3 + 2, none⟩) e0_ _).trans ((cell_far (p := ⟨gb411, 0, none⟩) (a := ⟨ad392.block, ad392.off + 3 + 2, none⟩) e0_ _).trans (hHeld.2.2.2.2))
                   clear e0_
                   clear hK K
                   refine pI (v := ?_) (a' := ?_) rfl (any_of HT_.out (by kernel_rfl)) (fun _ _ _ h => h) (Or.inl ⟨by rfl, ?_⟩) ?_ ?_
                   rotate_left
                   ·intro w'
                    go_simp
                    with_reducible rfl
                   rotate_left
                   ·show Act.put _ (some _) _ = _
                    simp only [Act.put, List.setIfInBounds_toArray, List.set_cons_zero, List.set_cons_succ, i64_w, i32_w]
                    rfl
                   refine done_ (done_of HT_.out (by kernel_rfl)) ?_
                   have nq589 := kO NB401_406; have nq590 := kO NB401_411
                   have zq591 := c2 BK401
                   try go_wp2_with (first | ((with_reducible refine gate_callee (f := 16) rfl ?_); refine gL (some 246) Try.func16 #[.int .i64 a2, .agg #[.int .i64 t398, .int .i64 t399]] rfl ?_; (with_reducible refine (impl_LongHand.calls k5 a2 t398 t399 t412 t413 true _ A563.out).mono ?_); rintro e w592 ⟨rfl, hb⟩; refine ⟨_, rfl, ?_⟩; have n0_ := Am (Kd.R_below (by (with_reducible repeat (first | apply Kd.R_alloc | apply Kd.R_drewN | apply Kd.R_drew)); exact (Kd.R_mono (Kd.R_far (p := ⟨gb411, 1, none⟩) (Kd.R_far (p := ⟨gb411, 0, none⟩) (Kd.R_types HO_25.out BK411.out (by decide)) (fun _ hk => hk.2) (.int .i64 t408)) (fun _ hk => hk.2) (.int .i64 t409)) (fun _ h_ => h_.1))) hb); have hp0 := pB gb411 BK350 hb; have n5_ := Am (kB (g := gb411) (o := .cells #[.int .i64 t408, .int .i64 t409] 24 (0, 0)) (by (with_reducible repeat (first | refine kN ?_ _ | refine kD ?_ | refine kA ?_ _)); refine kP (cs := #[.int .i64 t408, .int .i64 0]) ?_ 1 _ rfl; (with_reducible repeat (first | refine kN ?_ _ | refine kD ?_ | refine kA ?_ _)); refine kP (cs := #[.int .i64 0, .int .i64 0]) ?_ 0 _ rfl; (with_reducible repeat (first | refine kN ?_ _ | refine kD ?_ | refine kA ?_ _)); exact BK411.out) hb); have hv := vK HB hb; have n6_ := Am (bT hv hb); clear HO_25; clear BK411; clear HB; have HO_25 := n0_; replace BK350 := hp0 NB350_411 BK350; replace BK351 := hp0 NB351_411 BK351; replace BK401 := hp0 NB401_411 BK401; replace BK406 := hp0 NB406_411 BK406; have BK411 := n5_; have HB := n6_; clear n0_ n5_ n6_ hp0 hv; (try clear hb); (try clear hk)) | ((with_reducible refine gate_dst (N := 38) rfl ?_); refine bE 38 #[.int .i64 0, .int .i64 0] 24 ?_; intro gb415 hg w593 hbox hb; have n0_ := Am (Kd.R_below (kW HO_25) hb); have hp0 := pA BK350 hb; have hv := vK HB hb; have n6_ := Am (bT hv hb); have n7_ := Am (hbox); have GW415 := kG hg hv; have GE415 := kG hg hv; have hp1 := pK BK350 hb; obtain ⟨NB350_415, NB415_350⟩ := kXY hg hp1 BK350; obtain ⟨NB351_415, NB415_351⟩ := kXY hg hp1 BK351; obtain ⟨NB401_415, NB415_401⟩ := kXY hg hp1 BK401; obtain ⟨NB406_415, NB415_406⟩ := kXY hg hp1 BK406; obtain ⟨NB411_415, NB415_411⟩ := kXY hg hp1 BK411; clear HO_25; clear HB; have HO_25 := n0_; replace BK350 := hp0 BK350; replace BK351 := hp0 BK351; replace BK401 := hp0 BK401; replace BK406 := hp0 BK406; replace BK411 := hp0 BK411; have HB := n6_; have BK415 := n7_; clear n0_ n6_ n7_ hp0 hp1 hv; clear hb hbox hg; have nq594 := kO NB415_350; have nq595 := kO NB415_351; have nq596 := kO NB415_401; have nq597 := kO NB415_406; have nq598 := kO NB415_411; have hcz599_0 : w593.cell? ⟨gb415, 0, none⟩ = some (.int .i64 0) := (kC BK415.out 0).trans rfl; have hcz599_1 : w593.cell? ⟨gb415, 1, none⟩ = some (.int .i64 0) := (kC BK415.out 1).trans rfl; have hfz599_0 := kF BK415.out 0; have hfz599_1 := kF BK415.out 1; have nq600 := kO NB406_350; have nq601 := kO NB406_351; have nq602 := kO NB406_411; have zq603 := c2 BK406; have zq604 := c2 BK401; have nq605 := kO NB411_350; have nq606 := kO NB411_351; have zq607 := c2 BK411))
                   go_roundg k5
                   case measure => have := HJ11.out; have := HJ31.out; have := HJ537.out; have := HJ550.out; have := HK5.out; omega
                   case rel => exact ⟨(wrap64 (x31_5 + 1)), (by first | rfl | (simp; done) | (simp [*]; done)), H', ⟨by have := HJ11.out; have := HJ31.out; have := HJ537.out; have := HJ550.out; have := HK5.out; omega⟩, ⟨by (with_reducible repeat (first | apply Kd.R_alloc | apply Kd.R_drewN | apply Kd.R_drew)); exact Kd.R_mono (Kd.R_far (p := ⟨gb415, 1, none⟩) (Kd.R_far (p := ⟨gb415, 0, none⟩) (Kd.R_types HO_25.out BK415.out (by decide)) (fun _ hk => hk.2) (.int .i64 t412)) (fun _ hk => hk.2) (.int .i64 t413)) (fun _ hk => hk.1)⟩, ⟨by (with_reducible repeat (first | refine kN ?_ _ | refine kD ?_ | refine kA ?_ _)); refine kR ?_ NB350_415.out _; (with_reducible repeat (first | refine kN ?_ _ | refine kD ?_ | refine kA ?_ _)); refine kR ?_ NB350_415.out _; (with_reducible repeat (first | refine kN ?_ _ | refine kD ?_ | refine kA ?_ _)); exact BK350.out⟩, ⟨by (with_reducible repeat (first | refine kN ?_ _ | refine kD ?_ | refine kA ?_ _)); refine kR ?_ NB351_415.out _; (with_reducible repeat (first | refine kN ?_ _ | refine kD ?_ | refine kA ?_ _)); refine kR ?_ NB351_415.out _; (with_reducible repeat (first | refine kN ?_ _ | refine kD ?_ | refine kA ?_ _)); exact BK351.out⟩, ⟨by repeat (first | (with_reducible first | exact HB.out | apply bA | apply bN | apply bD | refine bX ?_ (by assumption)) | exact HB.out)⟩⟩
                 replace c568 := Bool.eq_false_iff.mpr c568
                 subst c568
                 have H1 : (some false) = some r := by rw [if_neg (show ¬ (false = true) by decide)] at H; exact H
                 clear H
                 have H := H1
                 clear H1
                 as_aux_lemma =>
                  exact absurd ((Option.some.inj H).trans hlaw.out) (by decide)
                replace c567 := Bool.eq_false_iff.mpr c567
                subst c567
                have H1 : (some false) = some r := by rw [if_neg (show ¬ (false = true) by decide)] at H; exact H
                clear H
                have H := H1
                clear H1
                as_aux_lemma =>
                 exact absurd ((Option.some.inj H).trans hlaw.out) (by decide)
               replace c565 := Bool.eq_false_iff.mpr c565
               subst c565
               have H1 : (some false) = some r := by rw [if_neg (show ¬ (false = true) by decide)] at H; exact H
               clear H
               have H := H1
               clear H1
               as_aux_lemma =>
                exact absurd ((Option.some.inj H).trans hlaw.out) (by decide)
              replace c564 := Bool.eq_false_iff.mpr c564
              subst c564
              have H1 : (some false) = some r := by rw [if_neg (show ¬ (false = true) by decide)] at H; exact H
              clear H
              have H := H1
              clear H1
              as_aux_lemma =>
               exact absurd ((Option.some.inj H).trans hlaw.out) (by decide)
             rw [if_neg c561] at H
             exact absurd H (by simp)
            rw [if_neg c559] at H
            exact absurd H (by simp)
           rw [if_neg c557] at H
           have c557b0 : decide (x31_5 < a2) = false := decide_eq_false c557
           clear c557
           replace H := Option.bind_eq_some_iff.mp H
           obtain ⟨t396, A6080, H⟩ := H
           try dsimp only at H
           have A608 := Am A6080
           clear A6080
           replace H := Option.bind_eq_some_iff.mp H
           obtain ⟨t397, A6090, H⟩ := H
           try dsimp only at H
           have A609 := Am A6090
           clear A6090
           as_aux_lemma =>
            obtain rfl := Option.some.inj H
            try go_wp2
            have n0_ := Am (Kd.R_drew HO_25.out)
            have n1_ := Am (kD BK350.out)
            have n2_ := Am (kD BK351.out)
            have n3_ := Am (bD HB.out)
            clear HO_25 BK350 BK351 HB
            have HO_25 := n0_; have BK350 := n1_; have BK351 := n2_; have HB := n3_
            clear n0_ n1_ n2_ n3_
            refine start_ (n := 6) (S := fun w' => w'.cell? ⟨gb351, 0, none⟩ = some (.int .i64 a3_0) ∧ w'.cell? ⟨gb351, 1, none⟩ = some (.int .i64 a3_1) ∧ w'.cell? ⟨gb351, 2, none⟩ = some (.int .i64 a3_2)) (ds := []) (pT 6 0) (by kernel_rfl) rfl rfl ⟨c30 BK351.out, c31 BK351.out, c32 BK351.out⟩ (fun hHeld => ?_)
            generalize wr.drew = w610 at HO_25 BK350 BK351 HB hHeld ⊢
            refine tI (v := ?_) (a' := ?_) rfl (by kernel_rfl) (fun _ _ _ h => h) (Or.inl ⟨by rfl, ?_⟩) hHeld ?_ ?_
            rotate_left
            ·rintro w' ⟨s0, s1, s2⟩
             go_simp
             with_reducible rfl
            rotate_left
            ·show Act.put _ (some _) _ = _
             simp only [Act.put, List.setIfInBounds_toArray, List.set_cons_zero, List.set_cons_succ, i64_w, i32_w]
             rfl
            refine take_ (i := 2) (N := some 275) (v := ?_) (a' := ?_) #[true, false, true, false, false, false] rfl rfl (by kernel_rfl) (fun _ _ _ h => h) (Or.inl ⟨by rfl, ?_⟩) hHeld ?_ ?_
            rotate_left
            ·rintro w' ⟨s0, s1, s2⟩
             go_simp
             with_reducible rfl
            rotate_left
            ·simp only [Act.put, List.setIfInBounds_toArray, List.set_cons_zero, List.set_cons_succ, i64_w, i32_w]
             rfl
            refine one_ (i := 1) (N := some 274) (pT 6 3) rfl rfl (by kernel_rfl) (by decide) (fun K hK => ?_)
            refine goes_ Try.func17 (by kernel_rfl) rfl #[.agg #[.int .i64 a3_0, .int .i64 a3_1, .int .i64 a3_2]] (by rfl) rfl rfl (by (try simp only [List.map_toArray, List.map_cons, List.map_nil]); first | done | rfl | (simp only [List.length_drop, List.length_take]; rfl)) ?_
            with_reducible refine (impl_IsHand.calls k5 a3_0 a3_1 a3_2 t396 _ A608.out).mono ?_
            rintro e w611 ⟨rfl, hb⟩
            refine ⟨_, rfl, ?_⟩
            have n0_ := Am (Kd.R_below (kW HO_25) hb)
            have hp0 := pA BK350 hb
            have hv := vK HB hb
            have n3_ := Am (bT hv hb)
            clear HO_25 HB
            have HO_25 := n0_
            replace BK350 := hp0 BK350; replace BK351 := hp0 BK351
            have HB := n3_
            clear n0_ n3_ hp0 hv
            (try clear hb)
            refine hK.out _ _ ⟨c30 BK351.out, c31 BK351.out, c32 BK351.out⟩ (fun hHeld => ?_)
            clear hK K
            refine norm_ (a' := ?_) ?_ ?_
            rotate_left
            ·show Act.put _ (some 274) _ = _
             simp only [Act.put, List.setIfInBounds_toArray, List.set_cons_zero, List.set_cons_succ, i64_w, i32_w]
             rfl
            refine one_ (i := 3) (N := some 276) (pT 6 4) rfl rfl (by kernel_rfl) (by decide) (fun K hK => ?_)
            refine goes_ Try.func18 (by kernel_rfl) rfl #[.agg #[.int .i64 a3_0, .int .i64 a3_1, .int .i64 a3_2]] (by rfl) rfl rfl (by (try simp only [List.map_toArray, List.map_cons, List.map_nil]); first | done | rfl | (simp only [List.length_drop, List.length_take]; rfl)) ?_
            with_reducible refine (spec_IsHand.calls k5 a3_0 a3_1 a3_2 t397 _ A609.out).mono ?_
            rintro e w612 ⟨rfl, hb⟩
            refine ⟨_, rfl, ?_⟩
            have n0_ := Am (Kd.R_below (kW HO_25) hb)
            have hp0 := pA BK350 hb
            have hv := vK HB hb
            have n3_ := Am (bT hv hb)
            clear HO_25 HB
            have HO_25 := n0_
            replace BK350 := hp0 BK350; replace BK351 := hp0 BK351
            have HB := n3_
            clear n0_ n3_ hp0 hv
            (try clear hb)
            refine hK.out _ _ ⟨c30 BK351.out, c31 BK351.out, c32 BK351.out⟩ (fun hHeld => ?_)
            clear hK K
            refine norm_ (a' := ?_) ?_ ?_
            rotate_left
            ·show Act.put _ (some 276) _ = _
             simp only [Act.put, List.setIfInBounds_toArray, List.set_cons_zero, List.set_cons_succ, i64_w, i32_w]
             rfl
            iterate 2
             refine pI (v := ?_) (a' := ?_) rfl (by kernel_rfl) (fun _ _ _ h => h) (Or.inl ⟨by rfl, ?_⟩) ?_ ?_
             rotate_left
             ·intro w'
              go_simp
              with_reducible rfl
             rotate_left
             ·show Act.put _ (some _) _ = _
              simp only [Act.put, List.setIfInBounds_toArray, List.set_cons_zero, List.set_cons_succ, i64_w, i32_w]
              rfl
            refine done_ (by kernel_rfl) ?_
            try go_wp2
            go_ret
            exact ⟨by first | rfl | (simp [errW_none, errW_some] <;> rfl) | (simp [*, errW_none, errW_some] <;> rfl), by repeat (first | (with_reducible first | exact HB.out | apply bA | apply bN | apply bD | refine bX ?_ (by assumption)) | exact HB.out)⟩
       rw [if_neg c549] at H
       exact absurd H (by simp)
      rw [if_neg c548] at H
      exact absurd H (by simp)
     rw [if_neg c547] at H
     have c547b0 : ((t383.length : Int) == 2) = false := beq_eq_false_iff_ne.mpr c547
     have c547b1 : ((t383.length : Int) != 2) = true := bne_iff_ne.mpr c547
     as_aux_lemma =>
      exact absurd ((Option.some.inj H).trans hlaw.out) (by decide)
    replace c546 := Bool.eq_false_iff.mpr c546
    subst c546
    have H1 : ((impl_IsHand.f kj537 a3_0 a3_1 a3_2).bind fun t416 => ((spec_IsHand.f kj537 a3_0 a3_1 a3_2).bind fun t417 => (some (t416 == t417)))) = some r := by rw [if_neg (show ¬ (false = true) by decide)] at H; exact H
    clear H
    have H := H1
    clear H1
    replace H := Option.bind_eq_some_iff.mp H
    obtain ⟨t416, A6130, H⟩ := H
    try dsimp only at H
    have A613 := Am A6130
    clear A6130
    replace H := Option.bind_eq_some_iff.mp H
    obtain ⟨t417, A6140, H⟩ := H
    try dsimp only at H
    have A614 := Am A6140
    clear A6140
    as_aux_lemma =>
     obtain rfl := Option.some.inj H
     try go_wp2
     have n0_ := Am (Kd.R_drew HO_25.out)
     have n1_ := Am (kD BK350.out)
     have n2_ := Am (kD BK351.out)
     have n3_ := Am (bD HB.out)
     clear HO_25 BK350 BK351 HB
     have HO_25 := n0_; have BK350 := n1_; have BK351 := n2_; have HB := n3_
     clear n0_ n1_ n2_ n3_
     refine start_ (n := 6) (S := fun w' => w'.cell? ⟨gb351, 0, none⟩ = some (.int .i64 a3_0) ∧ w'.cell? ⟨gb351, 1, none⟩ = some (.int .i64 a3_1) ∧ w'.cell? ⟨gb351, 2, none⟩ = some (.int .i64 a3_2)) (ds := []) (pT 6 0) (by kernel_rfl) rfl rfl ⟨c30 BK351.out, c31 BK351.out, c32 BK351.out⟩ (fun hHeld => ?_)
     generalize wc.drew = w615 at HO_25 BK350 BK351 HB hHeld ⊢
     refine tI (v := ?_) (a' := ?_) rfl (by kernel_rfl) (fun _ _ _ h => h) (Or.inl ⟨by rfl, ?_⟩) hHeld ?_ ?_
     rotate_left
     ·rintro w' ⟨s0, s1, s2⟩
      go_simp
      with_reducible rfl
     rotate_left
     ·show Act.put _ (some _) _ = _
      simp only [Act.put, List.setIfInBounds_toArray, List.set_cons_zero, List.set_cons_succ, i64_w, i32_w]
      rfl
     refine take_ (i := 2) (N := some 275) (v := ?_) (a' := ?_) #[true, false, true, false, false, false] rfl rfl (by kernel_rfl) (fun _ _ _ h => h) (Or.inl ⟨by rfl, ?_⟩) hHeld ?_ ?_
     rotate_left
     ·rintro w' ⟨s0, s1, s2⟩
      go_simp
      with_reducible rfl
     rotate_left
     ·simp only [Act.put, List.setIfInBounds_toArray, List.set_cons_zero, List.set_cons_succ, i64_w, i32_w]
      rfl
     refine one_ (i := 1) (N := some 274) (pT 6 3) rfl rfl (by kernel_rfl) (by decide) (fun K hK => ?_)
     refine goes_ Try.func17 (by kernel_rfl) rfl #[.agg #[.int .i64 a3_0, .int .i64 a3_1, .int .i64 a3_2]] (by rfl) rfl rfl (by (try simp only [List.map_toArray, List.map_cons, List.map_nil]); first | done | rfl | (simp only [List.length_drop, List.length_take]; rfl)) ?_
     with_reducible refine (impl_IsHand.calls kj537 a3_0 a3_1 a3_2 t416 _ A613.out).mono ?_
     rintro e w616 ⟨rfl, hb⟩
     refine ⟨_, rfl, ?_⟩
     have n0_ := Am (Kd.R_below (kW HO_25) hb)
     have hp0 := pA BK350 hb
     have hv := vK HB hb
     have n3_ := Am (bT hv hb)
     clear HO_25 HB
     have HO_25 := n0_
     replace BK350 := hp0 BK350; replace BK351 := hp0 BK351
     have HB := n3_
     clear n0_ n3_ hp0 hv
     (try clear hb)
     refine hK.out _ _ ⟨c30 BK351.out, c31 BK351.out, c32 BK351.out⟩ (fun hHeld => ?_)
     clear hK K
     refine norm_ (a' := ?_) ?_ ?_
     rotate_left
     ·show Act.put _ (some 274) _ = _
      simp only [Act.put, List.setIfInBounds_toArray, List.set_cons_zero, List.set_cons_succ, i64_w, i32_w]
      rfl
     refine one_ (i := 3) (N := some 276) (pT 6 4) rfl rfl (by kernel_rfl) (by decide) (fun K hK => ?_)
     refine goes_ Try.func18 (by kernel_rfl) rfl #[.agg #[.int .i64 a3_0, .int .i64 a3_1, .int .i64 a3_2]] (by rfl) rfl rfl (by (try simp only [List.map_toArray, List.map_cons, List.map_nil]); first | done | rfl | (simp only [List.length_drop, List.length_take]; rfl)) ?_
     with_reducible refine (spec_IsHand.calls kj537 a3_0 a3_1 a3_2 t417 _ A614.out).mono ?_
     rintro e w617 ⟨rfl, hb⟩
     refine ⟨_, rfl, ?_⟩
     have n0_ := Am (Kd.R_below (kW HO_25) hb)
     have hp0 := pA BK350 hb
     have hv := vK HB hb
     have n3_ := Am (bT hv hb)
     clear HO_25 HB
     have HO_25 := n0_
     replace BK350 := hp0 BK350; replace BK351 := hp0 BK351
     have HB := n3_
     clear n0_ n3_ hp0 hv
     (try clear hb)
     refine hK.out _ _ ⟨c30 BK351.out, c31 BK351.out, c32 BK351.out⟩ (fun hHeld => ?_)
     clear hK K
     refine norm_ (a' := ?_) ?_ ?_
     rotate_left
     ·show Act.put _ (some 276) _ = _
      simp only [Act.put, List.setIfInBounds_toArray, List.set_cons_zero, List.set_cons_succ, i64_w, i32_w]
      rfl
     iterate 2
      refine pI (v := ?_) (a' := ?_) rfl (by kernel_rfl) (fun _ _ _ h => h) (Or.inl ⟨by rfl, ?_⟩) ?_ ?_
      rotate_left
      ·intro w'
       go_simp
       with_reducible rfl
      rotate_left
      ·show Act.put _ (some _) _ = _
       simp only [Act.put, List.setIfInBounds_toArray, List.set_cons_zero, List.set_cons_succ, i64_w, i32_w]
       rfl
     refine done_ (by kernel_rfl) ?_
     try go_wp2
     go_ret
     exact ⟨by first | rfl | (simp [errW_none, errW_some] <;> rfl) | (simp [*, errW_none, errW_some] <;> rfl), by repeat (first | (with_reducible first | exact HB.out | apply bA | apply bN | apply bD | refine bX ?_ (by assumption)) | exact HB.out)⟩
/-- THE ONE PURE STATEMENT of laws_FnHandsSpreadOfAll: yours. -/
def laws_FnHandsSpreadOfAll.Pure : Prop := ∀ (l0 : List (S26)) (a1_0 : Int) (a1_1 : Int) (a2 : Int) (a3_0 : Int) (a3_1 : Int) (a3_2 : Int), l0.length ≤ maxLen → l0.length * 24 ≤ 140737488351232 → (∀ x ∈ l0, (Lit.int .i64 x.f0.f0).wf = true ∧ (Lit.int .i64 x.f0.f1).wf = true ∧ (Lit.int .i64 x.f1).wf = true) → (Lit.int .i64 a1_0).wf = true → (Lit.int .i64 a1_1).wf = true → (Lit.int .i64 a2).wf = true → (Lit.int .i64 a3_0).wf = true → (Lit.int .i64 a3_1).wf = true → (Lit.int .i64 a3_2).wf = true → ∃ k, laws_FnHandsSpreadOfAll.f k l0 a1_0 a1_1 a2 a3_0 a3_1 a3_2 = some true
theorem laws_FnHandsSpreadOfAll.walk (P : laws_FnHandsSpreadOfAll.Pure) (A0 : Option Addr) (c0 : Nat) (l0 : List S26) (a1_0 : Int) (a1_1 : Int) (a2 : Int) (a3_0 : Int) (a3_1 : Int) (a3_2 : Int) (w : World) (hr0 : Kd.C k26 w A0 l0.length l0) (hc0 : l0.length ≤ c0) (hm0 : l0.length ≤ maxLen) (y0 : l0.length * 24 ≤ 140737488351232) (hw0 : ∀ x ∈ l0, (Lit.int .i64 x.f0.f0).wf = true ∧ (Lit.int .i64 x.f0.f1).wf = true ∧ (Lit.int .i64 x.f1).wf = true) (w1_0 : (Lit.int .i64 a1_0).wf = true) (w1_1 : (Lit.int .i64 a1_1).wf = true) (w2 : (Lit.int .i64 a2).wf = true) (w3_0 : (Lit.int .i64 a3_0).wf = true) (w3_1 : (Lit.int .i64 a3_1).wf = true) (w3_2 : (Lit.int .i64 a3_2).wf = true) :
  Calls Try.prog 3 #[.slice A0 l0.length c0, .agg #[.int .i64 a1_0, .int .i64 a1_1], .int .i64 a2, .agg #[.int .i64 a3_0, .int .i64 a3_1, .int .i64 a3_2]] w fun e w' => e = .returned (.bool true) ∧ Below w.heap.size w w' := by
 obtain ⟨k, h⟩ := P l0 a1_0 a1_1 a2 a3_0 a3_1 a3_2 hm0 y0 hw0 w1_0 w1_1 w2 w3_0 w3_1 w3_2
 refine (laws_FnHandsSpreadOfAll.calls k _ _ l0 a1_0 a1_1 a2 a3_0 a3_1 a3_2 true w hr0 hc0 ⟨rfl⟩ h).mono ?_
 rintro e w' ⟨rfl, hd⟩
 exact ⟨rfl, hd⟩

end Go.Proofs.Ytnffmifjleebpaa.PFnHandsSpreadOfAll
