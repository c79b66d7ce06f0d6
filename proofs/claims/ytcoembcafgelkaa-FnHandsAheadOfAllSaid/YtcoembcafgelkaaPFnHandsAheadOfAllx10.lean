-- WRITTEN BY A PROGRAM OF THIS SESSION (wip/tools): its own text, not the kit's printed one.
import Derived.Test.YtcoembcafgelkaaPFnHandsAheadOfAllx0
import Derived.Test.YtcoembcafgelkaaPFnHandsAheadOfAllx1
import Derived.Test.YtcoembcafgelkaaPFnHandsAheadOfAllx3
import Derived.Test.YtcoembcafgelkaaPFnHandsAheadOfAllx6
import Derived.Test.YtcoembcafgelkaaPFnHandsAheadOfAllx7
import Derived.Test.YtcoembcafgelkaaPFnHandsAheadOfAllx8
namespace Go.Proofs.Ytcoembcafgelkaa.PFnHandsAheadOfAll
open Go.RowKit Go.Proofs.YtcoembcafgelkaaW.PrintWords Go.Proofs.YtcoembcafgelkaaW.PrintLast Go.Proofs.YtcoembcafgelkaaW.PrintMore
attribute [local go_sem] max2_int min2_int max_two min_two max_three min_three max_four min_four   -- for this text's walks alone
set_option linter.unusedVariables false
set_option linter.unusedSimpArgs false

attribute [local go_sem high] eqA23
/-! ### impl_RelativeHand: function 8 -/
def impl_RelativeHand.f (k : Nat) (a0_0 : Int) (a0_1 : Int) (a0_2 : Int) (a1_0 : Int) (a1_1 : Int) (a1_2 : Int) : Option (Int × Int × Int × Bool) := (impl_areHands.f k (([(⟨(⟨a0_0, a0_1⟩ : S23), a0_2⟩ : S25), (⟨(⟨a1_0, a1_1⟩ : S23), a1_2⟩ : S25)] : List (S25)))).bind fun t317 => (if t317 = true then ((impl_relative.f k a0_0 a0_1 a0_2 a1_0 a1_1 a1_2).bind fun bt318 => ((impl_IsHand.f k bt318.1 bt318.2.1 bt318.2.2).bind fun t322 => (if t322 = true then (some (bt318.1, bt318.2.1, bt318.2.2, true)) else (some (0, 0, 0, false))))) else (some (0, 0, 0, false)))
theorem impl_RelativeHand.mono : ∀ a0 a1 a2 a3 a4 a5 k, LeO (impl_RelativeHand.f k a0 a1 a2 a3 a4 a5) (impl_RelativeHand.f (k + 1) a0 a1 a2 a3 a4 a5) := by
 intro a0 a1 a2 a3 a4 a5 k
 unfold impl_RelativeHand.f
 repeat' first
   | (with_reducible exact impl_IsHand.mono _ _ _ _)
   | (with_reducible exact impl_areHands.mono _ _)
   | (with_reducible exact impl_relative.mono _ _ _ _ _ _ _)
   | (with_reducible exact LeO.refl _)
   | (with_reducible exact LeO.none _)
   | (with_reducible refine LeO.ite ?_ ?_)
   | (with_reducible refine LeO.bind ?_ (fun _ => ?_))
   | exact impl_IsHand.mono _ _ _ _
   | exact impl_areHands.mono _ _
   | exact impl_relative.mono _ _ _ _ _ _ _
   | exact LeO.none _
   | refine LeO.ite ?_ ?_
   | refine LeO.bind ?_ (fun _ => ?_)
set_option maxHeartbeats 8000000 in
set_option maxRecDepth 100000 in
theorem impl_RelativeHand.calls (k : Nat) (a0_0 : Int) (a0_1 : Int) (a0_2 : Int) (a1_0 : Int) (a1_1 : Int) (a1_2 : Int) (r1 : Int) (r2 : Int) (r3 : Int) (r4 : Bool) (w : World) (h : impl_RelativeHand.f k a0_0 a0_1 a0_2 a1_0 a1_1 a1_2 = some (r1, r2, r3, r4)) :
  Calls Try.prog 8 #[.agg #[.int .i64 a0_0, .int .i64 a0_1, .int .i64 a0_2], .agg #[.int .i64 a1_0, .int .i64 a1_1, .int .i64 a1_2]] w fun e w' => e = .returned (.tuple #[.agg #[.int .i64 r1, .int .i64 r2, .int .i64 r3], .bool r4]) ∧ Below w.heap.size w w' := by
 have hu25 := Try.underlying25
 have HB := Am (Below.refl w.heap.size w)
 have H : ((impl_areHands.f k (([(⟨(⟨a0_0, a0_1⟩ : S23), a0_2⟩ : S25), (⟨(⟨a1_0, a1_1⟩ : S23), a1_2⟩ : S25)] : List (S25)))).bind fun t317 => (if t317 = true then ((impl_relative.f k a0_0 a0_1 a0_2 a1_0 a1_1 a1_2).bind fun bt318 => ((impl_IsHand.f k bt318.1 bt318.2.1 bt318.2.2).bind fun t322 => (if t322 = true then (some (bt318.1, bt318.2.1, bt318.2.2, true)) else (some (0, 0, 0, false))))) else (some (0, 0, 0, false)))) = some (r1, r2, r3, r4) := h
 clear h
 obtain ⟨y314, hy314⟩ : ∃ y_ : List (S25), y_ = (([(⟨(⟨a0_0, a0_1⟩ : S23), a0_2⟩ : S25), (⟨(⟨a1_0, a1_1⟩ : S23), a1_2⟩ : S25)] : List (S25))) := ⟨_, rfl⟩
 replace H : ((impl_areHands.f k y314).bind fun t317 => (if t317 = true then ((impl_relative.f k a0_0 a0_1 a0_2 a1_0 a1_1 a1_2).bind fun bt318 => ((impl_IsHand.f k bt318.1 bt318.2.1 bt318.2.2).bind fun t322 => (if t322 = true then (some (bt318.1, bt318.2.1, bt318.2.2, true)) else (some (0, 0, 0, false))))) else (some (0, 0, 0, false)))) = some (r1, r2, r3, r4) := by first | (rw [hy314]; with_reducible exact H) | (have H2_ := (Option.bind_some _ _).symm.trans H; rw [hy314]; with_reducible exact H2_) | (have H2_ := (Option.bind_some _ _).symm.trans H; with_reducible exact H2_) | with_reducible exact H | (rw [hy314]; exact H) | exact H
 have Ny314 := Am hy314
 clear hy314
 replace H := Option.bind_eq_some_iff.mp H
 obtain ⟨t317, A30, H⟩ := H
 try dsimp only at H
 have A3 := Am A30
 clear A30
 by_cases c4 : t317 = true
 ·subst c4
  have H1 : ((impl_relative.f k a0_0 a0_1 a0_2 a1_0 a1_1 a1_2).bind fun bt318 => ((impl_IsHand.f k bt318.1 bt318.2.1 bt318.2.2).bind fun t322 => (if t322 = true then (some (bt318.1, bt318.2.1, bt318.2.2, true)) else (some (0, 0, 0, false))))) = some (r1, r2, r3, r4) := by rw [if_pos rfl] at H; exact H
  clear H
  have H := H1
  clear H1
  replace H := Option.bind_eq_some_iff.mp H
  obtain ⟨⟨t318, t319, t320⟩, A50, H⟩ := H
  try dsimp only at H
  have A5 := Am A50
  clear A50
  replace H := Option.bind_eq_some_iff.mp H
  obtain ⟨t322, A60, H⟩ := H
  try dsimp only at H
  have A6 := Am A60
  clear A60
  by_cases c7 : t322 = true
  ·subst c7
   have H1 : (some (t318, t319, t320, true)) = some (r1, r2, r3, r4) := by rw [if_pos rfl] at H; exact H
   clear H
   have H := H1
   clear H1
   focus
    simp only [Option.some.injEq, Prod.mk.injEq] at H
    obtain ⟨rfl, rfl, rfl, rfl⟩ := H
    go_enter Try.func8, Try.ntmps8
    go_wp2_with (first | ((with_reducible refine gate_dst (N := 2) rfl ?_); refine bE 2 #[.int .i64 a0_0, .int .i64 a0_1, .int .i64 a0_2] 25 ?_; intro gb311 hg w8 hbox hb; have hv := vK HB hb; have n0_ := Am (bT hv hb); have n1_ := Am (hbox); have GE311 := kG hg hv; clear HB; have HB := n0_; have BK311 := n1_; clear n0_ n1_ hv; clear hb hbox hg) | ((with_reducible refine gate_dst (N := 3) rfl ?_); refine bE 3 #[.int .i64 a1_0, .int .i64 a1_1, .int .i64 a1_2] 25 ?_; intro gb312 hg w9 hbox hb; have hp0 := pA BK311 hb; have hv := vK HB hb; have n1_ := Am (bT hv hb); have n2_ := Am (hbox); have GE312 := kG hg hv; have hp1 := pK BK311 hb; obtain ⟨NB311_312, NB312_311⟩ := kXY hg hp1 BK311; clear HB; replace BK311 := hp0 BK311; have HB := n1_; have BK312 := n2_; clear n1_ n2_ hp0 hp1 hv; clear hb hbox hg) | ((with_reducible refine gate_dst (N := 4) rfl ?_); refine bE 4 #[.int .i64 0, .int .i64 0, .int .i64 0] 25 ?_; intro gb313 hg w10 hbox hb; have hp0 := pA BK311 hb; have hv := vK HB hb; have n2_ := Am (bT hv hb); have n3_ := Am (hbox); have GE313 := kG hg hv; have hp1 := pK BK311 hb; obtain ⟨NB311_313, NB313_311⟩ := kXY hg hp1 BK311; obtain ⟨NB312_313, NB313_312⟩ := kXY hg hp1 BK312; clear HB; replace BK311 := hp0 BK311; replace BK312 := hp0 BK312; have HB := n2_; have BK313 := n3_; clear n2_ n3_ hp0 hp1 hv; clear hb hbox hg; have u11 := kO NB311_312; have u12 := kO NB311_313; have z13 := c3 BK311; have u14 := kO NB312_313; have z15 := c3 BK312) | ((with_reducible refine gate_dst (N := 9) rfl ?_); refine Kd.R_lit k25 _ 25 ?hg (N := 9) ?hd (xs := ([(⟨(⟨a0_0, a0_1⟩ : S23), a0_2⟩ : S25), (⟨(⟨a1_0, a1_1⟩ : S23), a1_2⟩ : S25)] : List (S25))) (inner := [.int .i64 a0_0, .int .i64 a0_1, .int .i64 a0_2, .int .i64 a1_0, .int .i64 a1_1, .int .i64 a1_2]) (ok := fun _ => True) (okp := fun _ => True) ?hr ?hp (fun _ hk => hk) trivial (Below.refl _ _) (Nat.le_refl _) (by simp) ?_; (case hd => rfl); (case hg => rfl); (case hr => first | (go_simp; done) | (go_simp; rfl)); (case hp => exact (Reps.c3 (show Kd.M k25 _ _ _ (⟨(⟨a0_0, a0_1⟩ : S23), a0_2⟩ : S25) [.int .i64 a0_0, .int .i64 a0_1, .int .i64 a0_2] from (k25_mkM _ _ _ (⟨(⟨a0_0, a0_1⟩ : S23), a0_2⟩ : S25) )) (Reps.c3 (show Kd.M k25 _ _ _ (⟨(⟨a1_0, a1_1⟩ : S23), a1_2⟩ : S25) [.int .i64 a1_0, .int .i64 a1_1, .int .i64 a1_2] from (k25_mkM _ _ _ (⟨(⟨a1_0, a1_1⟩ : S23), a1_2⟩ : S25) )) (Reps.none _ _)))); intro v315 w16 ho17 hb hg_ hnew_; clear hg_ hnew_; (first | rw [← Ny314.out] at ho17 | (simp only [Int.reduceToNat] at ho17; rw [← Ny314.out] at ho17)); have n0_ := Am (Kd.R_lower (Kd.R_newB (Kd.R_newB (Kd.R_newB ho17 (g := gb311) (o := .cells #[.int .i64 a0_0, .int .i64 a0_1, .int .i64 a0_2] 25 (0, 0)) (kU BK311)) (g := gb312) (o := .cells #[.int .i64 a1_0, .int .i64 a1_1, .int .i64 a1_2] 25 (0, 0)) (kU BK312)) (g := gb313) (o := .cells #[.int .i64 0, .int .i64 0, .int .i64 0] 25 (0, 0)) (kU BK313)) (bZ (by repeat (first | (with_reducible first | exact HB.out | apply bA | apply bN | apply bD | refine bX ?_ (by assumption)) | exact HB.out)))); have hp0 := pA BK311 hb; have hv := vK HB hb; have n4_ := Am (bT hv hb); clear HB; have HO316 := n0_; replace BK311 := hp0 BK311; replace BK312 := hp0 BK312; replace BK313 := hp0 BK313; have HB := n4_; clear n0_ n4_ hp0 hv; clear hb ho17; obtain ⟨Ao18, co18, eo18⟩ := Kd.R_slice HO316.out; subst eo18) | ((with_reducible refine gate_callee (f := 29) rfl ?_); refine gL (some 10) Try.func29 #[.slice Ao18 y314.length co18] rfl ?_; (with_reducible refine (impl_areHands.calls k _ _ y314 true _ ?side1 ?side2 A3.out).mono ?_); (case side1 => repeat (first | exact (Kd.R_reads' HO316.out).2.2 | (with_reducible refine Kd.C_alloc ?_ _) | (with_reducible refine Kd.C_drewN ?_ _) | (with_reducible refine Kd.C_drew ?_))); (case side2 => exact (Kd.R_reads' HO316.out).2.1); rintro e w19 ⟨rfl, hb⟩; refine ⟨_, rfl, ?_⟩; have n0_ := Am (Kd.R_below (kW HO316) hb); have hp0 := pA BK311 hb; have hv := vK HB hb; have n4_ := Am (bT hv hb); clear HO316; clear HB; have HO316 := n0_; replace BK311 := hp0 BK311; replace BK312 := hp0 BK312; replace BK313 := hp0 BK313; have HB := n4_; clear n0_ n4_ hp0 hv; (try clear hb); have z20 := c3 BK311; have z21 := c3 BK312) | ((with_reducible refine gate_callee (f := 32) rfl ?_); refine gL (some 15) Try.func32 #[.agg #[.int .i64 a0_0, .int .i64 a0_1, .int .i64 a0_2], .agg #[.int .i64 a1_0, .int .i64 a1_1, .int .i64 a1_2]] rfl ?_; (with_reducible refine (impl_relative.calls k a0_0 a0_1 a0_2 a1_0 a1_1 a1_2 t318 t319 t320 _ A5.out).mono ?_); rintro e w22 ⟨rfl, hb⟩; refine ⟨_, rfl, ?_⟩; have n0_ := Am (Kd.R_below (kW HO316) hb); have hp0 := pA BK311 hb; have hv := vK HB hb; have n4_ := Am (bT hv hb); clear HO316; clear HB; have HO316 := n0_; replace BK311 := hp0 BK311; replace BK312 := hp0 BK312; replace BK313 := hp0 BK313; have HB := n4_; clear n0_ n4_ hp0 hv; (try clear hb)) | ((with_reducible refine gate_dst (N := 6) rfl ?_); refine bE 6 #[.int .i64 0, .int .i64 0, .int .i64 0] 25 ?_; intro gb321 hg w23 hbox hb; have n0_ := Am (Kd.R_below (Kd.R_elderB (kW HO316) gb321 (Nat.le_of_eq hg.symm)) hb); have hp0 := pA BK311 hb; have hv := vK HB hb; have n4_ := Am (bT hv hb); have n5_ := Am (hbox); have GE321 := kG hg hv; have hp1 := pK BK311 hb; obtain ⟨NB311_321, NB321_311⟩ := kXY hg hp1 BK311; obtain ⟨NB312_321, NB321_312⟩ := kXY hg hp1 BK312; obtain ⟨NB313_321, NB321_313⟩ := kXY hg hp1 BK313; clear HO316; clear HB; have HO316 := n0_; replace BK311 := hp0 BK311; replace BK312 := hp0 BK312; replace BK313 := hp0 BK313; have HB := n4_; have BK321 := n5_; clear n0_ n4_ n5_ hp0 hp1 hv; clear hb hbox hg; have u24 := kO NB321_311; have u25 := kO NB321_312; have u26 := kO NB321_313; have z27 := c3 BK321) | ((with_reducible refine gate_callee (f := 37) rfl ?_); refine gL (some 17) Try.func37 #[.agg #[.int .i64 t318, .int .i64 t319, .int .i64 t320]] rfl ?_; (with_reducible refine (impl_IsHand.calls k t318 t319 t320 true _ A6.out).mono ?_); rintro e w28 ⟨rfl, hb⟩; refine ⟨_, rfl, ?_⟩; have n0_ := Am (Kd.R_below (by (with_reducible repeat (first | apply Kd.R_alloc | apply Kd.R_drewN | apply Kd.R_drew)); exact (Kd.R_mono (Kd.R_far (p := ⟨gb321, 2, none⟩) (Kd.R_far (p := ⟨gb321, 1, none⟩) (Kd.R_far (p := ⟨gb321, 0, none⟩) (Kd.R_mono HO316.out (fun k_ hk => (⟨hk, hk.2⟩ : _ ∧ k_ ≠ gb321))) (fun _ hk => hk.2) (.int .i64 t318)) (fun _ hk => hk.2) (.int .i64 t319)) (fun _ hk => hk.2) (.int .i64 t320)) (fun _ h_ => h_.1))) hb); have hp0 := pB gb321 BK311 hb; have n4_ := Am (kB (g := gb321) (o := .cells #[.int .i64 t318, .int .i64 t319, .int .i64 t320] 25 (0, 0)) (by (with_reducible repeat (first | refine kN ?_ _ | refine kD ?_ | refine kA ?_ _)); refine kP (cs := #[.int .i64 t318, .int .i64 t319, .int .i64 0]) ?_ 2 _ rfl; (with_reducible repeat (first | refine kN ?_ _ | refine kD ?_ | refine kA ?_ _)); refine kP (cs := #[.int .i64 t318, .int .i64 0, .int .i64 0]) ?_ 1 _ rfl; (with_reducible repeat (first | refine kN ?_ _ | refine kD ?_ | refine kA ?_ _)); refine kP (cs := #[.int .i64 0, .int .i64 0, .int .i64 0]) ?_ 0 _ rfl; (with_reducible repeat (first | refine kN ?_ _ | refine kD ?_ | refine kA ?_ _)); exact BK321.out) hb); have hv := vK HB hb; have n5_ := Am (bT hv hb); clear HO316; clear BK321; clear HB; have HO316 := n0_; replace BK311 := hp0 NB311_321 BK311; replace BK312 := hp0 NB312_321 BK312; replace BK313 := hp0 NB313_321 BK313; have BK321 := n4_; have HB := n5_; clear n0_ n4_ n5_ hp0 hv; (try clear hb); (try clear hk); have z29 := c3 BK321; have z30 := c3 BK313))
    refine bodyPost_ret (results_ct rfl _ _ gb313 25 #[.int .i64 t318, .int .i64 t319, .int .i64 t320] (0, 0) _ rfl (by (with_reducible repeat (first | refine kN ?_ _ | refine kD ?_ | refine kA ?_ _)); refine kP (cs := #[.int .i64 t318, .int .i64 t319, .int .i64 0]) ?_ 2 _ rfl; (with_reducible repeat (first | refine kN ?_ _ | refine kD ?_ | refine kA ?_ _)); refine kP (cs := #[.int .i64 t318, .int .i64 0, .int .i64 0]) ?_ 1 _ rfl; (with_reducible repeat (first | refine kN ?_ _ | refine kD ?_ | refine kA ?_ _)); refine kP (cs := #[.int .i64 0, .int .i64 0, .int .i64 0]) ?_ 0 _ rfl; (with_reducible repeat (first | refine kN ?_ _ | refine kD ?_ | refine kA ?_ _)); exact BK313.out) Try.underlying25 rfl (by kernel_rfl)) rfl ?_
    exact ⟨by first | rfl | (simp [errW_none, errW_some] <;> rfl) | (simp [*, errW_none, errW_some] <;> rfl), by repeat (first | (with_reducible first | exact HB.out | apply bA | apply bN | apply bD | refine bX ?_ (by assumption)) | exact HB.out)⟩
  replace c7 := Bool.eq_false_iff.mpr c7
  subst c7
  have H1 : (some (0, 0, 0, false)) = some (r1, r2, r3, r4) := by rw [if_neg (show ¬ (false = true) by decide)] at H; exact H
  clear H
  have H := H1
  clear H1
  focus
   simp only [Option.some.injEq, Prod.mk.injEq] at H
   obtain ⟨rfl, rfl, rfl, rfl⟩ := H
   go_enter Try.func8, Try.ntmps8
   go_wp2_with (first | ((with_reducible refine gate_dst (N := 2) rfl ?_); refine bE 2 #[.int .i64 a0_0, .int .i64 a0_1, .int .i64 a0_2] 25 ?_; intro gb311 hg w31 hbox hb; have hv := vK HB hb; have n0_ := Am (bT hv hb); have n1_ := Am (hbox); have GE311 := kG hg hv; clear HB; have HB := n0_; have BK311 := n1_; clear n0_ n1_ hv; clear hb hbox hg) | ((with_reducible refine gate_dst (N := 3) rfl ?_); refine bE 3 #[.int .i64 a1_0, .int .i64 a1_1, .int .i64 a1_2] 25 ?_; intro gb312 hg w32 hbox hb; have hp0 := pA BK311 hb; have hv := vK HB hb; have n1_ := Am (bT hv hb); have n2_ := Am (hbox); have GE312 := kG hg hv; have hp1 := pK BK311 hb; obtain ⟨NB311_312, NB312_311⟩ := kXY hg hp1 BK311; clear HB; replace BK311 := hp0 BK311; have HB := n1_; have BK312 := n2_; clear n1_ n2_ hp0 hp1 hv; clear hb hbox hg) | ((with_reducible refine gate_dst (N := 4) rfl ?_); refine bE 4 #[.int .i64 0, .int .i64 0, .int .i64 0] 25 ?_; intro gb313 hg w33 hbox hb; have hp0 := pA BK311 hb; have hv := vK HB hb; have n2_ := Am (bT hv hb); have n3_ := Am (hbox); have GE313 := kG hg hv; have hp1 := pK BK311 hb; obtain ⟨NB311_313, NB313_311⟩ := kXY hg hp1 BK311; obtain ⟨NB312_313, NB313_312⟩ := kXY hg hp1 BK312; clear HB; replace BK311 := hp0 BK311; replace BK312 := hp0 BK312; have HB := n2_; have BK313 := n3_; clear n2_ n3_ hp0 hp1 hv; clear hb hbox hg; have u34 := kO NB311_312; have u35 := kO NB311_313; have z36 := c3 BK311; have u37 := kO NB312_313; have z38 := c3 BK312) | ((with_reducible refine gate_dst (N := 9) rfl ?_); refine Kd.R_lit k25 _ 25 ?hg (N := 9) ?hd (xs := ([(⟨(⟨a0_0, a0_1⟩ : S23), a0_2⟩ : S25), (⟨(⟨a1_0, a1_1⟩ : S23), a1_2⟩ : S25)] : List (S25))) (inner := [.int .i64 a0_0, .int .i64 a0_1, .int .i64 a0_2, .int .i64 a1_0, .int .i64 a1_1, .int .i64 a1_2]) (ok := fun _ => True) (okp := fun _ => True) ?hr ?hp (fun _ hk => hk) trivial (Below.refl _ _) (Nat.le_refl _) (by simp) ?_; (case hd => rfl); (case hg => rfl); (case hr => first | (go_simp; done) | (go_simp; rfl)); (case hp => exact (Reps.c3 (show Kd.M k25 _ _ _ (⟨(⟨a0_0, a0_1⟩ : S23), a0_2⟩ : S25) [.int .i64 a0_0, .int .i64 a0_1, .int .i64 a0_2] from (k25_mkM _ _ _ (⟨(⟨a0_0, a0_1⟩ : S23), a0_2⟩ : S25) )) (Reps.c3 (show Kd.M k25 _ _ _ (⟨(⟨a1_0, a1_1⟩ : S23), a1_2⟩ : S25) [.int .i64 a1_0, .int .i64 a1_1, .int .i64 a1_2] from (k25_mkM _ _ _ (⟨(⟨a1_0, a1_1⟩ : S23), a1_2⟩ : S25) )) (Reps.none _ _)))); intro v315 w39 ho40 hb hg_ hnew_; clear hg_ hnew_; (first | rw [← Ny314.out] at ho40 | (simp only [Int.reduceToNat] at ho40; rw [← Ny314.out] at ho40)); have n0_ := Am (Kd.R_lower (Kd.R_newB (Kd.R_newB (Kd.R_newB ho40 (g := gb311) (o := .cells #[.int .i64 a0_0, .int .i64 a0_1, .int .i64 a0_2] 25 (0, 0)) (kU BK311)) (g := gb312) (o := .cells #[.int .i64 a1_0, .int .i64 a1_1, .int .i64 a1_2] 25 (0, 0)) (kU BK312)) (g := gb313) (o := .cells #[.int .i64 0, .int .i64 0, .int .i64 0] 25 (0, 0)) (kU BK313)) (bZ (by repeat (first | (with_reducible first | exact HB.out | apply bA | apply bN | apply bD | refine bX ?_ (by assumption)) | exact HB.out)))); have hp0 := pA BK311 hb; have hv := vK HB hb; have n4_ := Am (bT hv hb); clear HB; have HO316 := n0_; replace BK311 := hp0 BK311; replace BK312 := hp0 BK312; replace BK313 := hp0 BK313; have HB := n4_; clear n0_ n4_ hp0 hv; clear hb ho40; obtain ⟨Ao41, co41, eo41⟩ := Kd.R_slice HO316.out; subst eo41) | ((with_reducible refine gate_callee (f := 29) rfl ?_); refine gL (some 10) Try.func29 #[.slice Ao41 y314.length co41] rfl ?_; (with_reducible refine (impl_areHands.calls k _ _ y314 true _ ?side1 ?side2 A3.out).mono ?_); (case side1 => repeat (first | exact (Kd.R_reads' HO316.out).2.2 | (with_reducible refine Kd.C_alloc ?_ _) | (with_reducible refine Kd.C_drewN ?_ _) | (with_reducible refine Kd.C_drew ?_))); (case side2 => exact (Kd.R_reads' HO316.out).2.1); rintro e w42 ⟨rfl, hb⟩; refine ⟨_, rfl, ?_⟩; have n0_ := Am (Kd.R_below (kW HO316) hb); have hp0 := pA BK311 hb; have hv := vK HB hb; have n4_ := Am (bT hv hb); clear HO316; clear HB; have HO316 := n0_; replace BK311 := hp0 BK311; replace BK312 := hp0 BK312; replace BK313 := hp0 BK313; have HB := n4_; clear n0_ n4_ hp0 hv; (try clear hb); have z43 := c3 BK311; have z44 := c3 BK312) | ((with_reducible refine gate_callee (f := 32) rfl ?_); refine gL (some 15) Try.func32 #[.agg #[.int .i64 a0_0, .int .i64 a0_1, .int .i64 a0_2], .agg #[.int .i64 a1_0, .int .i64 a1_1, .int .i64 a1_2]] rfl ?_; (with_reducible refine (impl_relative.calls k a0_0 a0_1 a0_2 a1_0 a1_1 a1_2 t318 t319 t320 _ A5.out).mono ?_); rintro e w45 ⟨rfl, hb⟩; refine ⟨_, rfl, ?_⟩; have n0_ := Am (Kd.R_below (kW HO316) hb); have hp0 := pA BK311 hb; have hv := vK HB hb; have n4_ := Am (bT hv hb); clear HO316; clear HB; have HO316 := n0_; replace BK311 := hp0 BK311; replace BK312 := hp0 BK312; replace BK313 := hp0 BK313; have HB := n4_; clear n0_ n4_ hp0 hv; (try clear hb)) | ((with_reducible refine gate_dst (N := 6) rfl ?_); refine bE 6 #[.int .i64 0, .int .i64 0, .int .i64 0] 25 ?_; intro gb321 hg w46 hbox hb; have n0_ := Am (Kd.R_below (Kd.R_elderB (kW HO316) gb321 (Nat.le_of_eq hg.symm)) hb); have hp0 := pA BK311 hb; have hv := vK HB hb; have n4_ := Am (bT hv hb); have n5_ := Am (hbox); have GE321 := kG hg hv; have hp1 := pK BK311 hb; obtain ⟨NB311_321, NB321_311⟩ := kXY hg hp1 BK311; obtain ⟨NB312_321, NB321_312⟩ := kXY hg hp1 BK312; obtain ⟨NB313_321, NB321_313⟩ := kXY hg hp1 BK313; clear HO316; clear HB; have HO316 := n0_; replace BK311 := hp0 BK311; replace BK312 := hp0 BK312; replace BK313 := hp0 BK313; have HB := n4_; have BK321 := n5_; clear n0_ n4_ n5_ hp0 hp1 hv; clear hb hbox hg; have u47 := kO NB321_311; have u48 := kO NB321_312; have u49 := kO NB321_313; have z50 := c3 BK321) | ((with_reducible refine gate_callee (f := 37) rfl ?_); refine gL (some 17) Try.func37 #[.agg #[.int .i64 t318, .int .i64 t319, .int .i64 t320]] rfl ?_; (with_reducible refine (impl_IsHand.calls k t318 t319 t320 false _ A6.out).mono ?_); rintro e w51 ⟨rfl, hb⟩; refine ⟨_, rfl, ?_⟩; have n0_ := Am (Kd.R_below (by (with_reducible repeat (first | apply Kd.R_alloc | apply Kd.R_drewN | apply Kd.R_drew)); exact (Kd.R_mono (Kd.R_far (p := ⟨gb321, 2, none⟩) (Kd.R_far (p := ⟨gb321, 1, none⟩) (Kd.R_far (p := ⟨gb321, 0, none⟩) (Kd.R_mono HO316.out (fun k_ hk => (⟨hk, hk.2⟩ : _ ∧ k_ ≠ gb321))) (fun _ hk => hk.2) (.int .i64 t318)) (fun _ hk => hk.2) (.int .i64 t319)) (fun _ hk => hk.2) (.int .i64 t320)) (fun _ h_ => h_.1))) hb); have hp0 := pB gb321 BK311 hb; have n4_ := Am (kB (g := gb321) (o := .cells #[.int .i64 t318, .int .i64 t319, .int .i64 t320] 25 (0, 0)) (by (with_reducible repeat (first | refine kN ?_ _ | refine kD ?_ | refine kA ?_ _)); refine kP (cs := #[.int .i64 t318, .int .i64 t319, .int .i64 0]) ?_ 2 _ rfl; (with_reducible repeat (first | refine kN ?_ _ | refine kD ?_ | refine kA ?_ _)); refine kP (cs := #[.int .i64 t318, .int .i64 0, .int .i64 0]) ?_ 1 _ rfl; (with_reducible repeat (first | refine kN ?_ _ | refine kD ?_ | refine kA ?_ _)); refine kP (cs := #[.int .i64 0, .int .i64 0, .int .i64 0]) ?_ 0 _ rfl; (with_reducible repeat (first | refine kN ?_ _ | refine kD ?_ | refine kA ?_ _)); exact BK321.out) hb); have hv := vK HB hb; have n5_ := Am (bT hv hb); clear HO316; clear BK321; clear HB; have HO316 := n0_; replace BK311 := hp0 NB311_321 BK311; replace BK312 := hp0 NB312_321 BK312; replace BK313 := hp0 NB313_321 BK313; have BK321 := n4_; have HB := n5_; clear n0_ n4_ n5_ hp0 hv; (try clear hb); (try clear hk); have z52 := c3 BK313))
   refine bodyPost_ret (results_ct rfl _ _ gb313 25 #[.int .i64 0, .int .i64 0, .int .i64 0] (0, 0) _ rfl (by (with_reducible repeat (first | refine kN ?_ _ | refine kD ?_ | refine kA ?_ _)); refine kP (cs := #[.int .i64 0, .int .i64 0, .int .i64 0]) ?_ 2 _ rfl; (with_reducible repeat (first | refine kN ?_ _ | refine kD ?_ | refine kA ?_ _)); refine kP (cs := #[.int .i64 0, .int .i64 0, .int .i64 0]) ?_ 1 _ rfl; (with_reducible repeat (first | refine kN ?_ _ | refine kD ?_ | refine kA ?_ _)); refine kP (cs := #[.int .i64 0, .int .i64 0, .int .i64 0]) ?_ 0 _ rfl; (with_reducible repeat (first | refine kN ?_ _ | refine kD ?_ | refine kA ?_ _)); exact BK313.out) Try.underlying25 rfl (by kernel_rfl)) rfl ?_
   exact ⟨by first | rfl | (simp [errW_none, errW_some] <;> rfl) | (simp [*, errW_none, errW_some] <;> rfl), by repeat (first | (with_reducible first | exact HB.out | apply bA | apply bN | apply bD | refine bX ?_ (by assumption)) | exact HB.out)⟩
 replace c4 := Bool.eq_false_iff.mpr c4
 subst c4
 have H1 : (some (0, 0, 0, false)) = some (r1, r2, r3, r4) := by rw [if_neg (show ¬ (false = true) by decide)] at H; exact H
 clear H
 have H := H1
 clear H1
 focus
  simp only [Option.some.injEq, Prod.mk.injEq] at H
  obtain ⟨rfl, rfl, rfl, rfl⟩ := H
  go_enter Try.func8, Try.ntmps8
  go_wp2_with (first | ((with_reducible refine gate_dst (N := 2) rfl ?_); refine bE 2 #[.int .i64 a0_0, .int .i64 a0_1, .int .i64 a0_2] 25 ?_; intro gb311 hg w53 hbox hb; have hv := vK HB hb; have n0_ := Am (bT hv hb); have n1_ := Am (hbox); have GE311 := kG hg hv; clear HB; have HB := n0_; have BK311 := n1_; clear n0_ n1_ hv; clear hb hbox hg) | ((with_reducible refine gate_dst (N := 3) rfl ?_); refine bE 3 #[.int .i64 a1_0, .int .i64 a1_1, .int .i64 a1_2] 25 ?_; intro gb312 hg w54 hbox hb; have hp0 := pA BK311 hb; have hv := vK HB hb; have n1_ := Am (bT hv hb); have n2_ := Am (hbox); have GE312 := kG hg hv; have hp1 := pK BK311 hb; obtain ⟨NB311_312, NB312_311⟩ := kXY hg hp1 BK311; clear HB; replace BK311 := hp0 BK311; have HB := n1_; have BK312 := n2_; clear n1_ n2_ hp0 hp1 hv; clear hb hbox hg) | ((with_reducible refine gate_dst (N := 4) rfl ?_); refine bE 4 #[.int .i64 0, .int .i64 0, .int .i64 0] 25 ?_; intro gb313 hg w55 hbox hb; have hp0 := pA BK311 hb; have hv := vK HB hb; have n2_ := Am (bT hv hb); have n3_ := Am (hbox); have GE313 := kG hg hv; have hp1 := pK BK311 hb; obtain ⟨NB311_313, NB313_311⟩ := kXY hg hp1 BK311; obtain ⟨NB312_313, NB313_312⟩ := kXY hg hp1 BK312; clear HB; replace BK311 := hp0 BK311; replace BK312 := hp0 BK312; have HB := n2_; have BK313 := n3_; clear n2_ n3_ hp0 hp1 hv; clear hb hbox hg; have u56 := kO NB311_312; have u57 := kO NB311_313; have z58 := c3 BK311; have u59 := kO NB312_313; have z60 := c3 BK312) | ((with_reducible refine gate_dst (N := 9) rfl ?_); refine Kd.R_lit k25 _ 25 ?hg (N := 9) ?hd (xs := ([(⟨(⟨a0_0, a0_1⟩ : S23), a0_2⟩ : S25), (⟨(⟨a1_0, a1_1⟩ : S23), a1_2⟩ : S25)] : List (S25))) (inner := [.int .i64 a0_0, .int .i64 a0_1, .int .i64 a0_2, .int .i64 a1_0, .int .i64 a1_1, .int .i64 a1_2]) (ok := fun _ => True) (okp := fun _ => True) ?hr ?hp (fun _ hk => hk) trivial (Below.refl _ _) (Nat.le_refl _) (by simp) ?_; (case hd => rfl); (case hg => rfl); (case hr => first | (go_simp; done) | (go_simp; rfl)); (case hp => exact (Reps.c3 (show Kd.M k25 _ _ _ (⟨(⟨a0_0, a0_1⟩ : S23), a0_2⟩ : S25) [.int .i64 a0_0, .int .i64 a0_1, .int .i64 a0_2] from (k25_mkM _ _ _ (⟨(⟨a0_0, a0_1⟩ : S23), a0_2⟩ : S25) )) (Reps.c3 (show Kd.M k25 _ _ _ (⟨(⟨a1_0, a1_1⟩ : S23), a1_2⟩ : S25) [.int .i64 a1_0, .int .i64 a1_1, .int .i64 a1_2] from (k25_mkM _ _ _ (⟨(⟨a1_0, a1_1⟩ : S23), a1_2⟩ : S25) )) (Reps.none _ _)))); intro v315 w61 ho62 hb hg_ hnew_; clear hg_ hnew_; (first | rw [← Ny314.out] at ho62 | (simp only [Int.reduceToNat] at ho62; rw [← Ny314.out] at ho62)); have n0_ := Am (Kd.R_lower (Kd.R_newB (Kd.R_newB (Kd.R_newB ho62 (g := gb311) (o := .cells #[.int .i64 a0_0, .int .i64 a0_1, .int .i64 a0_2] 25 (0, 0)) (kU BK311)) (g := gb312) (o := .cells #[.int .i64 a1_0, .int .i64 a1_1, .int .i64 a1_2] 25 (0, 0)) (kU BK312)) (g := gb313) (o := .cells #[.int .i64 0, .int .i64 0, .int .i64 0] 25 (0, 0)) (kU BK313)) (bZ (by repeat (first | (with_reducible first | exact HB.out | apply bA | apply bN | apply bD | refine bX ?_ (by assumption)) | exact HB.out)))); have hp0 := pA BK311 hb; have hv := vK HB hb; have n4_ := Am (bT hv hb); clear HB; have HO316 := n0_; replace BK311 := hp0 BK311; replace BK312 := hp0 BK312; replace BK313 := hp0 BK313; have HB := n4_; clear n0_ n4_ hp0 hv; clear hb ho62; obtain ⟨Ao63, co63, eo63⟩ := Kd.R_slice HO316.out; subst eo63) | ((with_reducible refine gate_callee (f := 29) rfl ?_); refine gL (some 10) Try.func29 #[.slice Ao63 y314.length co63] rfl ?_; (with_reducible refine (impl_areHands.calls k _ _ y314 false _ ?side1 ?side2 A3.out).mono ?_); (case side1 => repeat (first | exact (Kd.R_reads' HO316.out).2.2 | (with_reducible refine Kd.C_alloc ?_ _) | (with_reducible refine Kd.C_drewN ?_ _) | (with_reducible refine Kd.C_drew ?_))); (case side2 => exact (Kd.R_reads' HO316.out).2.1); rintro e w64 ⟨rfl, hb⟩; refine ⟨_, rfl, ?_⟩; have n0_ := Am (Kd.R_below (kW HO316) hb); have hp0 := pA BK311 hb; have hv := vK HB hb; have n4_ := Am (bT hv hb); clear HO316; clear HB; have HO316 := n0_; replace BK311 := hp0 BK311; replace BK312 := hp0 BK312; replace BK313 := hp0 BK313; have HB := n4_; clear n0_ n4_ hp0 hv; (try clear hb); have z65 := c3 BK313))
  refine bodyPost_ret (results_ct rfl _ _ gb313 25 #[.int .i64 0, .int .i64 0, .int .i64 0] (0, 0) _ rfl (by (with_reducible repeat (first | refine kN ?_ _ | refine kD ?_ | refine kA ?_ _)); refine kP (cs := #[.int .i64 0, .int .i64 0, .int .i64 0]) ?_ 2 _ rfl; (with_reducible repeat (first | refine kN ?_ _ | refine kD ?_ | refine kA ?_ _)); refine kP (cs := #[.int .i64 0, .int .i64 0, .int .i64 0]) ?_ 1 _ rfl; (with_reducible repeat (first | refine kN ?_ _ | refine kD ?_ | refine kA ?_ _)); refine kP (cs := #[.int .i64 0, .int .i64 0, .int .i64 0]) ?_ 0 _ rfl; (with_reducible repeat (first | refine kN ?_ _ | refine kD ?_ | refine kA ?_ _)); exact BK313.out) Try.underlying25 rfl (by kernel_rfl)) rfl ?_
  exact ⟨by first | rfl | (simp [errW_none, errW_some] <;> rfl) | (simp [*, errW_none, errW_some] <;> rfl), by repeat (first | (with_reducible first | exact HB.out | apply bA | apply bN | apply bD | refine bX ?_ (by assumption)) | exact HB.out)⟩
/-! ### spec_RelativeHand: function 9 -/
def spec_RelativeHand.f (k : Nat) (a0_0 : Int) (a0_1 : Int) (a0_2 : Int) (a1_0 : Int) (a1_1 : Int) (a1_2 : Int) : Option (Int × Int × Int × Bool) := (spec_meTwo.f k a0_0 a0_1 a0_2 a1_0 a1_1 a1_2).bind fun t326 => (if t326 = true then ((spec_meRelative.f k a0_0 a0_1 a0_2 a1_0 a1_1 a1_2).bind fun bt327 => ((spec_meGood.f k bt327.1 bt327.2.1 bt327.2.2).bind fun t330 => (if t330 = true then ((spec_meRelative.f k a0_0 a0_1 a0_2 a1_0 a1_1 a1_2).bind fun bt331 => (some (bt331.1, bt331.2.1, bt331.2.2, true))) else (some (0, 0, 0, false))))) else (some (0, 0, 0, false)))
theorem spec_RelativeHand.mono : ∀ a0 a1 a2 a3 a4 a5 k, LeO (spec_RelativeHand.f k a0 a1 a2 a3 a4 a5) (spec_RelativeHand.f (k + 1) a0 a1 a2 a3 a4 a5) := by
 intro a0 a1 a2 a3 a4 a5 k
 unfold spec_RelativeHand.f
 repeat' first
   | (with_reducible exact spec_meGood.mono _ _ _ _)
   | (with_reducible exact spec_meRelative.mono _ _ _ _ _ _ _)
   | (with_reducible exact spec_meTwo.mono _ _ _ _ _ _ _)
   | (with_reducible exact LeO.refl _)
   | (with_reducible exact LeO.none _)
   | (with_reducible refine LeO.ite ?_ ?_)
   | (with_reducible refine LeO.bind ?_ (fun _ => ?_))
   | exact spec_meGood.mono _ _ _ _
   | exact spec_meRelative.mono _ _ _ _ _ _ _
   | exact spec_meTwo.mono _ _ _ _ _ _ _
   | exact LeO.none _
   | refine LeO.ite ?_ ?_
   | refine LeO.bind ?_ (fun _ => ?_)
set_option maxHeartbeats 8000000 in
set_option maxRecDepth 100000 in
theorem spec_RelativeHand.calls (k : Nat) (a0_0 : Int) (a0_1 : Int) (a0_2 : Int) (a1_0 : Int) (a1_1 : Int) (a1_2 : Int) (r1 : Int) (r2 : Int) (r3 : Int) (r4 : Bool) (w : World) (h : spec_RelativeHand.f k a0_0 a0_1 a0_2 a1_0 a1_1 a1_2 = some (r1, r2, r3, r4)) :
  Calls Try.prog 9 #[.agg #[.int .i64 a0_0, .int .i64 a0_1, .int .i64 a0_2], .agg #[.int .i64 a1_0, .int .i64 a1_1, .int .i64 a1_2]] w fun e w' => e = .returned (.tuple #[.agg #[.int .i64 r1, .int .i64 r2, .int .i64 r3], .bool r4]) ∧ Below w.heap.size w w' := by
 have hu25 := Try.underlying25
 have HB := Am (Below.refl w.heap.size w)
 have H : ((spec_meTwo.f k a0_0 a0_1 a0_2 a1_0 a1_1 a1_2).bind fun t326 => (if t326 = true then ((spec_meRelative.f k a0_0 a0_1 a0_2 a1_0 a1_1 a1_2).bind fun bt327 => ((spec_meGood.f k bt327.1 bt327.2.1 bt327.2.2).bind fun t330 => (if t330 = true then ((spec_meRelative.f k a0_0 a0_1 a0_2 a1_0 a1_1 a1_2).bind fun bt331 => (some (bt331.1, bt331.2.1, bt331.2.2, true))) else (some (0, 0, 0, false))))) else (some (0, 0, 0, false)))) = some (r1, r2, r3, r4) := h
 clear h
 replace H := Option.bind_eq_some_iff.mp H
 obtain ⟨t326, A30, H⟩ := H
 try dsimp only at H
 have A3 := Am A30
 clear A30
 by_cases c4 : t326 = true
 ·subst c4
  have H1 : ((spec_meRelative.f k a0_0 a0_1 a0_2 a1_0 a1_1 a1_2).bind fun bt327 => ((spec_meGood.f k bt327.1 bt327.2.1 bt327.2.2).bind fun t330 => (if t330 = true then ((spec_meRelative.f k a0_0 a0_1 a0_2 a1_0 a1_1 a1_2).bind fun bt331 => (some (bt331.1, bt331.2.1, bt331.2.2, true))) else (some (0, 0, 0, false))))) = some (r1, r2, r3, r4) := by rw [if_pos rfl] at H; exact H
  clear H
  have H := H1
  clear H1
  replace H := Option.bind_eq_some_iff.mp H
  obtain ⟨⟨t327, t328, t329⟩, A50, H⟩ := H
  try dsimp only at H
  have A5 := Am A50
  clear A50
  replace H := Option.bind_eq_some_iff.mp H
  obtain ⟨t330, A60, H⟩ := H
  try dsimp only at H
  have A6 := Am A60
  clear A60
  by_cases c7 : t330 = true
  ·subst c7
   have H1 : ((spec_meRelative.f k a0_0 a0_1 a0_2 a1_0 a1_1 a1_2).bind fun bt331 => (some (bt331.1, bt331.2.1, bt331.2.2, true))) = some (r1, r2, r3, r4) := by rw [if_pos rfl] at H; exact H
   clear H
   have H := H1
   clear H1
   replace H := Option.bind_eq_some_iff.mp H
   obtain ⟨⟨t331, t332, t333⟩, A80, H⟩ := H
   try dsimp only at H
   have A8 := Am A80
   clear A80
   focus
    simp only [Option.some.injEq, Prod.mk.injEq] at H
    obtain ⟨rfl, rfl, rfl, rfl⟩ := H
    go_enter Try.func9, Try.ntmps9
    go_wp2_with (first | ((with_reducible refine gate_dst (N := 2) rfl ?_); refine bE 2 #[.int .i64 a0_0, .int .i64 a0_1, .int .i64 a0_2] 25 ?_; intro gb323 hg w9 hbox hb; have hv := vK HB hb; have n0_ := Am (bT hv hb); have n1_ := Am (hbox); have GE323 := kG hg hv; clear HB; have HB := n0_; have BK323 := n1_; clear n0_ n1_ hv; clear hb hbox hg) | ((with_reducible refine gate_dst (N := 3) rfl ?_); refine bE 3 #[.int .i64 a1_0, .int .i64 a1_1, .int .i64 a1_2] 25 ?_; intro gb324 hg w10 hbox hb; have hp0 := pA BK323 hb; have hv := vK HB hb; have n1_ := Am (bT hv hb); have n2_ := Am (hbox); have GE324 := kG hg hv; have hp1 := pK BK323 hb; obtain ⟨NB323_324, NB324_323⟩ := kXY hg hp1 BK323; clear HB; replace BK323 := hp0 BK323; have HB := n1_; have BK324 := n2_; clear n1_ n2_ hp0 hp1 hv; clear hb hbox hg) | ((with_reducible refine gate_dst (N := 4) rfl ?_); refine bE 4 #[.int .i64 0, .int .i64 0, .int .i64 0] 25 ?_; intro gb325 hg w11 hbox hb; have hp0 := pA BK323 hb; have hv := vK HB hb; have n2_ := Am (bT hv hb); have n3_ := Am (hbox); have GE325 := kG hg hv; have hp1 := pK BK323 hb; obtain ⟨NB323_325, NB325_323⟩ := kXY hg hp1 BK323; obtain ⟨NB324_325, NB325_324⟩ := kXY hg hp1 BK324; clear HB; replace BK323 := hp0 BK323; replace BK324 := hp0 BK324; have HB := n2_; have BK325 := n3_; clear n2_ n3_ hp0 hp1 hv; clear hb hbox hg; have u12 := kO NB323_324; have u13 := kO NB323_325; have z14 := c3 BK323; have u15 := kO NB324_325; have z16 := c3 BK324) | ((with_reducible refine gate_callee (f := 34) rfl ?_); refine gL (some 8) Try.func34 #[.agg #[.int .i64 a0_0, .int .i64 a0_1, .int .i64 a0_2], .agg #[.int .i64 a1_0, .int .i64 a1_1, .int .i64 a1_2]] rfl ?_; (with_reducible refine (spec_meTwo.calls k a0_0 a0_1 a0_2 a1_0 a1_1 a1_2 true _ A3.out).mono ?_); rintro e w17 ⟨rfl, hb⟩; refine ⟨_, rfl, ?_⟩; have hp0 := pA BK323 hb; have hv := vK HB hb; have n3_ := Am (bT hv hb); clear HB; replace BK323 := hp0 BK323; replace BK324 := hp0 BK324; replace BK325 := hp0 BK325; have HB := n3_; clear n3_ hp0 hv; (try clear hb); have z18 := c3 BK323; have z19 := c3 BK324) | (go_at_call 28; (with_reducible refine (spec_meRelative.calls k a0_0 a0_1 a0_2 a1_0 a1_1 a1_2 t327 t328 t329 _ A5.out).mono ?_); rintro e w20 ⟨rfl, hb⟩; have hp0 := pA BK323 hb; have hv := vK HB hb; have n3_ := Am (bT hv hb); clear HB; replace BK323 := hp0 BK323; replace BK324 := hp0 BK324; replace BK325 := hp0 BK325; have HB := n3_; clear n3_ hp0 hv; (try clear hb)) | (go_at_call 38; (with_reducible refine (spec_meGood.calls k t327 t328 t329 true _ A6.out).mono ?_); rintro e w21 ⟨rfl, hb⟩; have hp0 := pA BK323 hb; have hv := vK HB hb; have n3_ := Am (bT hv hb); clear HB; replace BK323 := hp0 BK323; replace BK324 := hp0 BK324; replace BK325 := hp0 BK325; have HB := n3_; clear n3_ hp0 hv; (try clear hb); have z22 := c3 BK323; have z23 := c3 BK324) | ((with_reducible refine gate_callee (f := 28) rfl ?_); refine gL (some 20) Try.func28 #[.agg #[.int .i64 a0_0, .int .i64 a0_1, .int .i64 a0_2], .agg #[.int .i64 a1_0, .int .i64 a1_1, .int .i64 a1_2]] rfl ?_; (with_reducible refine (spec_meRelative.calls k a0_0 a0_1 a0_2 a1_0 a1_1 a1_2 t331 t332 t333 _ A8.out).mono ?_); rintro e w24 ⟨rfl, hb⟩; refine ⟨_, rfl, ?_⟩; have hp0 := pA BK323 hb; have hv := vK HB hb; have n3_ := Am (bT hv hb); clear HB; replace BK323 := hp0 BK323; replace BK324 := hp0 BK324; replace BK325 := hp0 BK325; have HB := n3_; clear n3_ hp0 hv; (try clear hb); have z25 := c3 BK325))
    refine bodyPost_ret (results_ct rfl _ _ gb325 25 #[.int .i64 t331, .int .i64 t332, .int .i64 t333] (0, 0) _ rfl (by (with_reducible repeat (first | refine kN ?_ _ | refine kD ?_ | refine kA ?_ _)); refine kP (cs := #[.int .i64 t331, .int .i64 t332, .int .i64 0]) ?_ 2 _ rfl; (with_reducible repeat (first | refine kN ?_ _ | refine kD ?_ | refine kA ?_ _)); refine kP (cs := #[.int .i64 t331, .int .i64 0, .int .i64 0]) ?_ 1 _ rfl; (with_reducible repeat (first | refine kN ?_ _ | refine kD ?_ | refine kA ?_ _)); refine kP (cs := #[.int .i64 0, .int .i64 0, .int .i64 0]) ?_ 0 _ rfl; (with_reducible repeat (first | refine kN ?_ _ | refine kD ?_ | refine kA ?_ _)); exact BK325.out) Try.underlying25 rfl (by kernel_rfl)) rfl ?_
    exact ⟨by first | rfl | (simp [errW_none, errW_some] <;> rfl) | (simp [*, errW_none, errW_some] <;> rfl), by repeat (first | (with_reducible first | exact HB.out | apply bA | apply bN | apply bD | refine bX ?_ (by assumption)) | exact HB.out)⟩
  replace c7 := Bool.eq_false_iff.mpr c7
  subst c7
  have H1 : (some (0, 0, 0, false)) = some (r1, r2, r3, r4) := by rw [if_neg (show ¬ (false = true) by decide)] at H; exact H
  clear H
  have H := H1
  clear H1
  focus
   simp only [Option.some.injEq, Prod.mk.injEq] at H
   obtain ⟨rfl, rfl, rfl, rfl⟩ := H
   go_enter Try.func9, Try.ntmps9
   go_wp2_with (first | ((with_reducible refine gate_dst (N := 2) rfl ?_); refine bE 2 #[.int .i64 a0_0, .int .i64 a0_1, .int .i64 a0_2] 25 ?_; intro gb323 hg w26 hbox hb; have hv := vK HB hb; have n0_ := Am (bT hv hb); have n1_ := Am (hbox); have GE323 := kG hg hv; clear HB; have HB := n0_; have BK323 := n1_; clear n0_ n1_ hv; clear hb hbox hg) | ((with_reducible refine gate_dst (N := 3) rfl ?_); refine bE 3 #[.int .i64 a1_0, .int .i64 a1_1, .int .i64 a1_2] 25 ?_; intro gb324 hg w27 hbox hb; have hp0 := pA BK323 hb; have hv := vK HB hb; have n1_ := Am (bT hv hb); have n2_ := Am (hbox); have GE324 := kG hg hv; have hp1 := pK BK323 hb; obtain ⟨NB323_324, NB324_323⟩ := kXY hg hp1 BK323; clear HB; replace BK323 := hp0 BK323; have HB := n1_; have BK324 := n2_; clear n1_ n2_ hp0 hp1 hv; clear hb hbox hg) | ((with_reducible refine gate_dst (N := 4) rfl ?_); refine bE 4 #[.int .i64 0, .int .i64 0, .int .i64 0] 25 ?_; intro gb325 hg w28 hbox hb; have hp0 := pA BK323 hb; have hv := vK HB hb; have n2_ := Am (bT hv hb); have n3_ := Am (hbox); have GE325 := kG hg hv; have hp1 := pK BK323 hb; obtain ⟨NB323_325, NB325_323⟩ := kXY hg hp1 BK323; obtain ⟨NB324_325, NB325_324⟩ := kXY hg hp1 BK324; clear HB; replace BK323 := hp0 BK323; replace BK324 := hp0 BK324; have HB := n2_; have BK325 := n3_; clear n2_ n3_ hp0 hp1 hv; clear hb hbox hg; have u29 := kO NB323_324; have u30 := kO NB323_325; have z31 := c3 BK323; have u32 := kO NB324_325; have z33 := c3 BK324) | ((with_reducible refine gate_callee (f := 34) rfl ?_); refine gL (some 8) Try.func34 #[.agg #[.int .i64 a0_0, .int .i64 a0_1, .int .i64 a0_2], .agg #[.int .i64 a1_0, .int .i64 a1_1, .int .i64 a1_2]] rfl ?_; (with_reducible refine (spec_meTwo.calls k a0_0 a0_1 a0_2 a1_0 a1_1 a1_2 true _ A3.out).mono ?_); rintro e w34 ⟨rfl, hb⟩; refine ⟨_, rfl, ?_⟩; have hp0 := pA BK323 hb; have hv := vK HB hb; have n3_ := Am (bT hv hb); clear HB; replace BK323 := hp0 BK323; replace BK324 := hp0 BK324; replace BK325 := hp0 BK325; have HB := n3_; clear n3_ hp0 hv; (try clear hb); have z35 := c3 BK323; have z36 := c3 BK324) | (go_at_call 28; (with_reducible refine (spec_meRelative.calls k a0_0 a0_1 a0_2 a1_0 a1_1 a1_2 t327 t328 t329 _ A5.out).mono ?_); rintro e w37 ⟨rfl, hb⟩; have hp0 := pA BK323 hb; have hv := vK HB hb; have n3_ := Am (bT hv hb); clear HB; replace BK323 := hp0 BK323; replace BK324 := hp0 BK324; replace BK325 := hp0 BK325; have HB := n3_; clear n3_ hp0 hv; (try clear hb)) | (go_at_call 38; (with_reducible refine (spec_meGood.calls k t327 t328 t329 false _ A6.out).mono ?_); rintro e w38 ⟨rfl, hb⟩; have hp0 := pA BK323 hb; have hv := vK HB hb; have n3_ := Am (bT hv hb); clear HB; replace BK323 := hp0 BK323; replace BK324 := hp0 BK324; replace BK325 := hp0 BK325; have HB := n3_; clear n3_ hp0 hv; (try clear hb); have z39 := c3 BK325))
   refine bodyPost_ret (results_ct rfl _ _ gb325 25 #[.int .i64 0, .int .i64 0, .int .i64 0] (0, 0) _ rfl (by (with_reducible repeat (first | refine kN ?_ _ | refine kD ?_ | refine kA ?_ _)); refine kP (cs := #[.int .i64 0, .int .i64 0, .int .i64 0]) ?_ 2 _ rfl; (with_reducible repeat (first | refine kN ?_ _ | refine kD ?_ | refine kA ?_ _)); refine kP (cs := #[.int .i64 0, .int .i64 0, .int .i64 0]) ?_ 1 _ rfl; (with_reducible repeat (first | refine kN ?_ _ | refine kD ?_ | refine kA ?_ _)); refine kP (cs := #[.int .i64 0, .int .i64 0, .int .i64 0]) ?_ 0 _ rfl; (with_reducible repeat (first | refine kN ?_ _ | refine kD ?_ | refine kA ?_ _)); exact BK325.out) Try.underlying25 rfl (by kernel_rfl)) rfl ?_
   exact ⟨by first | rfl | (simp [errW_none, errW_some] <;> rfl) | (simp [*, errW_none, errW_some] <;> rfl), by repeat (first | (with_reducible first | exact HB.out | apply bA | apply bN | apply bD | refine bX ?_ (by assumption)) | exact HB.out)⟩
 replace c4 := Bool.eq_false_iff.mpr c4
 subst c4
 have H1 : (some (0, 0, 0, false)) = some (r1, r2, r3, r4) := by rw [if_neg (show ¬ (false = true) by decide)] at H; exact H
 clear H
 have H := H1
 clear H1
 focus
  simp only [Option.some.injEq, Prod.mk.injEq] at H
  obtain ⟨rfl, rfl, rfl, rfl⟩ := H
  go_enter Try.func9, Try.ntmps9
  go_wp2_with (first | ((with_reducible refine gate_dst (N := 2) rfl ?_); refine bE 2 #[.int .i64 a0_0, .int .i64 a0_1, .int .i64 a0_2] 25 ?_; intro gb323 hg w40 hbox hb; have hv := vK HB hb; have n0_ := Am (bT hv hb); have n1_ := Am (hbox); have GE323 := kG hg hv; clear HB; have HB := n0_; have BK323 := n1_; clear n0_ n1_ hv; clear hb hbox hg) | ((with_reducible refine gate_dst (N := 3) rfl ?_); refine bE 3 #[.int .i64 a1_0, .int .i64 a1_1, .int .i64 a1_2] 25 ?_; intro gb324 hg w41 hbox hb; have hp0 := pA BK323 hb; have hv := vK HB hb; have n1_ := Am (bT hv hb); have n2_ := Am (hbox); have GE324 := kG hg hv; have hp1 := pK BK323 hb; obtain ⟨NB323_324, NB324_323⟩ := kXY hg hp1 BK323; clear HB; replace BK323 := hp0 BK323; have HB := n1_; have BK324 := n2_; clear n1_ n2_ hp0 hp1 hv; clear hb hbox hg) | ((with_reducible refine gate_dst (N := 4) rfl ?_); refine bE 4 #[.int .i64 0, .int .i64 0, .int .i64 0] 25 ?_; intro gb325 hg w42 hbox hb; have hp0 := pA BK323 hb; have hv := vK HB hb; have n2_ := Am (bT hv hb); have n3_ := Am (hbox); have GE325 := kG hg hv; have hp1 := pK BK323 hb; obtain ⟨NB323_325, NB325_323⟩ := kXY hg hp1 BK323; obtain ⟨NB324_325, NB325_324⟩ := kXY hg hp1 BK324; clear HB; replace BK323 := hp0 BK323; replace BK324 := hp0 BK324; have HB := n2_; have BK325 := n3_; clear n2_ n3_ hp0 hp1 hv; clear hb hbox hg; have u43 := kO NB323_324; have u44 := kO NB323_325; have z45 := c3 BK323; have u46 := kO NB324_325; have z47 := c3 BK324) | ((with_reducible refine gate_callee (f := 34) rfl ?_); refine gL (some 8) Try.func34 #[.agg #[.int .i64 a0_0, .int .i64 a0_1, .int .i64 a0_2], .agg #[.int .i64 a1_0, .int .i64 a1_1, .int .i64 a1_2]] rfl ?_; (with_reducible refine (spec_meTwo.calls k a0_0 a0_1 a0_2 a1_0 a1_1 a1_2 false _ A3.out).mono ?_); rintro e w48 ⟨rfl, hb⟩; refine ⟨_, rfl, ?_⟩; have hp0 := pA BK323 hb; have hv := vK HB hb; have n3_ := Am (bT hv hb); clear HB; replace BK323 := hp0 BK323; replace BK324 := hp0 BK324; replace BK325 := hp0 BK325; have HB := n3_; clear n3_ hp0 hv; (try clear hb); have z49 := c3 BK325))
  refine bodyPost_ret (results_ct rfl _ _ gb325 25 #[.int .i64 0, .int .i64 0, .int .i64 0] (0, 0) _ rfl (by (with_reducible repeat (first | refine kN ?_ _ | refine kD ?_ | refine kA ?_ _)); refine kP (cs := #[.int .i64 0, .int .i64 0, .int .i64 0]) ?_ 2 _ rfl; (with_reducible repeat (first | refine kN ?_ _ | refine kD ?_ | refine kA ?_ _)); refine kP (cs := #[.int .i64 0, .int .i64 0, .int .i64 0]) ?_ 1 _ rfl; (with_reducible repeat (first | refine kN ?_ _ | refine kD ?_ | refine kA ?_ _)); refine kP (cs := #[.int .i64 0, .int .i64 0, .int .i64 0]) ?_ 0 _ rfl; (with_reducible repeat (first | refine kN ?_ _ | refine kD ?_ | refine kA ?_ _)); exact BK325.out) Try.underlying25 rfl (by kernel_rfl)) rfl ?_
  exact ⟨by first | rfl | (simp [errW_none, errW_some] <;> rfl) | (simp [*, errW_none, errW_some] <;> rfl), by repeat (first | (with_reducible first | exact HB.out | apply bA | apply bN | apply bD | refine bX ?_ (by assumption)) | exact HB.out)⟩
/-! ### impl_OppositeTimes: function 10 -/
def impl_OppositeTimes.f (k : Nat) (a0_0 : Int) (a0_1 : Int) (a0_2 : Int) (a1_0 : Int) (a1_1 : Int) (a1_2 : Int) : Option ((List (S23)) × Bool) := (impl_aheadTimes.f k a0_0 a0_1 a0_2 a1_0 a1_1 a1_2 1 2).bind fun bt336 => (some (bt336.1, bt336.2))
theorem impl_OppositeTimes.mono : ∀ a0 a1 a2 a3 a4 a5 k, LeO (impl_OppositeTimes.f k a0 a1 a2 a3 a4 a5) (impl_OppositeTimes.f (k + 1) a0 a1 a2 a3 a4 a5) := by
 intro a0 a1 a2 a3 a4 a5 k
 unfold impl_OppositeTimes.f
 repeat' first
   | (with_reducible exact impl_aheadTimes.mono _ _ _ _ _ _ _ _ _)
   | (with_reducible exact LeO.refl _)
   | (with_reducible exact LeO.none _)
   | (with_reducible refine LeO.ite ?_ ?_)
   | (with_reducible refine LeO.bind ?_ (fun _ => ?_))
   | exact impl_aheadTimes.mono _ _ _ _ _ _ _ _ _
   | exact LeO.none _
   | refine LeO.ite ?_ ?_
   | refine LeO.bind ?_ (fun _ => ?_)
set_option maxHeartbeats 8000000 in
set_option maxRecDepth 100000 in
theorem impl_OppositeTimes.calls (k : Nat) (a0_0 : Int) (a0_1 : Int) (a0_2 : Int) (a1_0 : Int) (a1_1 : Int) (a1_2 : Int) (r1 : List (S23)) (r2 : Bool) (w : World) (h : impl_OppositeTimes.f k a0_0 a0_1 a0_2 a1_0 a1_1 a1_2 = some (r1, r2)) :
  Calls Try.prog 10 #[.agg #[.int .i64 a0_0, .int .i64 a0_1, .int .i64 a0_2], .agg #[.int .i64 a1_0, .int .i64 a1_1, .int .i64 a1_2]] w fun e w' => ∃ v0_ : Value, e = .returned (.tuple #[v0_, .bool r2]) ∧ Kd.R k23 23 w' w.heap.size (fun _ => True) v0_ r1 ∧ Below w.heap.size w w' := by
 have hu25 := Try.underlying25; have hu23 := Try.underlying23
 have HB := Am (Below.refl w.heap.size w)
 have H : ((impl_aheadTimes.f k a0_0 a0_1 a0_2 a1_0 a1_1 a1_2 1 2).bind fun bt336 => (some (bt336.1, bt336.2))) = some (r1, r2) := h
 clear h
 replace H := Option.bind_eq_some_iff.mp H
 obtain ⟨⟨t336, t339⟩, A30, H⟩ := H
 try dsimp only at H
 have A3 := Am A30
 clear A30
 focus
  simp only [Option.some.injEq, Prod.mk.injEq] at H
  obtain ⟨rfl, rfl⟩ := H
  go_enter Try.func10, Try.ntmps10
  go_wp2_with (first | ((with_reducible refine gate_dst (N := 2) rfl ?_); refine bE 2 #[.int .i64 a0_0, .int .i64 a0_1, .int .i64 a0_2] 25 ?_; intro gb334 hg w4 hbox hb; have hv := vK HB hb; have n0_ := Am (bT hv hb); have n1_ := Am (hbox); have GE334 := kG hg hv; clear HB; have HB := n0_; have BK334 := n1_; clear n0_ n1_ hv; clear hb hbox hg) | ((with_reducible refine gate_dst (N := 3) rfl ?_); refine bE 3 #[.int .i64 a1_0, .int .i64 a1_1, .int .i64 a1_2] 25 ?_; intro gb335 hg w5 hbox hb; have hp0 := pA BK334 hb; have hv := vK HB hb; have n1_ := Am (bT hv hb); have n2_ := Am (hbox); have GE335 := kG hg hv; have hp1 := pK BK334 hb; obtain ⟨NB334_335, NB335_334⟩ := kXY hg hp1 BK334; clear HB; replace BK334 := hp0 BK334; have HB := n1_; have BK335 := n2_; clear n1_ n2_ hp0 hp1 hv; clear hb hbox hg; have u6 := kO NB334_335; have z7 := c3 BK334; have z8 := c3 BK335) | ((with_reducible refine gate_callee (f := 24) rfl ?_); refine gL (some 9) Try.func24 #[.agg #[.int .i64 a0_0, .int .i64 a0_1, .int .i64 a0_2], .agg #[.int .i64 a1_0, .int .i64 a1_1, .int .i64 a1_2], .agg #[.int .i64 1, .int .i64 2]] rfl ?_; (with_reducible refine (impl_aheadTimes.calls k a0_0 a0_1 a0_2 a1_0 a1_1 a1_2 1 2 t336 t339 _ A3.out).mono ?_); rintro e w9 ⟨v337, rfl, ho0, hb⟩; refine ⟨_, rfl, ?_⟩; have n0_ := Am (Kd.R_lower ho0 (bZ (by repeat (first | (with_reducible first | exact HB.out | apply bA | apply bN | apply bD | refine bX ?_ (by assumption)) | exact HB.out)))); have hp0 := pA BK334 hb; have hv := vK HB hb; have n3_ := Am (bT hv hb); clear HB; have HO338 := n0_; replace BK334 := hp0 BK334; replace BK335 := hp0 BK335; have HB := n3_; clear n0_ n3_ hp0 hv; (try clear hb); (try clear ho0)))
  go_ret2
  exact ⟨_, by first | rfl | (simp [errW_none, errW_some] <;> rfl) | (simp [*, errW_none, errW_some] <;> rfl), by (with_reducible repeat (first | apply Kd.R_alloc | apply Kd.R_drewN | apply Kd.R_drew)); exact HO338.out, by repeat (first | (with_reducible first | exact HB.out | apply bA | apply bN | apply bD | refine bX ?_ (by assumption)) | exact HB.out)⟩
/-! ### spec_OppositeTimes: function 11 -/
def spec_OppositeTimes.f (k : Nat) (a0_0 : Int) (a0_1 : Int) (a0_2 : Int) (a1_0 : Int) (a1_1 : Int) (a1_2 : Int) : Option ((List (S23)) × Bool) := (spec_AheadTimes.f k a0_0 a0_1 a0_2 a1_0 a1_1 a1_2 1 2).bind fun bt342 => (some (bt342.1, bt342.2))
theorem spec_OppositeTimes.mono : ∀ a0 a1 a2 a3 a4 a5 k, LeO (spec_OppositeTimes.f k a0 a1 a2 a3 a4 a5) (spec_OppositeTimes.f (k + 1) a0 a1 a2 a3 a4 a5) := by
 intro a0 a1 a2 a3 a4 a5 k
 unfold spec_OppositeTimes.f
 repeat' first
   | (with_reducible exact spec_AheadTimes.mono _ _ _ _ _ _ _ _ _)
   | (with_reducible exact LeO.refl _)
   | (with_reducible exact LeO.none _)
   | (with_reducible refine LeO.ite ?_ ?_)
   | (with_reducible refine LeO.bind ?_ (fun _ => ?_))
   | exact spec_AheadTimes.mono _ _ _ _ _ _ _ _ _
   | exact LeO.none _
   | refine LeO.ite ?_ ?_
   | refine LeO.bind ?_ (fun _ => ?_)
set_option maxHeartbeats 8000000 in
set_option maxRecDepth 100000 in
theorem spec_OppositeTimes.calls (k : Nat) (a0_0 : Int) (a0_1 : Int) (a0_2 : Int) (a1_0 : Int) (a1_1 : Int) (a1_2 : Int) (r1 : List (S23)) (r2 : Bool) (w : World) (h : spec_OppositeTimes.f k a0_0 a0_1 a0_2 a1_0 a1_1 a1_2 = some (r1, r2)) :
  Calls Try.prog 11 #[.agg #[.int .i64 a0_0, .int .i64 a0_1, .int .i64 a0_2], .agg #[.int .i64 a1_0, .int .i64 a1_1, .int .i64 a1_2]] w fun e w' => ∃ v0_ : Value, e = .returned (.tuple #[v0_, .bool r2]) ∧ Kd.R k23 23 w' w.heap.size (fun _ => True) v0_ r1 ∧ Below w.heap.size w w' := by
 have hu25 := Try.underlying25; have hu23 := Try.underlying23
 have HB := Am (Below.refl w.heap.size w)
 have H : ((spec_AheadTimes.f k a0_0 a0_1 a0_2 a1_0 a1_1 a1_2 1 2).bind fun bt342 => (some (bt342.1, bt342.2))) = some (r1, r2) := h
 clear h
 replace H := Option.bind_eq_some_iff.mp H
 obtain ⟨⟨t342, t345⟩, A30, H⟩ := H
 try dsimp only at H
 have A3 := Am A30
 clear A30
 focus
  simp only [Option.some.injEq, Prod.mk.injEq] at H
  obtain ⟨rfl, rfl⟩ := H
  go_enter Try.func11, Try.ntmps11
  go_wp2_with (first | ((with_reducible refine gate_dst (N := 2) rfl ?_); refine bE 2 #[.int .i64 a0_0, .int .i64 a0_1, .int .i64 a0_2] 25 ?_; intro gb340 hg w4 hbox hb; have hv := vK HB hb; have n0_ := Am (bT hv hb); have n1_ := Am (hbox); have GE340 := kG hg hv; clear HB; have HB := n0_; have BK340 := n1_; clear n0_ n1_ hv; clear hb hbox hg) | ((with_reducible refine gate_dst (N := 3) rfl ?_); refine bE 3 #[.int .i64 a1_0, .int .i64 a1_1, .int .i64 a1_2] 25 ?_; intro gb341 hg w5 hbox hb; have hp0 := pA BK340 hb; have hv := vK HB hb; have n1_ := Am (bT hv hb); have n2_ := Am (hbox); have GE341 := kG hg hv; have hp1 := pK BK340 hb; obtain ⟨NB340_341, NB341_340⟩ := kXY hg hp1 BK340; clear HB; replace BK340 := hp0 BK340; have HB := n1_; have BK341 := n2_; clear n1_ n2_ hp0 hp1 hv; clear hb hbox hg; have u6 := kO NB340_341; have z7 := c3 BK340; have z8 := c3 BK341) | ((with_reducible refine gate_callee (f := 5) rfl ?_); refine gL (some 9) Try.func5 #[.agg #[.int .i64 a0_0, .int .i64 a0_1, .int .i64 a0_2], .agg #[.int .i64 a1_0, .int .i64 a1_1, .int .i64 a1_2], .agg #[.int .i64 1, .int .i64 2]] rfl ?_; (with_reducible refine (spec_AheadTimes.calls k a0_0 a0_1 a0_2 a1_0 a1_1 a1_2 1 2 t342 t345 _ A3.out).mono ?_); rintro e w9 ⟨v343, rfl, ho0, hb⟩; refine ⟨_, rfl, ?_⟩; have n0_ := Am (Kd.R_lower ho0 (bZ (by repeat (first | (with_reducible first | exact HB.out | apply bA | apply bN | apply bD | refine bX ?_ (by assumption)) | exact HB.out)))); have hp0 := pA BK340 hb; have hv := vK HB hb; have n3_ := Am (bT hv hb); clear HB; have HO344 := n0_; replace BK340 := hp0 BK340; replace BK341 := hp0 BK341; have HB := n3_; clear n0_ n3_ hp0 hv; (try clear hb); (try clear ho0)))
  go_ret2
  exact ⟨_, by first | rfl | (simp [errW_none, errW_some] <;> rfl) | (simp [*, errW_none, errW_some] <;> rfl), by (with_reducible repeat (first | apply Kd.R_alloc | apply Kd.R_drewN | apply Kd.R_drew)); exact HO344.out, by repeat (first | (with_reducible first | exact HB.out | apply bA | apply bN | apply bD | refine bX ?_ (by assumption)) | exact HB.out)⟩
/-! ### laws_kTurns: function 12 -/
def laws_kTurns.l0 : Nat → List (S23) → List (S23) → Int → Int → Option (Bool)
 | 0, _, _, _, _ => none
 | k + 1, x0, x1, x12, x13 => if x13 < x12 then (if 0 ≤ x13 then (if x13 < (x0.length : Int) then (if x13 < (x1.length : Int) then (if (!(((rd_T23 x0 x13).f0) == ((rd_T23 x1 x13).f0)) || (!(((rd_T23 x0 x13).f1) == ((rd_T23 x1 x13).f1)))) = true then (some false) else (laws_kTurns.l0 k x0 x1 x12 (wrap64 (x13 + 1)))) else (none)) else (none)) else (none)) else (some true)
def laws_kTurns.f (k : Nat) (l0 : List (S23)) (l1 : List (S23)) : Option (Bool) := if (l0.length : Int) = (l1.length : Int) then (laws_kTurns.l0 k l0 l1 (l0.length : Int) 0) else (some false)
theorem laws_kTurns.mono_l : ∀ k, (∀ y0 y1 y2 y3, LeO (laws_kTurns.l0 k y0 y1 y2 y3) (laws_kTurns.l0 (k + 1) y0 y1 y2 y3))
 | 0 => fun _ _ _ _ r h => by simp [laws_kTurns.l0] at h
 | k + 1 => by
  have ih0 := laws_kTurns.mono_l k
  ·intro y0 y1 y2 y3
   unfold laws_kTurns.l0
   repeat' first
   | (with_reducible apply ih0)
   | (with_reducible exact LeO.refl _)
   | (with_reducible exact LeO.none _)
   | (with_reducible refine LeO.ite ?_ ?_)
   | (with_reducible refine LeO.bind ?_ (fun _ => ?_))
   | apply ih0
   | exact LeO.none _
   | refine LeO.ite ?_ ?_
   | refine LeO.bind ?_ (fun _ => ?_)
theorem laws_kTurns.mono : ∀ a0 a1 k, LeO (laws_kTurns.f k a0 a1) (laws_kTurns.f (k + 1) a0 a1) := by
 intro a0 a1 k
 have ih0 := laws_kTurns.mono_l k
 unfold laws_kTurns.f
 repeat' first
   | (with_reducible apply ih0)
   | (with_reducible exact LeO.refl _)
   | (with_reducible exact LeO.none _)
   | (with_reducible refine LeO.ite ?_ ?_)
   | (with_reducible refine LeO.bind ?_ (fun _ => ?_))
   | apply ih0
   | exact LeO.none _
   | refine LeO.ite ?_ ?_
   | refine LeO.bind ?_ (fun _ => ?_)
set_option maxHeartbeats 8000000 in
set_option maxRecDepth 100000 in
theorem laws_kTurns.calls (k : Nat) (A0 : Option Addr) (c0 : Nat) (l0 : List (S23)) (A1 : Option Addr) (c1 : Nat) (l1 : List (S23)) (r : Bool) (w : World) (hr0 : Kd.C k23 w A0 l0.length l0) (hc0 : l0.length ≤ c0) (hr1 : Kd.C k23 w A1 l1.length l1) (hc1 : l1.length ≤ c1) (h : laws_kTurns.f k l0 l1 = some r) :
  Calls Try.prog 12 #[.slice A0 l0.length c0, .slice A1 l1.length c1] w fun e w' => e = .returned (.bool r) ∧ Drawn0 w w' := by
 have hu23 := Try.underlying23
 have HR0 := Am hr0
 have HC0 := Am hc0
 clear hr0 hc0
 have HR1 := Am hr1
 have HC1 := Am hc1
 clear hr1 hc1
 have H : (if (l0.length : Int) = (l1.length : Int) then (laws_kTurns.l0 k l0 l1 (l0.length : Int) 0) else (some false)) = some r := h
 clear h
 by_cases c3 : (l0.length : Int) = (l1.length : Int)
 ·rw [if_pos c3] at H
  have c3b0 : ((l0.length : Int) == (l1.length : Int)) = true := beq_iff_eq.mpr c3
  have c3b1 : ((l0.length : Int) != (l1.length : Int)) = false := bne_eq_false_iff_eq.mpr c3
  have c3b2 : (l0.length == l1.length) = true := by first | simpa using c3 | (simp at c3 ⊢; omega)
  clear c3
  have H' := Am H
  clear H
  go_enter Try.func12, Try.ntmps12
  go_wp2
  repeat (go_quiet (fail); try go_wp2)
  go_loopg [13] k (fun kq v13 w' => ∃ (x13_1 : Int), v13 = .int .i64 x13_1 ∧ Aside0 (laws_kTurns.l0 kq l0 l1 (l0.length : Int) x13_1 = some r) ∧ Aside0 (kq ≤ k) ∧ Drawn0 w w')
  case atStart => exact ⟨(0), (by first | rfl | (simp; done) | (simp [*]; done)), H', ⟨Nat.le_refl _⟩, by repeat (first | exact Drawn0.refl _ | apply Drawn0.step)⟩
  case round =>
   clear H'
   (try clear c1); (try clear c3); (try clear c3b0); (try clear c3b1); (try clear c3b2)
   obtain ⟨x13_1, rfl, HA, HK1, ⟨m1, rfl⟩⟩ := hrel
   cases gk with
   | zero => exact absurd HA.out (by simp [laws_kTurns.l0])
   | succ k1 =>
    have H := HA.out
    clear HA
    simp only [laws_kTurns.l0] at H
    by_cases c4 : x13_1 < (l0.length : Int)
    ·rw [if_pos c4] at H
     have c4b0 : decide (x13_1 < (l0.length : Int)) = true := decide_eq_true c4
     clear c4
     by_cases c5 : 0 ≤ x13_1
     ·rw [if_pos c5] at H
      have c5b0 : decide (0 ≤ x13_1) = true := decide_eq_true c5
      clear c5
      by_cases c6 : x13_1 < (l0.length : Int)
      ·rw [if_pos c6] at H
       have c6b0 : decide (x13_1 < (l0.length : Int)) = true := decide_eq_true c6
       clear c6
       by_cases c7 : x13_1 < (l1.length : Int)
       ·rw [if_pos c7] at H
        have c7b0 : decide (x13_1 < (l1.length : Int)) = true := decide_eq_true c7
        clear c7
        by_cases c8 : (!(((rd_T23 l0 x13_1).f0) == ((rd_T23 l1 x13_1).f0)) || (!(((rd_T23 l0 x13_1).f1) == ((rd_T23 l1 x13_1).f1)))) = true
        ·rw [if_pos c8] at H
         have c8b0 : (!(((rd_T23 l0 x13_1).f0) == ((rd_T23 l1 x13_1).f0)) || (!(((rd_T23 l0 x13_1).f1) == ((rd_T23 l1 x13_1).f1)))) = true := c8
         clear c8
         focus
          obtain rfl := Option.some.inj H
          have p346 : 0 ≤ (x13_1 : Int) := of_decide_eq_true (by first | (with_reducible assumption) | assumption)
          have q346 : x13_1 < (l0.length : Int) := of_decide_eq_true (by first | (with_reducible assumption) | assumption)
          obtain ⟨ad346, e346, hx346_0, hx346_1⟩ := at_T23 HR0.out x13_1 p346 q346
          cases e346
          replace p346 := eq_true p346
          replace q346 := eq_true q346
          have p347 : 0 ≤ (x13_1 : Int) := of_decide_eq_true (by first | (with_reducible assumption) | assumption)
          have q347 : x13_1 < (l1.length : Int) := of_decide_eq_true (by first | (with_reducible assumption) | assumption)
          obtain ⟨ad347, e347, hx347_0, hx347_1⟩ := at_T23 HR1.out x13_1 p347 q347
          cases e347
          replace p347 := eq_true p347
          replace q347 := eq_true q347
          go_wp2
          repeat (go_quiet (fail); try go_wp2)
          go_ret
          exact ⟨by first | rfl | (simp; done) | (simp [*]; done), by repeat (first | exact Drawn0.refl _ | apply Drawn0.step)⟩
        rw [if_neg c8] at H
        have c8b0 : (!(((rd_T23 l0 x13_1).f0) == ((rd_T23 l1 x13_1).f0)) || (!(((rd_T23 l0 x13_1).f1) == ((rd_T23 l1 x13_1).f1)))) = false := by simpa using c8
        clear c8
        focus
         have H' := Am H
         clear H
         have p346 : 0 ≤ (x13_1 : Int) := of_decide_eq_true (by first | (with_reducible assumption) | assumption)
         have q346 : x13_1 < (l0.length : Int) := of_decide_eq_true (by first | (with_reducible assumption) | assumption)
         obtain ⟨ad346, e346, hx346_0, hx346_1⟩ := at_T23 HR0.out x13_1 p346 q346
         cases e346
         replace p346 := eq_true p346
         replace q346 := eq_true q346
         have p347 : 0 ≤ (x13_1 : Int) := of_decide_eq_true (by first | (with_reducible assumption) | assumption)
         have q347 : x13_1 < (l1.length : Int) := of_decide_eq_true (by first | (with_reducible assumption) | assumption)
         obtain ⟨ad347, e347, hx347_0, hx347_1⟩ := at_T23 HR1.out x13_1 p347 q347
         cases e347
         replace p347 := eq_true p347
         replace q347 := eq_true q347
         go_wp2
         repeat (go_quiet (fail); try go_wp2)
         go_roundg k1
         case measure => have := HK1.out; omega
         case rel => exact ⟨(wrap64 (x13_1 + 1)), (by first | rfl | (simp; done) | (simp [*]; done)), H', ⟨by have := HK1.out; omega⟩, by repeat (first | exact Drawn0.refl _ | apply Drawn0.step)⟩
       rw [if_neg c7] at H
       exact absurd H (by simp)
      rw [if_neg c6] at H
      exact absurd H (by simp)
     rw [if_neg c5] at H
     exact absurd H (by simp)
    rw [if_neg c4] at H
    have c4b0 : decide (x13_1 < (l0.length : Int)) = false := decide_eq_false c4
    clear c4
    focus
     obtain rfl := Option.some.inj H
     go_wp2
     repeat (go_quiet (fail); try go_wp2)
     go_ret
     exact ⟨by first | rfl | (simp; done) | (simp [*]; done), by repeat (first | exact Drawn0.refl _ | apply Drawn0.step)⟩
 rw [if_neg c3] at H
 have c3b0 : ((l0.length : Int) == (l1.length : Int)) = false := beq_eq_false_iff_ne.mpr c3
 have c3b1 : ((l0.length : Int) != (l1.length : Int)) = true := bne_iff_ne.mpr c3
 have c3b2 : (l0.length == l1.length) = false := by first | simpa using c3 | (simp at c3 ⊢; omega)
 focus
  obtain rfl := Option.some.inj H
  go_enter Try.func12, Try.ntmps12
  go_wp2
  repeat (go_quiet (fail); try go_wp2)
  go_ret
  exact ⟨by first | rfl | (simp; done) | (simp [*]; done), by repeat (first | exact Drawn0.refl _ | apply Drawn0.step)⟩
/-! ### laws_kAbs: function 13 -/
def laws_kAbs.f (a0 : Int) : Option (Int) := if a0 < 0 then (some (wrap64 (-a0))) else (some a0)
set_option maxHeartbeats 8000000 in
set_option maxRecDepth 100000 in
theorem laws_kAbs.calls (a0 : Int) (r : Int) (w : World) (h : laws_kAbs.f a0 = some r) :
  Calls Try.prog 13 #[.int .i64 a0] w fun e w' => e = .returned (.int .i64 r) ∧ Drawn0 w w' := by
 have H : (if a0 < 0 then (some (wrap64 (-a0))) else (some a0)) = some r := h
 clear h
 by_cases c2 : a0 < 0
 ·rw [if_pos c2] at H
  have c2b0 : decide (a0 < 0) = true := decide_eq_true c2
  clear c2
  focus
   obtain rfl := Option.some.inj H
   go_enter Try.func13, Try.ntmps13
   go_wp2
   go_ret
   exact ⟨by first | rfl | (simp; done) | (simp [*]; done), by repeat (first | exact Drawn0.refl _ | apply Drawn0.step)⟩
 rw [if_neg c2] at H
 have c2b0 : decide (a0 < 0) = false := decide_eq_false c2
 clear c2
 focus
  obtain rfl := Option.some.inj H
  go_enter Try.func13, Try.ntmps13
  go_wp2
  go_ret
  exact ⟨by first | rfl | (simp; done) | (simp [*]; done), by repeat (first | exact Drawn0.refl _ | apply Drawn0.step)⟩
/-! ### laws_kRises: function 14 -/
def laws_kRises.l0 : Nat → List (S23) → Int → Option (Bool)
 | 0, _, _ => none
 | k + 1, x0, x3 => if x3 < (x0.length : Int) then (if 0 ≤ (wrap64 (x3 - 1)) then (if (wrap64 (x3 - 1)) < (x0.length : Int) then (if 0 ≤ x3 then (if (wrap64 (((rd_T23 x0 (wrap64 (x3 - 1))).f0) * ((rd_T23 x0 x3).f1))) ≥ (wrap64 (((rd_T23 x0 x3).f0) * ((rd_T23 x0 (wrap64 (x3 - 1))).f1))) then (some false) else (laws_kRises.l0 k x0 (wrap64 (x3 + 1)))) else (none)) else (none)) else (none)) else (some true)
def laws_kRises.f (k : Nat) (l0 : List (S23)) : Option (Bool) := laws_kRises.l0 k l0 1
theorem laws_kRises.mono_l : ∀ k, (∀ y0 y1, LeO (laws_kRises.l0 k y0 y1) (laws_kRises.l0 (k + 1) y0 y1))
 | 0 => fun _ _ r h => by simp [laws_kRises.l0] at h
 | k + 1 => by
  have ih0 := laws_kRises.mono_l k
  ·intro y0 y1
   unfold laws_kRises.l0
   repeat' first
   | (with_reducible apply ih0)
   | (with_reducible exact LeO.refl _)
   | (with_reducible exact LeO.none _)
   | (with_reducible refine LeO.ite ?_ ?_)
   | (with_reducible refine LeO.bind ?_ (fun _ => ?_))
   | apply ih0
   | exact LeO.none _
   | refine LeO.ite ?_ ?_
   | refine LeO.bind ?_ (fun _ => ?_)
theorem laws_kRises.mono : ∀ a0 k, LeO (laws_kRises.f k a0) (laws_kRises.f (k + 1) a0) := by
 intro a0 k
 have ih0 := laws_kRises.mono_l k
 unfold laws_kRises.f
 repeat' first
   | (with_reducible apply ih0)
   | (with_reducible exact LeO.refl _)
   | (with_reducible exact LeO.none _)
   | (with_reducible refine LeO.ite ?_ ?_)
   | (with_reducible refine LeO.bind ?_ (fun _ => ?_))
   | apply ih0
   | exact LeO.none _
   | refine LeO.ite ?_ ?_
   | refine LeO.bind ?_ (fun _ => ?_)
set_option maxHeartbeats 8000000 in
set_option maxRecDepth 100000 in
theorem laws_kRises.calls (k : Nat) (A0 : Option Addr) (c0 : Nat) (l0 : List (S23)) (r : Bool) (w : World) (hr0 : Kd.C k23 w A0 l0.length l0) (hc0 : l0.length ≤ c0) (h : laws_kRises.f k l0 = some r) :
  Calls Try.prog 14 #[.slice A0 l0.length c0] w fun e w' => e = .returned (.bool r) ∧ Drawn0 w w' := by
 have HR0 := Am hr0
 have HC0 := Am hc0
 clear hr0 hc0
 have H : (laws_kRises.l0 k l0 1) = some r := h
 clear h
 have H' := Am H
 clear H
 go_enter Try.func14, Try.ntmps14
 go_wp2
 repeat (go_quiet (fail); try go_wp2)
 go_loopg [3] k (fun kq v3 w' => ∃ (x3_1 : Int), v3 = .int .i64 x3_1 ∧ Aside0 (laws_kRises.l0 kq l0 x3_1 = some r) ∧ Aside0 (kq ≤ k) ∧ Drawn0 w w')
 case atStart => exact ⟨(1), (by first | rfl | (simp; done) | (simp [*]; done)), H', ⟨Nat.le_refl _⟩, by repeat (first | exact Drawn0.refl _ | apply Drawn0.step)⟩
 case round =>
  clear H'
  obtain ⟨x3_1, rfl, HA, HK1, ⟨m1, rfl⟩⟩ := hrel
  cases gk with
  | zero => exact absurd HA.out (by simp [laws_kRises.l0])
  | succ k1 =>
   have H := HA.out
   clear HA
   simp only [laws_kRises.l0] at H
   by_cases c2 : x3_1 < (l0.length : Int)
   ·rw [if_pos c2] at H
    have c2b0 : decide (x3_1 < (l0.length : Int)) = true := decide_eq_true c2
    clear c2
    obtain ⟨ji3, hji3⟩ : ∃ j_ : Int, (wrap64 (x3_1 - 1)) = j_ := ⟨_, rfl⟩
    replace H : (if 0 ≤ (ji3) then (if (ji3) < (l0.length : Int) then (if 0 ≤ x3_1 then (if (wrap64 (((rd_T23 l0 (ji3)).f0) * ((rd_T23 l0 x3_1).f1))) ≥ (wrap64 (((rd_T23 l0 x3_1).f0) * ((rd_T23 l0 (ji3)).f1))) then (some false) else (laws_kRises.l0 k1 l0 (wrap64 (x3_1 + 1)))) else (none)) else (none)) else (none)) = some r := by first | (rw [hji3] at H; exact H) | (simp only [hji3] at H ⊢; exact H)
    have hji3w : (IntKind.i64.wrap (x3_1 - 1)) = ji3 := (i64_w _).trans hji3
    by_cases c4 : 0 ≤ (ji3)
    ·rw [if_pos c4] at H
     have c4b0 : decide (0 ≤ (ji3)) = true := decide_eq_true c4
     clear c4
     by_cases c5 : (ji3) < (l0.length : Int)
     ·rw [if_pos c5] at H
      have c5b0 : decide ((ji3) < (l0.length : Int)) = true := decide_eq_true c5
      clear c5
      by_cases c6 : 0 ≤ x3_1
      ·rw [if_pos c6] at H
       have c6b0 : decide (0 ≤ x3_1) = true := decide_eq_true c6
       clear c6
       by_cases c7 : (wrap64 (((rd_T23 l0 (ji3)).f0) * ((rd_T23 l0 x3_1).f1))) ≥ (wrap64 (((rd_T23 l0 x3_1).f0) * ((rd_T23 l0 (ji3)).f1)))
       ·rw [if_pos c7] at H
        have c7b0 : decide ((wrap64 (((rd_T23 l0 x3_1).f0) * ((rd_T23 l0 (ji3)).f1))) ≤ (wrap64 (((rd_T23 l0 (ji3)).f0) * ((rd_T23 l0 x3_1).f1)))) = true := decide_eq_true c7
        clear c7
        focus
         obtain rfl := Option.some.inj H
         have p348 : 0 ≤ ((ji3) : Int) := of_decide_eq_true (by first | (with_reducible assumption) | assumption)
         have q348 : (ji3) < (l0.length : Int) := of_decide_eq_true (by first | (with_reducible assumption) | assumption)
         obtain ⟨ad348, e348, hx348_0, hx348_1⟩ := at_T23 HR0.out (ji3) p348 q348
         cases e348
         replace p348 := eq_true p348
         replace q348 := eq_true q348
         have p349 : 0 ≤ (x3_1 : Int) := of_decide_eq_true (by first | (with_reducible assumption) | assumption)
         have q349 : x3_1 < (l0.length : Int) := of_decide_eq_true (by first | (with_reducible assumption) | assumption)
         obtain ⟨ad349, e349, hx349_0, hx349_1⟩ := at_T23 HR0.out x3_1 p349 q349
         obtain rfl : ad348 = ad349 := (by injection e349)
         replace p349 := eq_true p349
         replace q349 := eq_true q349
         have p350 : 0 ≤ (x3_1 : Int) := of_decide_eq_true (by first | (with_reducible assumption) | assumption)
         have q350 : x3_1 < (l0.length : Int) := of_decide_eq_true (by first | (with_reducible assumption) | assumption)
         obtain ⟨ad350, e350, hx350_0, hx350_1⟩ := at_T23 HR0.out x3_1 p350 q350
         obtain rfl : ad348 = ad350 := (by injection e350)
         replace p350 := eq_true p350
         replace q350 := eq_true q350
         have p351 : 0 ≤ ((ji3) : Int) := of_decide_eq_true (by first | (with_reducible assumption) | assumption)
         have q351 : (ji3) < (l0.length : Int) := of_decide_eq_true (by first | (with_reducible assumption) | assumption)
         obtain ⟨ad351, e351, hx351_0, hx351_1⟩ := at_T23 HR0.out (ji3) p351 q351
         obtain rfl : ad348 = ad351 := (by injection e351)
         replace p351 := eq_true p351
         replace q351 := eq_true q351
         go_wp2
         repeat (go_quiet (fail); try go_wp2)
         go_ret
         exact ⟨by first | rfl | (simp; done) | (simp only [← hji3] <;> (first | rfl | simp)) | (simp [*]; done), by repeat (first | exact Drawn0.refl _ | apply Drawn0.step)⟩
       rw [if_neg c7] at H
       have c7b0 : decide ((wrap64 (((rd_T23 l0 x3_1).f0) * ((rd_T23 l0 (ji3)).f1))) ≤ (wrap64 (((rd_T23 l0 (ji3)).f0) * ((rd_T23 l0 x3_1).f1)))) = false := decide_eq_false c7
       clear c7
       focus
        have H' := Am H
        clear H
        have p348 : 0 ≤ ((ji3) : Int) := of_decide_eq_true (by first | (with_reducible assumption) | assumption)
        have q348 : (ji3) < (l0.length : Int) := of_decide_eq_true (by first | (with_reducible assumption) | assumption)
        obtain ⟨ad348, e348, hx348_0, hx348_1⟩ := at_T23 HR0.out (ji3) p348 q348
        cases e348
        replace p348 := eq_true p348
        replace q348 := eq_true q348
        have p349 : 0 ≤ (x3_1 : Int) := of_decide_eq_true (by first | (with_reducible assumption) | assumption)
        have q349 : x3_1 < (l0.length : Int) := of_decide_eq_true (by first | (with_reducible assumption) | assumption)
        obtain ⟨ad349, e349, hx349_0, hx349_1⟩ := at_T23 HR0.out x3_1 p349 q349
        obtain rfl : ad348 = ad349 := (by injection e349)
        replace p349 := eq_true p349
        replace q349 := eq_true q349
        have p350 : 0 ≤ (x3_1 : Int) := of_decide_eq_true (by first | (with_reducible assumption) | assumption)
        have q350 : x3_1 < (l0.length : Int) := of_decide_eq_true (by first | (with_reducible assumption) | assumption)
        obtain ⟨ad350, e350, hx350_0, hx350_1⟩ := at_T23 HR0.out x3_1 p350 q350
        obtain rfl : ad348 = ad350 := (by injection e350)
        replace p350 := eq_true p350
        replace q350 := eq_true q350
        have p351 : 0 ≤ ((ji3) : Int) := of_decide_eq_true (by first | (with_reducible assumption) | assumption)
        have q351 : (ji3) < (l0.length : Int) := of_decide_eq_true (by first | (with_reducible assumption) | assumption)
        obtain ⟨ad351, e351, hx351_0, hx351_1⟩ := at_T23 HR0.out (ji3) p351 q351
        obtain rfl : ad348 = ad351 := (by injection e351)
        replace p351 := eq_true p351
        replace q351 := eq_true q351
        go_wp2
        repeat (go_quiet (fail); try go_wp2)
        go_roundg k1
        case measure => have := HK1.out; omega
        case rel => exact ⟨(wrap64 (x3_1 + 1)), (by first | rfl | (simp; done) | (simp [*]; done)), H', ⟨by have := HK1.out; omega⟩, by repeat (first | exact Drawn0.refl _ | apply Drawn0.step)⟩
      rw [if_neg c6] at H
      exact absurd H (by simp)
     rw [if_neg c5] at H
     exact absurd H (by simp)
    rw [if_neg c4] at H
    exact absurd H (by simp)
   rw [if_neg c2] at H
   have c2b0 : decide (x3_1 < (l0.length : Int)) = false := decide_eq_false c2
   clear c2
   focus
    obtain rfl := Option.some.inj H
    go_wp2
    repeat (go_quiet (fail); try go_wp2)
    go_ret
    exact ⟨by first | rfl | (simp; done) | (simp [*]; done), by repeat (first | exact Drawn0.refl _ | apply Drawn0.step)⟩
/-! ### impl_HandAt: function 15 -/
def impl_HandAt.j0 : Nat → Bool → Int → Int → Int → Int → Int → Option (Int × Int × Bool)
 | 0, _, _, _, _, _, _ => none
 | k + 1, x13, x353000, x353001, x353002, x354000, x354001 => if x13 = true then (some (0, 0, false)) else ((impl_Hand_at.f k x353000 x353001 x353002 x354000 x354001).bind fun bt357 => ((impl_ifTurn.f k bt357.1 bt357.2).bind fun bt359 => (some (bt359.1, bt359.2.1, bt359.2.2))))
def impl_HandAt.f (k : Nat) (a0_0 : Int) (a0_1 : Int) (a0_2 : Int) (a1_0 : Int) (a1_1 : Int) : Option (Int × Int × Bool) := (impl_IsHand.f k a0_0 a0_1 a0_2).bind fun t355 => (if t355 = true then ((impl_IsTurn.f k a1_0 a1_1).bind fun t356 => (impl_HandAt.j0 k (!t356) a0_0 a0_1 a0_2 a1_0 a1_1)) else (impl_HandAt.j0 k true a0_0 a0_1 a0_2 a1_0 a1_1))
theorem impl_HandAt.mono_l : ∀ k, (∀ y0 y1 y2 y3 y4 y5, LeO (impl_HandAt.j0 k y0 y1 y2 y3 y4 y5) (impl_HandAt.j0 (k + 1) y0 y1 y2 y3 y4 y5))
 | 0 => fun _ _ _ _ _ _ r h => by simp [impl_HandAt.j0] at h
 | k + 1 => by
  have ih0 := impl_HandAt.mono_l k
  ·intro y0 y1 y2 y3 y4 y5
   unfold impl_HandAt.j0
   repeat' first
   | (with_reducible apply ih0)
   | (with_reducible exact impl_Hand_at.mono _ _ _ _ _ _)
   | (with_reducible exact impl_IsHand.mono _ _ _ _)
   | (with_reducible exact impl_IsTurn.mono _ _ _)
   | (with_reducible exact impl_ifTurn.mono _ _ _)
   | (with_reducible exact LeO.refl _)
   | (with_reducible exact LeO.none _)
   | (with_reducible refine LeO.ite ?_ ?_)
   | (with_reducible refine LeO.bind ?_ (fun _ => ?_))
   | apply ih0
   | exact impl_Hand_at.mono _ _ _ _ _ _
   | exact impl_IsHand.mono _ _ _ _
   | exact impl_IsTurn.mono _ _ _
   | exact impl_ifTurn.mono _ _ _
   | exact LeO.none _
   | refine LeO.ite ?_ ?_
   | refine LeO.bind ?_ (fun _ => ?_)
theorem impl_HandAt.mono : ∀ a0 a1 a2 a3 a4 k, LeO (impl_HandAt.f k a0 a1 a2 a3 a4) (impl_HandAt.f (k + 1) a0 a1 a2 a3 a4) := by
 intro a0 a1 a2 a3 a4 k
 have ih0 := impl_HandAt.mono_l k
 unfold impl_HandAt.f
 repeat' first
   | (with_reducible apply ih0)
   | (with_reducible exact impl_Hand_at.mono _ _ _ _ _ _)
   | (with_reducible exact impl_IsHand.mono _ _ _ _)
   | (with_reducible exact impl_IsTurn.mono _ _ _)
   | (with_reducible exact impl_ifTurn.mono _ _ _)
   | (with_reducible exact LeO.refl _)
   | (with_reducible exact LeO.none _)
   | (with_reducible refine LeO.ite ?_ ?_)
   | (with_reducible refine LeO.bind ?_ (fun _ => ?_))
   | apply ih0
   | exact impl_Hand_at.mono _ _ _ _ _ _
   | exact impl_IsHand.mono _ _ _ _
   | exact impl_IsTurn.mono _ _ _
   | exact impl_ifTurn.mono _ _ _
   | exact LeO.none _
   | refine LeO.ite ?_ ?_
   | refine LeO.bind ?_ (fun _ => ?_)
set_option maxHeartbeats 8000000 in
set_option maxRecDepth 100000 in
theorem impl_HandAt.calls (k : Nat) (a0_0 : Int) (a0_1 : Int) (a0_2 : Int) (a1_0 : Int) (a1_1 : Int) (r1 : Int) (r2 : Int) (r3 : Bool) (w : World) (h : impl_HandAt.f k a0_0 a0_1 a0_2 a1_0 a1_1 = some (r1, r2, r3)) :
  Calls Try.prog 15 #[.agg #[.int .i64 a0_0, .int .i64 a0_1, .int .i64 a0_2], .agg #[.int .i64 a1_0, .int .i64 a1_1]] w fun e w' => e = .returned (.tuple #[.agg #[.int .i64 r1, .int .i64 r2], .bool r3]) ∧ Below w.heap.size w w' := by
 have hu25 := Try.underlying25; have hu23 := Try.underlying23
 have HB := Am (Below.refl w.heap.size w)
 have H : ((impl_IsHand.f k a0_0 a0_1 a0_2).bind fun t355 => (if t355 = true then ((impl_IsTurn.f k a1_0 a1_1).bind fun t356 => (impl_HandAt.j0 k (!t356) a0_0 a0_1 a0_2 a1_0 a1_1)) else (impl_HandAt.j0 k true a0_0 a0_1 a0_2 a1_0 a1_1))) = some (r1, r2, r3) := h
 clear h
 have HC3 := Am H
 clear H
 go_enter Try.func15, Try.ntmps15
 go_upto_region 1 with (first | ((with_reducible refine gate_dst (N := 2) rfl ?_); refine bE 2 #[.int .i64 a0_0, .int .i64 a0_1, .int .i64 a0_2] 25 ?_; intro gb352 hg w4 hbox hb; have hv := vK HB hb; have n0_ := Am (bT hv hb); have n1_ := Am (hbox); have GE352 := kG hg hv; clear HB; have HB := n0_; have BK352 := n1_; clear n0_ n1_ hv; clear hb hbox hg) | ((with_reducible refine gate_dst (N := 3) rfl ?_); refine bE 3 #[.int .i64 a1_0, .int .i64 a1_1] 23 ?_; intro gb353 hg w5 hbox hb; have hp0 := pA BK352 hb; have hv := vK HB hb; have n1_ := Am (bT hv hb); have n2_ := Am (hbox); have GE353 := kG hg hv; have hp1 := pK BK352 hb; obtain ⟨NB352_353, NB353_352⟩ := kXY hg hp1 BK352; clear HB; replace BK352 := hp0 BK352; have HB := n1_; have BK353 := n2_; clear n1_ n2_ hp0 hp1 hv; clear hb hbox hg) | ((with_reducible refine gate_dst (N := 4) rfl ?_); refine bE 4 #[.int .i64 0, .int .i64 0] 23 ?_; intro gb354 hg w6 hbox hb; have hp0 := pA BK352 hb; have hv := vK HB hb; have n2_ := Am (bT hv hb); have n3_ := Am (hbox); have GE354 := kG hg hv; have hp1 := pK BK352 hb; obtain ⟨NB352_354, NB354_352⟩ := kXY hg hp1 BK352; obtain ⟨NB353_354, NB354_353⟩ := kXY hg hp1 BK353; clear HB; replace BK352 := hp0 BK352; replace BK353 := hp0 BK353; have HB := n2_; have BK354 := n3_; clear n2_ n3_ hp0 hp1 hv; clear hb hbox hg))
 (try simp only [Act.put, List.setIfInBounds_toArray, List.set_cons_zero, List.set_cons_succ])
 go_cut [13] (fun v13 wc => ∃ (kq : Nat) (x13_2 : Bool), v13 = .bool x13_2 ∧ Aside0 (impl_HandAt.j0 kq x13_2 a0_0 a0_1 a0_2 a1_0 a1_1 = some (r1, r2, r3)) ∧ Aside0 (kq ≤ k) ∧ Aside0 (wc.heap[gb352]? = some (.cells #[.int .i64 a0_0, .int .i64 a0_1, .int .i64 a0_2] 25 (0, 0))) ∧ Aside0 (wc.heap[gb353]? = some (.cells #[.int .i64 a1_0, .int .i64 a1_1] 23 (0, 0))) ∧ Aside0 (wc.heap[gb354]? = some (.cells #[.int .i64 0, .int .i64 0] 23 (0, 0))) ∧ Aside0 (Below w.heap.size w wc))
 case first =>
  have H := HC3.out
  clear HC3
  replace H := Option.bind_eq_some_iff.mp H
  obtain ⟨t355, A70, H⟩ := H
  try dsimp only at H
  have A7 := Am A70
  clear A70
  by_cases c8 : t355 = true
  ·subst c8
   have H1 : ((impl_IsTurn.f k a1_0 a1_1).bind fun t356 => (impl_HandAt.j0 k (!t356) a0_0 a0_1 a0_2 a1_0 a1_1)) = some (r1, r2, r3) := by rw [if_pos rfl] at H; exact H
   clear H
   have H := H1
   clear H1
   replace H := Option.bind_eq_some_iff.mp H
   obtain ⟨t356, A90, H⟩ := H
   try dsimp only at H
   have A9 := Am A90
   clear A90
   focus
    have H' := Am H
    clear H
    have u10 := kO NB352_353; have u11 := kO NB352_354
    have z12 := c3 BK352
    go_wp2_with (first | ((with_reducible refine gate_callee (f := 37) rfl ?_); refine gL (some 7) Try.func37 #[.agg #[.int .i64 a0_0, .int .i64 a0_1, .int .i64 a0_2]] rfl ?_; (with_reducible refine (impl_IsHand.calls k a0_0 a0_1 a0_2 true _ A7.out).mono ?_); rintro e w13 ⟨rfl, hb⟩; refine ⟨_, rfl, ?_⟩; have hp0 := pA BK352 hb; have hv := vK HB hb; have n3_ := Am (bT hv hb); clear HB; replace BK352 := hp0 BK352; replace BK353 := hp0 BK353; replace BK354 := hp0 BK354; have HB := n3_; clear n3_ hp0 hv; (try clear hb); have u14 := kO NB353_354; have z15 := c2 BK353) | (go_at_call 30; (with_reducible refine (impl_IsTurn.calls k a1_0 a1_1 t356 _ A9.out).mono ?_); rintro e w16 ⟨rfl, hb⟩; have hp0 := pA BK352 hb; have hv := vK HB hb; have n3_ := Am (bT hv hb); clear HB; replace BK352 := hp0 BK352; replace BK353 := hp0 BK353; replace BK354 := hp0 BK354; have HB := n3_; clear n3_ hp0 hv; (try clear hb)))
    go_meet
    case rel =>
     refine ⟨_, (!t356), (by first | rfl | (simp; done) | (simp [*]; done)), H', ⟨by first | omega | exact Nat.le_refl _⟩, ⟨?_⟩, ⟨?_⟩, ⟨?_⟩, ⟨by repeat (first | (with_reducible first | exact HB.out | apply bA | apply bN | apply bD | refine bX ?_ (by assumption)) | exact HB.out)⟩⟩
     all_goals ((with_reducible repeat (first | refine kN ?_ _ | refine kD ?_ | refine kA ?_ _)); exact Aside0.out (by assumption))
  replace c8 := Bool.eq_false_iff.mpr c8
  subst c8
  have H1 : (impl_HandAt.j0 k true a0_0 a0_1 a0_2 a1_0 a1_1) = some (r1, r2, r3) := by rw [if_neg (show ¬ (false = true) by decide)] at H; exact H
  clear H
  have H := H1
  clear H1
  focus
   have H' := Am H
   clear H
   have u17 := kO NB352_353; have u18 := kO NB352_354
   have z19 := c3 BK352
   go_wp2_with (first | ((with_reducible refine gate_callee (f := 37) rfl ?_); refine gL (some 7) Try.func37 #[.agg #[.int .i64 a0_0, .int .i64 a0_1, .int .i64 a0_2]] rfl ?_; (with_reducible refine (impl_IsHand.calls k a0_0 a0_1 a0_2 false _ A7.out).mono ?_); rintro e w20 ⟨rfl, hb⟩; refine ⟨_, rfl, ?_⟩; have hp0 := pA BK352 hb; have hv := vK HB hb; have n3_ := Am (bT hv hb); clear HB; replace BK352 := hp0 BK352; replace BK353 := hp0 BK353; replace BK354 := hp0 BK354; have HB := n3_; clear n3_ hp0 hv; (try clear hb)))
   go_meet
   case rel =>
    refine ⟨_, (true), (by first | rfl | (simp; done) | (simp [*]; done)), H', ⟨by first | omega | exact Nat.le_refl _⟩, ⟨?_⟩, ⟨?_⟩, ⟨?_⟩, ⟨by repeat (first | (with_reducible first | exact HB.out | apply bA | apply bN | apply bD | refine bX ?_ (by assumption)) | exact HB.out)⟩⟩
    all_goals ((with_reducible repeat (first | refine kN ?_ _ | refine kD ?_ | refine kA ?_ _)); exact Aside0.out (by assumption))
 clear HC3
 obtain ⟨kq, x13_2, rfl, HA, HJ2, BK352, BK353, BK354, HB⟩ := hcut
 cases kq with
 | zero => exact absurd HA.out (by simp [impl_HandAt.j0])
 | succ kj2 =>
  have H := HA.out
  clear HA
  simp only [impl_HandAt.j0] at H
  by_cases c21 : x13_2 = true
  ·subst c21
   have H1 : (some (0, 0, false)) = some (r1, r2, r3) := by rw [if_pos rfl] at H; exact H
   clear H
   have H := H1
   clear H1
   focus
    simp only [Option.some.injEq, Prod.mk.injEq] at H
    obtain ⟨rfl, rfl, rfl⟩ := H
    have u22 := kO NB354_352; have u23 := kO NB354_353
    have z24 := c2 BK354
    go_wp2
    refine bodyPost_ret (results_ct rfl _ _ gb354 23 #[.int .i64 0, .int .i64 0] (0, 0) _ rfl (by (with_reducible repeat (first | refine kN ?_ _ | refine kD ?_ | refine kA ?_ _)); refine kP (cs := #[.int .i64 0, .int .i64 0]) ?_ 1 _ rfl; (with_reducible repeat (first | refine kN ?_ _ | refine kD ?_ | refine kA ?_ _)); refine kP (cs := #[.int .i64 0, .int .i64 0]) ?_ 0 _ rfl; (with_reducible repeat (first | refine kN ?_ _ | refine kD ?_ | refine kA ?_ _)); exact BK354.out) Try.underlying23 rfl (by kernel_rfl)) rfl ?_
    exact ⟨by first | rfl | (simp [errW_none, errW_some] <;> rfl) | (simp [*, errW_none, errW_some] <;> rfl), by repeat (first | (with_reducible first | exact HB.out | apply bA | apply bN | apply bD | refine bX ?_ (by assumption)) | exact HB.out)⟩
  replace c21 := Bool.eq_false_iff.mpr c21
  subst c21
  have H1 : ((impl_Hand_at.f kj2 a0_0 a0_1 a0_2 a1_0 a1_1).bind fun bt357 => ((impl_ifTurn.f kj2 bt357.1 bt357.2).bind fun bt359 => (some (bt359.1, bt359.2.1, bt359.2.2)))) = some (r1, r2, r3) := by rw [if_neg (show ¬ (false = true) by decide)] at H; exact H
  clear H
  have H := H1
  clear H1
  replace H := Option.bind_eq_some_iff.mp H
  obtain ⟨⟨t357, t358⟩, A250, H⟩ := H
  try dsimp only at H
  have A25 := Am A250
  clear A250
  replace H := Option.bind_eq_some_iff.mp H
  obtain ⟨⟨t359, t360, t361⟩, A260, H⟩ := H
  try dsimp only at H
  have A26 := Am A260
  clear A260
  focus
   simp only [Option.some.injEq, Prod.mk.injEq] at H
   obtain ⟨rfl, rfl, rfl⟩ := H
   have u27 := kO NB352_353; have u28 := kO NB352_354
   have z29 := c3 BK352
   have u30 := kO NB353_354
   have z31 := c2 BK353
   go_wp2_with (first | ((with_reducible refine gate_callee (f := 33) rfl ?_); refine gL (some 17) Try.func33 #[.agg #[.int .i64 a0_0, .int .i64 a0_1, .int .i64 a0_2], .agg #[.int .i64 a1_0, .int .i64 a1_1]] rfl ?_; (with_reducible refine (impl_Hand_at.calls kj2 a0_0 a0_1 a0_2 a1_0 a1_1 t357 t358 _ A25.out).mono ?_); rintro e w32 ⟨rfl, hb⟩; refine ⟨_, rfl, ?_⟩; have hp0 := pA BK352 hb; have hv := vK HB hb; have n3_ := Am (bT hv hb); clear HB; replace BK352 := hp0 BK352; replace BK353 := hp0 BK353; replace BK354 := hp0 BK354; have HB := n3_; clear n3_ hp0 hv; (try clear hb)) | ((with_reducible refine gate_callee (f := 31) rfl ?_); refine gL (some 18) Try.func31 #[.agg #[.int .i64 t357, .int .i64 t358]] rfl ?_; (with_reducible refine (impl_ifTurn.calls kj2 t357 t358 t359 t360 t361 _ A26.out).mono ?_); rintro e w33 ⟨rfl, hb⟩; refine ⟨_, rfl, ?_⟩; have hp0 := pA BK352 hb; have hv := vK HB hb; have n3_ := Am (bT hv hb); clear HB; replace BK352 := hp0 BK352; replace BK353 := hp0 BK353; replace BK354 := hp0 BK354; have HB := n3_; clear n3_ hp0 hv; (try clear hb); have z34 := c2 BK354))
   refine bodyPost_ret (results_ct rfl _ _ gb354 23 #[.int .i64 t359, .int .i64 t360] (0, 0) _ rfl (by (with_reducible repeat (first | refine kN ?_ _ | refine kD ?_ | refine kA ?_ _)); refine kP (cs := #[.int .i64 t359, .int .i64 0]) ?_ 1 _ rfl; (with_reducible repeat (first | refine kN ?_ _ | refine kD ?_ | refine kA ?_ _)); refine kP (cs := #[.int .i64 0, .int .i64 0]) ?_ 0 _ rfl; (with_reducible repeat (first | refine kN ?_ _ | refine kD ?_ | refine kA ?_ _)); exact BK354.out) Try.underlying23 rfl (by kernel_rfl)) rfl ?_
   exact ⟨by first | rfl | (simp [errW_none, errW_some] <;> rfl) | (simp [*, errW_none, errW_some] <;> rfl), by repeat (first | (with_reducible first | exact HB.out | apply bA | apply bN | apply bD | refine bX ?_ (by assumption)) | exact HB.out)⟩
/-! ### impl_MeetTimes: function 18 -/
def impl_MeetTimes.f (k : Nat) (a0_0 : Int) (a0_1 : Int) (a0_2 : Int) (a1_0 : Int) (a1_1 : Int) (a1_2 : Int) : Option ((List (S23)) × Bool) := (impl_aheadTimes.f k a0_0 a0_1 a0_2 a1_0 a1_1 a1_2 0 1).bind fun bt364 => (some (bt364.1, bt364.2))
theorem impl_MeetTimes.mono : ∀ a0 a1 a2 a3 a4 a5 k, LeO (impl_MeetTimes.f k a0 a1 a2 a3 a4 a5) (impl_MeetTimes.f (k + 1) a0 a1 a2 a3 a4 a5) := by
 intro a0 a1 a2 a3 a4 a5 k
 unfold impl_MeetTimes.f
 repeat' first
   | (with_reducible exact impl_aheadTimes.mono _ _ _ _ _ _ _ _ _)
   | (with_reducible exact LeO.refl _)
   | (with_reducible exact LeO.none _)
   | (with_reducible refine LeO.ite ?_ ?_)
   | (with_reducible refine LeO.bind ?_ (fun _ => ?_))
   | exact impl_aheadTimes.mono _ _ _ _ _ _ _ _ _
   | exact LeO.none _
   | refine LeO.ite ?_ ?_
   | refine LeO.bind ?_ (fun _ => ?_)
set_option maxHeartbeats 8000000 in
set_option maxRecDepth 100000 in
theorem impl_MeetTimes.calls (k : Nat) (a0_0 : Int) (a0_1 : Int) (a0_2 : Int) (a1_0 : Int) (a1_1 : Int) (a1_2 : Int) (r1 : List (S23)) (r2 : Bool) (w : World) (h : impl_MeetTimes.f k a0_0 a0_1 a0_2 a1_0 a1_1 a1_2 = some (r1, r2)) :
  Calls Try.prog 18 #[.agg #[.int .i64 a0_0, .int .i64 a0_1, .int .i64 a0_2], .agg #[.int .i64 a1_0, .int .i64 a1_1, .int .i64 a1_2]] w fun e w' => ∃ v0_ : Value, e = .returned (.tuple #[v0_, .bool r2]) ∧ Kd.R k23 23 w' w.heap.size (fun _ => True) v0_ r1 ∧ Below w.heap.size w w' := by
 have hu25 := Try.underlying25; have hu23 := Try.underlying23
 have HB := Am (Below.refl w.heap.size w)
 have H : ((impl_aheadTimes.f k a0_0 a0_1 a0_2 a1_0 a1_1 a1_2 0 1).bind fun bt364 => (some (bt364.1, bt364.2))) = some (r1, r2) := h
 clear h
 replace H := Option.bind_eq_some_iff.mp H
 obtain ⟨⟨t364, t367⟩, A30, H⟩ := H
 try dsimp only at H
 have A3 := Am A30
 clear A30
 focus
  simp only [Option.some.injEq, Prod.mk.injEq] at H
  obtain ⟨rfl, rfl⟩ := H
  go_enter Try.func18, Try.ntmps18
  go_wp2_with (first | ((with_reducible refine gate_dst (N := 2) rfl ?_); refine bE 2 #[.int .i64 a0_0, .int .i64 a0_1, .int .i64 a0_2] 25 ?_; intro gb362 hg w4 hbox hb; have hv := vK HB hb; have n0_ := Am (bT hv hb); have n1_ := Am (hbox); have GE362 := kG hg hv; clear HB; have HB := n0_; have BK362 := n1_; clear n0_ n1_ hv; clear hb hbox hg) | ((with_reducible refine gate_dst (N := 3) rfl ?_); refine bE 3 #[.int .i64 a1_0, .int .i64 a1_1, .int .i64 a1_2] 25 ?_; intro gb363 hg w5 hbox hb; have hp0 := pA BK362 hb; have hv := vK HB hb; have n1_ := Am (bT hv hb); have n2_ := Am (hbox); have GE363 := kG hg hv; have hp1 := pK BK362 hb; obtain ⟨NB362_363, NB363_362⟩ := kXY hg hp1 BK362; clear HB; replace BK362 := hp0 BK362; have HB := n1_; have BK363 := n2_; clear n1_ n2_ hp0 hp1 hv; clear hb hbox hg; have u6 := kO NB362_363; have z7 := c3 BK362; have z8 := c3 BK363) | ((with_reducible refine gate_callee (f := 24) rfl ?_); refine gL (some 9) Try.func24 #[.agg #[.int .i64 a0_0, .int .i64 a0_1, .int .i64 a0_2], .agg #[.int .i64 a1_0, .int .i64 a1_1, .int .i64 a1_2], .agg #[.int .i64 0, .int .i64 1]] rfl ?_; (with_reducible refine (impl_aheadTimes.calls k a0_0 a0_1 a0_2 a1_0 a1_1 a1_2 0 1 t364 t367 _ A3.out).mono ?_); rintro e w9 ⟨v365, rfl, ho0, hb⟩; refine ⟨_, rfl, ?_⟩; have n0_ := Am (Kd.R_lower ho0 (bZ (by repeat (first | (with_reducible first | exact HB.out | apply bA | apply bN | apply bD | refine bX ?_ (by assumption)) | exact HB.out)))); have hp0 := pA BK362 hb; have hv := vK HB hb; have n3_ := Am (bT hv hb); clear HB; have HO366 := n0_; replace BK362 := hp0 BK362; replace BK363 := hp0 BK363; have HB := n3_; clear n0_ n3_ hp0 hv; (try clear hb); (try clear ho0)))
  go_ret2
  exact ⟨_, by first | rfl | (simp [errW_none, errW_some] <;> rfl) | (simp [*, errW_none, errW_some] <;> rfl), by (with_reducible repeat (first | apply Kd.R_alloc | apply Kd.R_drewN | apply Kd.R_drew)); exact HO366.out, by repeat (first | (with_reducible first | exact HB.out | apply bA | apply bN | apply bD | refine bX ?_ (by assumption)) | exact HB.out)⟩
-- NOT PRINTED: function 39 (impl_Turn_39)

end Go.Proofs.Ytcoembcafgelkaa.PFnHandsAheadOfAll
