-- WRITTEN BY A PROGRAM OF THIS SESSION (wip/tools): its own text, not the kit's printed one.
import Derived.Lib.SliceRun
import Derived.Test.YtbgklddlcmgakaaPFnHandsMeetOfAllx0
import Derived.Test.YtbgklddlcmgakaaPFnHandsMeetOfAllx1
import Derived.Test.YtbgklddlcmgakaaPFnHandsMeetOfAllx2
import Derived.Test.YtbgklddlcmgakaaPFnHandsMeetOfAllx5
import Derived.Test.YtbgklddlcmgakaaPFnHandsMeetOfAllx6
namespace Go.Proofs.Ytbgklddlcmgakaa.PFnHandsMeetOfAll
open Go.RowKit Go.Proofs.YtbgklddlcmgakaaW.PrintWords Go.Proofs.YtbgklddlcmgakaaW.PrintLast Go.Proofs.YtbgklddlcmgakaaW.PrintMore
attribute [local go_sem] max2_int min2_int max_two min_two max_three min_three max_four min_four   -- for this text's walks alone
set_option linter.unusedVariables false
set_option linter.unusedSimpArgs false

attribute [local go_sem high] eqA23
/-! ### impl_CountMeets: function 6 -/
def impl_CountMeets.f (k : Nat) (a0_0 : Int) (a0_1 : Int) (a0_2 : Int) (a1_0 : Int) (a1_1 : Int) (a1_2 : Int) : Option (Int × Bool) := (impl_areHands.f k (([(⟨(⟨a0_0, a0_1⟩ : S23), a0_2⟩ : S25), (⟨(⟨a1_0, a1_1⟩ : S23), a1_2⟩ : S25)] : List (S25)))).bind fun t260 => (if t260 = true then (if a0_2 = a1_2 then (some (0, false)) else (some (mx (wrap64 (a0_2 - a1_2)) (wrap64 (a1_2 - a0_2)), true))) else (some (0, false)))
theorem impl_CountMeets.mono : ∀ a0 a1 a2 a3 a4 a5 k, LeO (impl_CountMeets.f k a0 a1 a2 a3 a4 a5) (impl_CountMeets.f (k + 1) a0 a1 a2 a3 a4 a5) := by
 intro a0 a1 a2 a3 a4 a5 k
 unfold impl_CountMeets.f
 repeat' first
   | (with_reducible exact impl_areHands.mono _ _)
   | (with_reducible exact LeO.refl _)
   | (with_reducible exact LeO.none _)
   | (with_reducible refine LeO.ite ?_ ?_)
   | (with_reducible refine LeO.bind ?_ (fun _ => ?_))
   | exact impl_areHands.mono _ _
   | exact LeO.none _
   | refine LeO.ite ?_ ?_
   | refine LeO.bind ?_ (fun _ => ?_)
set_option maxHeartbeats 8000000 in
set_option maxRecDepth 100000 in
theorem impl_CountMeets.calls (k : Nat) (a0_0 : Int) (a0_1 : Int) (a0_2 : Int) (a1_0 : Int) (a1_1 : Int) (a1_2 : Int) (r1 : Int) (r2 : Bool) (w : World) (h : impl_CountMeets.f k a0_0 a0_1 a0_2 a1_0 a1_1 a1_2 = some (r1, r2)) :
  Calls Try.prog 6 #[.agg #[.int .i64 a0_0, .int .i64 a0_1, .int .i64 a0_2], .agg #[.int .i64 a1_0, .int .i64 a1_1, .int .i64 a1_2]] w fun e w' => e = .returned (.tuple #[.int .i64 r1, .bool r2]) ∧ Below w.heap.size w w' := by
 have hu25 := Try.underlying25
 have HB := Am (Below.refl w.heap.size w)
 have H : ((impl_areHands.f k (([(⟨(⟨a0_0, a0_1⟩ : S23), a0_2⟩ : S25), (⟨(⟨a1_0, a1_1⟩ : S23), a1_2⟩ : S25)] : List (S25)))).bind fun t260 => (if t260 = true then (if a0_2 = a1_2 then (some (0, false)) else (some (mx (wrap64 (a0_2 - a1_2)) (wrap64 (a1_2 - a0_2)), true))) else (some (0, false)))) = some (r1, r2) := h
 clear h
 obtain ⟨y257, hy257⟩ : ∃ y_ : List (S25), y_ = (([(⟨(⟨a0_0, a0_1⟩ : S23), a0_2⟩ : S25), (⟨(⟨a1_0, a1_1⟩ : S23), a1_2⟩ : S25)] : List (S25))) := ⟨_, rfl⟩
 replace H : ((impl_areHands.f k y257).bind fun t260 => (if t260 = true then (if a0_2 = a1_2 then (some (0, false)) else (some (mx (wrap64 (a0_2 - a1_2)) (wrap64 (a1_2 - a0_2)), true))) else (some (0, false)))) = some (r1, r2) := by first | (rw [hy257]; with_reducible exact H) | (have H2_ := (Option.bind_some _ _).symm.trans H; rw [hy257]; with_reducible exact H2_) | (have H2_ := (Option.bind_some _ _).symm.trans H; with_reducible exact H2_) | with_reducible exact H | (rw [hy257]; exact H) | exact H
 have Ny257 := Am hy257
 clear hy257
 replace H := Option.bind_eq_some_iff.mp H
 obtain ⟨t260, A30, H⟩ := H
 try dsimp only at H
 have A3 := Am A30
 clear A30
 by_cases c4 : t260 = true
 ·subst c4
  have H1 : (if a0_2 = a1_2 then (some (0, false)) else (some (mx (wrap64 (a0_2 - a1_2)) (wrap64 (a1_2 - a0_2)), true))) = some (r1, r2) := by rw [if_pos rfl] at H; exact H
  clear H
  have H := H1
  clear H1
  by_cases c5 : a0_2 = a1_2
  ·rw [if_pos c5] at H
   have c5b0 : (a0_2 == a1_2) = true := beq_iff_eq.mpr c5
   have c5b1 : (a0_2 != a1_2) = false := bne_eq_false_iff_eq.mpr c5
   clear c5
   focus
    simp only [Option.some.injEq, Prod.mk.injEq] at H
    obtain ⟨rfl, rfl⟩ := H
    go_enter Try.func6, Try.ntmps6
    go_wp2_with (first | ((with_reducible refine gate_dst (N := 2) rfl ?_); refine bE 2 #[.int .i64 a0_0, .int .i64 a0_1, .int .i64 a0_2] 25 ?_; intro gb255 hg w6 hbox hb; have hv := vK HB hb; have n0_ := Am (bT hv hb); have n1_ := Am (hbox); have GE255 := kG hg hv; clear HB; have HB := n0_; have BK255 := n1_; clear n0_ n1_ hv; clear hb hbox hg) | ((with_reducible refine gate_dst (N := 3) rfl ?_); refine bE 3 #[.int .i64 a1_0, .int .i64 a1_1, .int .i64 a1_2] 25 ?_; intro gb256 hg w7 hbox hb; have hp0 := pA BK255 hb; have hv := vK HB hb; have n1_ := Am (bT hv hb); have n2_ := Am (hbox); have GE256 := kG hg hv; have hp1 := pK BK255 hb; obtain ⟨NB255_256, NB256_255⟩ := kXY hg hp1 BK255; clear HB; replace BK255 := hp0 BK255; have HB := n1_; have BK256 := n2_; clear n1_ n2_ hp0 hp1 hv; clear hb hbox hg; have nq8 := kO NB255_256; have zq9 := c3 BK255; have zq10 := c3 BK256) | ((with_reducible refine gate_dst (N := 8) rfl ?_); refine Kd.R_lit k25 _ 25 ?hg (N := 8) ?hd (xs := ([(⟨(⟨a0_0, a0_1⟩ : S23), a0_2⟩ : S25), (⟨(⟨a1_0, a1_1⟩ : S23), a1_2⟩ : S25)] : List (S25))) (inner := [.int .i64 a0_0, .int .i64 a0_1, .int .i64 a0_2, .int .i64 a1_0, .int .i64 a1_1, .int .i64 a1_2]) (ok := fun _ => True) (okp := fun _ => True) ?hr ?hp (fun _ hk => hk) trivial (Below.refl _ _) (Nat.le_refl _) (by simp) ?_; (case hd => rfl); (case hg => rfl); (case hr => first | (go_simp; done) | (go_simp; rfl)); (case hp => exact (Reps.c3 (show Kd.M k25 _ _ _ (⟨(⟨a0_0, a0_1⟩ : S23), a0_2⟩ : S25) [.int .i64 a0_0, .int .i64 a0_1, .int .i64 a0_2] from (k25_mkM _ _ _ (⟨(⟨a0_0, a0_1⟩ : S23), a0_2⟩ : S25) )) (Reps.c3 (show Kd.M k25 _ _ _ (⟨(⟨a1_0, a1_1⟩ : S23), a1_2⟩ : S25) [.int .i64 a1_0, .int .i64 a1_1, .int .i64 a1_2] from (k25_mkM _ _ _ (⟨(⟨a1_0, a1_1⟩ : S23), a1_2⟩ : S25) )) (Reps.none _ _)))); intro v258 w11 ho12 hb hg_ hnew_; clear hg_ hnew_; (first | rw [← Ny257.out] at ho12 | (simp only [Int.reduceToNat] at ho12; rw [← Ny257.out] at ho12)); have n0_ := Am (Kd.R_lower (Kd.R_newB (Kd.R_newB ho12 (g := gb255) (o := .cells #[.int .i64 a0_0, .int .i64 a0_1, .int .i64 a0_2] 25 (0, 0)) (kU BK255)) (g := gb256) (o := .cells #[.int .i64 a1_0, .int .i64 a1_1, .int .i64 a1_2] 25 (0, 0)) (kU BK256)) (bZ (by repeat (first | (with_reducible first | exact HB.out | apply bA | apply bN | apply bD | refine bX ?_ (by assumption)) | exact HB.out)))); have hp0 := pA BK255 hb; have hv := vK HB hb; have n3_ := Am (bT hv hb); clear HB; have HO259 := n0_; replace BK255 := hp0 BK255; replace BK256 := hp0 BK256; have HB := n3_; clear n0_ n3_ hp0 hv; clear hb ho12; obtain ⟨Ao13, co13, eo13⟩ := Kd.R_slice HO259.out; subst eo13) | ((with_reducible refine gate_callee (f := 25) rfl ?_); refine gL (some 9) Try.func25 #[.slice Ao13 y257.length co13] rfl ?_; (with_reducible refine (impl_areHands.calls k _ _ y257 true _ ?side1 ?side2 A3.out).mono ?_); (case side1 => repeat (first | exact (Kd.R_reads' HO259.out).2.2 | (with_reducible refine Kd.C_alloc ?_ _) | (with_reducible refine Kd.C_drewN ?_ _) | (with_reducible refine Kd.C_drew ?_))); (case side2 => exact (Kd.R_reads' HO259.out).2.1); rintro e w14 ⟨rfl, hb⟩; refine ⟨_, rfl, ?_⟩; have n0_ := Am (Kd.R_below (kW HO259) hb); have hp0 := pA BK255 hb; have hv := vK HB hb; have n3_ := Am (bT hv hb); clear HO259; clear HB; have HO259 := n0_; replace BK255 := hp0 BK255; replace BK256 := hp0 BK256; have HB := n3_; clear n0_ n3_ hp0 hv; (try clear hb); have zq15 := c3 BK255; have zq16 := c3 BK256))
    go_ret2
    exact ⟨by first | rfl | (simp [errW_none, errW_some] <;> rfl) | (simp [*, errW_none, errW_some] <;> rfl), by repeat (first | (with_reducible first | exact HB.out | apply bA | apply bN | apply bD | refine bX ?_ (by assumption)) | exact HB.out)⟩
  rw [if_neg c5] at H
  have c5b0 : (a0_2 == a1_2) = false := beq_eq_false_iff_ne.mpr c5
  have c5b1 : (a0_2 != a1_2) = true := bne_iff_ne.mpr c5
  obtain ⟨ji17, hji17⟩ : ∃ j_ : Int, (mx (wrap64 (a0_2 - a1_2)) (wrap64 (a1_2 - a0_2))) = j_ := ⟨_, rfl⟩
  replace H : (some (ji17, true)) = some (r1, r2) := by first | (rw [hji17] at H; exact H) | (simp only [hji17] at H ⊢; exact H)
  (try rw [hji17] at A3)
  have hji17_ : (if (wrap64 (a0_2 - a1_2)) < (wrap64 (a1_2 - a0_2)) then (wrap64 (a1_2 - a0_2)) else (wrap64 (a0_2 - a1_2))) = ji17 := hji17
  focus
   simp only [Option.some.injEq, Prod.mk.injEq] at H
   obtain ⟨rfl, rfl⟩ := H
   go_enter Try.func6, Try.ntmps6
   go_wp2_with (first | ((with_reducible refine gate_dst (N := 2) rfl ?_); refine bE 2 #[.int .i64 a0_0, .int .i64 a0_1, .int .i64 a0_2] 25 ?_; intro gb255 hg w18 hbox hb; have hv := vK HB hb; have n0_ := Am (bT hv hb); have n1_ := Am (hbox); have GE255 := kG hg hv; clear HB; have HB := n0_; have BK255 := n1_; clear n0_ n1_ hv; clear hb hbox hg) | ((with_reducible refine gate_dst (N := 3) rfl ?_); refine bE 3 #[.int .i64 a1_0, .int .i64 a1_1, .int .i64 a1_2] 25 ?_; intro gb256 hg w19 hbox hb; have hp0 := pA BK255 hb; have hv := vK HB hb; have n1_ := Am (bT hv hb); have n2_ := Am (hbox); have GE256 := kG hg hv; have hp1 := pK BK255 hb; obtain ⟨NB255_256, NB256_255⟩ := kXY hg hp1 BK255; clear HB; replace BK255 := hp0 BK255; have HB := n1_; have BK256 := n2_; clear n1_ n2_ hp0 hp1 hv; clear hb hbox hg; have nq20 := kO NB255_256; have zq21 := c3 BK255; have zq22 := c3 BK256) | ((with_reducible refine gate_dst (N := 8) rfl ?_); refine Kd.R_lit k25 _ 25 ?hg (N := 8) ?hd (xs := ([(⟨(⟨a0_0, a0_1⟩ : S23), a0_2⟩ : S25), (⟨(⟨a1_0, a1_1⟩ : S23), a1_2⟩ : S25)] : List (S25))) (inner := [.int .i64 a0_0, .int .i64 a0_1, .int .i64 a0_2, .int .i64 a1_0, .int .i64 a1_1, .int .i64 a1_2]) (ok := fun _ => True) (okp := fun _ => True) ?hr ?hp (fun _ hk => hk) trivial (Below.refl _ _) (Nat.le_refl _) (by simp) ?_; (case hd => rfl); (case hg => rfl); (case hr => first | (go_simp; done) | (go_simp; rfl)); (case hp => exact (Reps.c3 (show Kd.M k25 _ _ _ (⟨(⟨a0_0, a0_1⟩ : S23), a0_2⟩ : S25) [.int .i64 a0_0, .int .i64 a0_1, .int .i64 a0_2] from (k25_mkM _ _ _ (⟨(⟨a0_0, a0_1⟩ : S23), a0_2⟩ : S25) )) (Reps.c3 (show Kd.M k25 _ _ _ (⟨(⟨a1_0, a1_1⟩ : S23), a1_2⟩ : S25) [.int .i64 a1_0, .int .i64 a1_1, .int .i64 a1_2] from (k25_mkM _ _ _ (⟨(⟨a1_0, a1_1⟩ : S23), a1_2⟩ : S25) )) (Reps.none _ _)))); intro v258 w23 ho24 hb hg_ hnew_; clear hg_ hnew_; (first | rw [← Ny257.out] at ho24 | (simp only [Int.reduceToNat] at ho24; rw [← Ny257.out] at ho24)); have n0_ := Am (Kd.R_lower (Kd.R_newB (Kd.R_newB ho24 (g := gb255) (o := .cells #[.int .i64 a0_0, .int .i64 a0_1, .int .i64 a0_2] 25 (0, 0)) (kU BK255)) (g := gb256) (o := .cells #[.int .i64 a1_0, .int .i64 a1_1, .int .i64 a1_2] 25 (0, 0)) (kU BK256)) (bZ (by repeat (first | (with_reducible first | exact HB.out | apply bA | apply bN | apply bD | refine bX ?_ (by assumption)) | exact HB.out)))); have hp0 := pA BK255 hb; have hv := vK HB hb; have n3_ := Am (bT hv hb); clear HB; have HO259 := n0_; replace BK255 := hp0 BK255; replace BK256 := hp0 BK256; have HB := n3_; clear n0_ n3_ hp0 hv; clear hb ho24; obtain ⟨Ao25, co25, eo25⟩ := Kd.R_slice HO259.out; subst eo25) | ((with_reducible refine gate_callee (f := 25) rfl ?_); refine gL (some 9) Try.func25 #[.slice Ao25 y257.length co25] rfl ?_; (with_reducible refine (impl_areHands.calls k _ _ y257 true _ ?side1 ?side2 A3.out).mono ?_); (case side1 => repeat (first | exact (Kd.R_reads' HO259.out).2.2 | (with_reducible refine Kd.C_alloc ?_ _) | (with_reducible refine Kd.C_drewN ?_ _) | (with_reducible refine Kd.C_drew ?_))); (case side2 => exact (Kd.R_reads' HO259.out).2.1); rintro e w26 ⟨rfl, hb⟩; refine ⟨_, rfl, ?_⟩; have n0_ := Am (Kd.R_below (kW HO259) hb); have hp0 := pA BK255 hb; have hv := vK HB hb; have n3_ := Am (bT hv hb); clear HO259; clear HB; have HO259 := n0_; replace BK255 := hp0 BK255; replace BK256 := hp0 BK256; have HB := n3_; clear n0_ n3_ hp0 hv; (try clear hb); have zq27 := c3 BK255; have zq28 := c3 BK256))
   go_ret2
   exact ⟨by first | rfl | (simp [errW_none, errW_some] <;> rfl) | (simp only [← hji17]; first | rfl | (simp [errW_none, errW_some] <;> rfl)) | (simp [*, errW_none, errW_some] <;> rfl), by repeat (first | (with_reducible first | exact HB.out | apply bA | apply bN | apply bD | refine bX ?_ (by assumption)) | exact HB.out)⟩
 replace c4 := Bool.eq_false_iff.mpr c4
 subst c4
 have H1 : (some (0, false)) = some (r1, r2) := by rw [if_neg (show ¬ (false = true) by decide)] at H; exact H
 clear H
 have H := H1
 clear H1
 focus
  simp only [Option.some.injEq, Prod.mk.injEq] at H
  obtain ⟨rfl, rfl⟩ := H
  go_enter Try.func6, Try.ntmps6
  go_wp2_with (first | ((with_reducible refine gate_dst (N := 2) rfl ?_); refine bE 2 #[.int .i64 a0_0, .int .i64 a0_1, .int .i64 a0_2] 25 ?_; intro gb255 hg w29 hbox hb; have hv := vK HB hb; have n0_ := Am (bT hv hb); have n1_ := Am (hbox); have GE255 := kG hg hv; clear HB; have HB := n0_; have BK255 := n1_; clear n0_ n1_ hv; clear hb hbox hg) | ((with_reducible refine gate_dst (N := 3) rfl ?_); refine bE 3 #[.int .i64 a1_0, .int .i64 a1_1, .int .i64 a1_2] 25 ?_; intro gb256 hg w30 hbox hb; have hp0 := pA BK255 hb; have hv := vK HB hb; have n1_ := Am (bT hv hb); have n2_ := Am (hbox); have GE256 := kG hg hv; have hp1 := pK BK255 hb; obtain ⟨NB255_256, NB256_255⟩ := kXY hg hp1 BK255; clear HB; replace BK255 := hp0 BK255; have HB := n1_; have BK256 := n2_; clear n1_ n2_ hp0 hp1 hv; clear hb hbox hg; have nq31 := kO NB255_256; have zq32 := c3 BK255; have zq33 := c3 BK256) | ((with_reducible refine gate_dst (N := 8) rfl ?_); refine Kd.R_lit k25 _ 25 ?hg (N := 8) ?hd (xs := ([(⟨(⟨a0_0, a0_1⟩ : S23), a0_2⟩ : S25), (⟨(⟨a1_0, a1_1⟩ : S23), a1_2⟩ : S25)] : List (S25))) (inner := [.int .i64 a0_0, .int .i64 a0_1, .int .i64 a0_2, .int .i64 a1_0, .int .i64 a1_1, .int .i64 a1_2]) (ok := fun _ => True) (okp := fun _ => True) ?hr ?hp (fun _ hk => hk) trivial (Below.refl _ _) (Nat.le_refl _) (by simp) ?_; (case hd => rfl); (case hg => rfl); (case hr => first | (go_simp; done) | (go_simp; rfl)); (case hp => exact (Reps.c3 (show Kd.M k25 _ _ _ (⟨(⟨a0_0, a0_1⟩ : S23), a0_2⟩ : S25) [.int .i64 a0_0, .int .i64 a0_1, .int .i64 a0_2] from (k25_mkM _ _ _ (⟨(⟨a0_0, a0_1⟩ : S23), a0_2⟩ : S25) )) (Reps.c3 (show Kd.M k25 _ _ _ (⟨(⟨a1_0, a1_1⟩ : S23), a1_2⟩ : S25) [.int .i64 a1_0, .int .i64 a1_1, .int .i64 a1_2] from (k25_mkM _ _ _ (⟨(⟨a1_0, a1_1⟩ : S23), a1_2⟩ : S25) )) (Reps.none _ _)))); intro v258 w34 ho35 hb hg_ hnew_; clear hg_ hnew_; (first | rw [← Ny257.out] at ho35 | (simp only [Int.reduceToNat] at ho35; rw [← Ny257.out] at ho35)); have n0_ := Am (Kd.R_lower (Kd.R_newB (Kd.R_newB ho35 (g := gb255) (o := .cells #[.int .i64 a0_0, .int .i64 a0_1, .int .i64 a0_2] 25 (0, 0)) (kU BK255)) (g := gb256) (o := .cells #[.int .i64 a1_0, .int .i64 a1_1, .int .i64 a1_2] 25 (0, 0)) (kU BK256)) (bZ (by repeat (first | (with_reducible first | exact HB.out | apply bA | apply bN | apply bD | refine bX ?_ (by assumption)) | exact HB.out)))); have hp0 := pA BK255 hb; have hv := vK HB hb; have n3_ := Am (bT hv hb); clear HB; have HO259 := n0_; replace BK255 := hp0 BK255; replace BK256 := hp0 BK256; have HB := n3_; clear n0_ n3_ hp0 hv; clear hb ho35; obtain ⟨Ao36, co36, eo36⟩ := Kd.R_slice HO259.out; subst eo36) | ((with_reducible refine gate_callee (f := 25) rfl ?_); refine gL (some 9) Try.func25 #[.slice Ao36 y257.length co36] rfl ?_; (with_reducible refine (impl_areHands.calls k _ _ y257 false _ ?side1 ?side2 A3.out).mono ?_); (case side1 => repeat (first | exact (Kd.R_reads' HO259.out).2.2 | (with_reducible refine Kd.C_alloc ?_ _) | (with_reducible refine Kd.C_drewN ?_ _) | (with_reducible refine Kd.C_drew ?_))); (case side2 => exact (Kd.R_reads' HO259.out).2.1); rintro e w37 ⟨rfl, hb⟩; refine ⟨_, rfl, ?_⟩; have n0_ := Am (Kd.R_below (kW HO259) hb); have hp0 := pA BK255 hb; have hv := vK HB hb; have n3_ := Am (bT hv hb); clear HO259; clear HB; have HO259 := n0_; replace BK255 := hp0 BK255; replace BK256 := hp0 BK256; have HB := n3_; clear n0_ n3_ hp0 hv; (try clear hb)))
  go_ret2
  exact ⟨by first | rfl | (simp [errW_none, errW_some] <;> rfl) | (simp [*, errW_none, errW_some] <;> rfl), by repeat (first | (with_reducible first | exact HB.out | apply bA | apply bN | apply bD | refine bX ?_ (by assumption)) | exact HB.out)⟩
/-! ### spec_l1Most: function 50 -/
def spec_l1Most.f (a0 : Int) (a1 : Int) : Option (Int) := if a0 > a1 then (some a0) else (some a1)
set_option maxHeartbeats 8000000 in
set_option maxRecDepth 100000 in
theorem spec_l1Most.calls (a0 : Int) (a1 : Int) (r : Int) (w : World) (h : spec_l1Most.f a0 a1 = some r) :
  Calls Try.prog 50 #[.int .i64 a0, .int .i64 a1] w fun e w' => e = .returned (.int .i64 r) ∧ Drawn0 w w' := by
 have H : (if a0 > a1 then (some a0) else (some a1)) = some r := h
 clear h
 by_cases c3 : a0 > a1
 ·rw [if_pos c3] at H
  have c3b0 : decide (a1 < a0) = true := decide_eq_true c3
  clear c3
  focus
   obtain rfl := Option.some.inj H
   go_enter Try.func50, Try.ntmps50
   go_wp2
   go_ret
   exact ⟨by first | rfl | (simp; done) | (simp [*]; done), by repeat (first | exact Drawn0.refl _ | apply Drawn0.step)⟩
 rw [if_neg c3] at H
 have c3b0 : decide (a1 < a0) = false := decide_eq_false c3
 clear c3
 focus
  obtain rfl := Option.some.inj H
  go_enter Try.func50, Try.ntmps50
  go_wp2
  go_ret
  exact ⟨by first | rfl | (simp; done) | (simp [*]; done), by repeat (first | exact Drawn0.refl _ | apply Drawn0.step)⟩
/-! ### spec_l1Abs: function 26 -/
def spec_l1Abs.f (a0 : Int) : Option (Int) := (spec_l1Most.f a0 (wrap64 (-a0))).bind fun t261 => (some t261)
set_option maxHeartbeats 8000000 in
set_option maxRecDepth 100000 in
theorem spec_l1Abs.calls (a0 : Int) (r : Int) (w : World) (h : spec_l1Abs.f a0 = some r) :
  Calls Try.prog 26 #[.int .i64 a0] w fun e w' => e = .returned (.int .i64 r) ∧ Drawn0 w w' := by
 have H : ((spec_l1Most.f a0 (wrap64 (-a0))).bind fun t261 => (some t261)) = some r := h
 clear h
 replace H := Option.bind_eq_some_iff.mp H
 obtain ⟨t261, A20, H⟩ := H
 try dsimp only at H
 have A2 := Am A20
 clear A20
 focus
  obtain rfl := Option.some.inj H
  go_enter Try.func26, Try.ntmps26
  go_wp2_with (first | ((with_reducible refine gate_callee (f := 50) rfl ?_); refine gL (some 6) Try.func50 #[.int .i64 a0, .int .i64 (wrap64 (-a0))] rfl ?_; (with_reducible refine (spec_l1Most.calls a0 (wrap64 (-a0)) t261 _ A2.out).mono ?_); rintro e w' ⟨rfl, ⟨nd, rfl⟩⟩; refine ⟨_, rfl, ?_⟩))
  go_ret
  exact ⟨by first | rfl | (simp; done) | (simp [*]; done), by repeat (first | exact Drawn0.refl _ | apply Drawn0.step)⟩
/-! ### spec_CountMeets: function 7 -/
def spec_CountMeets.f (k : Nat) (a0_0 : Int) (a0_1 : Int) (a0_2 : Int) (a1_0 : Int) (a1_1 : Int) (a1_2 : Int) : Option (Int × Bool) := (spec_meAsked.f k a0_0 a0_1 a0_2 a1_0 a1_1 a1_2).bind fun t264 => (if t264 = true then ((spec_l1Abs.f (wrap64 (a0_2 - a1_2))).bind fun t265 => (some (t265, true))) else (some (0, false)))
theorem spec_CountMeets.mono : ∀ a0 a1 a2 a3 a4 a5 k, LeO (spec_CountMeets.f k a0 a1 a2 a3 a4 a5) (spec_CountMeets.f (k + 1) a0 a1 a2 a3 a4 a5) := by
 intro a0 a1 a2 a3 a4 a5 k
 unfold spec_CountMeets.f
 repeat' first
   | (with_reducible exact spec_meAsked.mono _ _ _ _ _ _ _)
   | (with_reducible exact LeO.refl _)
   | (with_reducible exact LeO.none _)
   | (with_reducible refine LeO.ite ?_ ?_)
   | (with_reducible refine LeO.bind ?_ (fun _ => ?_))
   | exact spec_meAsked.mono _ _ _ _ _ _ _
   | exact LeO.none _
   | refine LeO.ite ?_ ?_
   | refine LeO.bind ?_ (fun _ => ?_)
set_option maxHeartbeats 8000000 in
set_option maxRecDepth 100000 in
theorem spec_CountMeets.calls (k : Nat) (a0_0 : Int) (a0_1 : Int) (a0_2 : Int) (a1_0 : Int) (a1_1 : Int) (a1_2 : Int) (r1 : Int) (r2 : Bool) (w : World) (h : spec_CountMeets.f k a0_0 a0_1 a0_2 a1_0 a1_1 a1_2 = some (r1, r2)) :
  Calls Try.prog 7 #[.agg #[.int .i64 a0_0, .int .i64 a0_1, .int .i64 a0_2], .agg #[.int .i64 a1_0, .int .i64 a1_1, .int .i64 a1_2]] w fun e w' => e = .returned (.tuple #[.int .i64 r1, .bool r2]) ∧ Below w.heap.size w w' := by
 have hu25 := Try.underlying25
 have HB := Am (Below.refl w.heap.size w)
 have H : ((spec_meAsked.f k a0_0 a0_1 a0_2 a1_0 a1_1 a1_2).bind fun t264 => (if t264 = true then ((spec_l1Abs.f (wrap64 (a0_2 - a1_2))).bind fun t265 => (some (t265, true))) else (some (0, false)))) = some (r1, r2) := h
 clear h
 replace H := Option.bind_eq_some_iff.mp H
 obtain ⟨t264, A30, H⟩ := H
 try dsimp only at H
 have A3 := Am A30
 clear A30
 by_cases c4 : t264 = true
 ·subst c4
  have H1 : ((spec_l1Abs.f (wrap64 (a0_2 - a1_2))).bind fun t265 => (some (t265, true))) = some (r1, r2) := by rw [if_pos rfl] at H; exact H
  clear H
  have H := H1
  clear H1
  replace H := Option.bind_eq_some_iff.mp H
  obtain ⟨t265, A50, H⟩ := H
  try dsimp only at H
  have A5 := Am A50
  clear A50
  focus
   simp only [Option.some.injEq, Prod.mk.injEq] at H
   obtain ⟨rfl, rfl⟩ := H
   go_enter Try.func7, Try.ntmps7
   go_wp2_with (first | ((with_reducible refine gate_dst (N := 2) rfl ?_); refine bE 2 #[.int .i64 a0_0, .int .i64 a0_1, .int .i64 a0_2] 25 ?_; intro gb262 hg w6 hbox hb; have hv := vK HB hb; have n0_ := Am (bT hv hb); have n1_ := Am (hbox); have GE262 := kG hg hv; clear HB; have HB := n0_; have BK262 := n1_; clear n0_ n1_ hv; clear hb hbox hg) | ((with_reducible refine gate_dst (N := 3) rfl ?_); refine bE 3 #[.int .i64 a1_0, .int .i64 a1_1, .int .i64 a1_2] 25 ?_; intro gb263 hg w7 hbox hb; have hp0 := pA BK262 hb; have hv := vK HB hb; have n1_ := Am (bT hv hb); have n2_ := Am (hbox); have GE263 := kG hg hv; have hp1 := pK BK262 hb; obtain ⟨NB262_263, NB263_262⟩ := kXY hg hp1 BK262; clear HB; replace BK262 := hp0 BK262; have HB := n1_; have BK263 := n2_; clear n1_ n2_ hp0 hp1 hv; clear hb hbox hg; have nq8 := kO NB262_263; have zq9 := c3 BK262; have zq10 := c3 BK263) | ((with_reducible refine gate_callee (f := 22) rfl ?_); refine gL (some 8) Try.func22 #[.agg #[.int .i64 a0_0, .int .i64 a0_1, .int .i64 a0_2], .agg #[.int .i64 a1_0, .int .i64 a1_1, .int .i64 a1_2]] rfl ?_; (with_reducible refine (spec_meAsked.calls k a0_0 a0_1 a0_2 a1_0 a1_1 a1_2 true _ A3.out).mono ?_); rintro e w11 ⟨rfl, hb⟩; refine ⟨_, rfl, ?_⟩; have hp0 := pA BK262 hb; have hv := vK HB hb; have n2_ := Am (bT hv hb); clear HB; replace BK262 := hp0 BK262; replace BK263 := hp0 BK263; have HB := n2_; clear n2_ hp0 hv; (try clear hb); have zq12 := c3 BK262; have zq13 := c3 BK263) | ((with_reducible refine gate_callee (f := 26) rfl ?_); refine gL (some 15) Try.func26 #[.int .i64 (wrap64 (a0_2 - a1_2))] rfl ?_; (with_reducible refine (spec_l1Abs.calls (wrap64 (a0_2 - a1_2)) t265 _ A5.out).mono ?_); rintro e w' ⟨rfl, ⟨nd, rfl⟩⟩; refine ⟨_, rfl, ?_⟩))
   go_ret2
   exact ⟨by first | rfl | (simp [errW_none, errW_some] <;> rfl) | (simp [*, errW_none, errW_some] <;> rfl), by repeat (first | (with_reducible first | exact HB.out | apply bA | apply bN | apply bD | refine bX ?_ (by assumption)) | exact HB.out)⟩
 replace c4 := Bool.eq_false_iff.mpr c4
 subst c4
 have H1 : (some (0, false)) = some (r1, r2) := by rw [if_neg (show ¬ (false = true) by decide)] at H; exact H
 clear H
 have H := H1
 clear H1
 focus
  simp only [Option.some.injEq, Prod.mk.injEq] at H
  obtain ⟨rfl, rfl⟩ := H
  go_enter Try.func7, Try.ntmps7
  go_wp2_with (first | ((with_reducible refine gate_dst (N := 2) rfl ?_); refine bE 2 #[.int .i64 a0_0, .int .i64 a0_1, .int .i64 a0_2] 25 ?_; intro gb262 hg w14 hbox hb; have hv := vK HB hb; have n0_ := Am (bT hv hb); have n1_ := Am (hbox); have GE262 := kG hg hv; clear HB; have HB := n0_; have BK262 := n1_; clear n0_ n1_ hv; clear hb hbox hg) | ((with_reducible refine gate_dst (N := 3) rfl ?_); refine bE 3 #[.int .i64 a1_0, .int .i64 a1_1, .int .i64 a1_2] 25 ?_; intro gb263 hg w15 hbox hb; have hp0 := pA BK262 hb; have hv := vK HB hb; have n1_ := Am (bT hv hb); have n2_ := Am (hbox); have GE263 := kG hg hv; have hp1 := pK BK262 hb; obtain ⟨NB262_263, NB263_262⟩ := kXY hg hp1 BK262; clear HB; replace BK262 := hp0 BK262; have HB := n1_; have BK263 := n2_; clear n1_ n2_ hp0 hp1 hv; clear hb hbox hg; have nq16 := kO NB262_263; have zq17 := c3 BK262; have zq18 := c3 BK263) | ((with_reducible refine gate_callee (f := 22) rfl ?_); refine gL (some 8) Try.func22 #[.agg #[.int .i64 a0_0, .int .i64 a0_1, .int .i64 a0_2], .agg #[.int .i64 a1_0, .int .i64 a1_1, .int .i64 a1_2]] rfl ?_; (with_reducible refine (spec_meAsked.calls k a0_0 a0_1 a0_2 a1_0 a1_1 a1_2 false _ A3.out).mono ?_); rintro e w19 ⟨rfl, hb⟩; refine ⟨_, rfl, ?_⟩; have hp0 := pA BK262 hb; have hv := vK HB hb; have n2_ := Am (bT hv hb); clear HB; replace BK262 := hp0 BK262; replace BK263 := hp0 BK263; have HB := n2_; clear n2_ hp0 hv; (try clear hb)))
  go_ret2
  exact ⟨by first | rfl | (simp [errW_none, errW_some] <;> rfl) | (simp [*, errW_none, errW_some] <;> rfl), by repeat (first | (with_reducible first | exact HB.out | apply bA | apply bN | apply bD | refine bX ?_ (by assumption)) | exact HB.out)⟩
/-! ### impl_FirstMeet: function 8 -/
def impl_FirstMeet.f (k : Nat) (a0_0 : Int) (a0_1 : Int) (a0_2 : Int) (a1_0 : Int) (a1_1 : Int) (a1_2 : Int) : Option (Int × Int × Bool) := (impl_MeetTimes.f k a0_0 a0_1 a0_2 a1_0 a1_1 a1_2).bind fun bt269 => (if bt269.2 = true then (if 0 < (bt269.1.length : Int) then (some ((rd_T23 bt269.1 0).f0, (rd_T23 bt269.1 0).f1, true)) else (none)) else (some (0, 0, false)))
theorem impl_FirstMeet.mono : ∀ a0 a1 a2 a3 a4 a5 k, LeO (impl_FirstMeet.f k a0 a1 a2 a3 a4 a5) (impl_FirstMeet.f (k + 1) a0 a1 a2 a3 a4 a5) := by
 intro a0 a1 a2 a3 a4 a5 k
 unfold impl_FirstMeet.f
 repeat' first
   | (with_reducible exact impl_MeetTimes.mono _ _ _ _ _ _ _)
   | (with_reducible exact LeO.refl _)
   | (with_reducible exact LeO.none _)
   | (with_reducible refine LeO.ite ?_ ?_)
   | (with_reducible refine LeO.bind ?_ (fun _ => ?_))
   | exact impl_MeetTimes.mono _ _ _ _ _ _ _
   | exact LeO.none _
   | refine LeO.ite ?_ ?_
   | refine LeO.bind ?_ (fun _ => ?_)
set_option maxHeartbeats 8000000 in
set_option maxRecDepth 100000 in
theorem impl_FirstMeet.calls (k : Nat) (a0_0 : Int) (a0_1 : Int) (a0_2 : Int) (a1_0 : Int) (a1_1 : Int) (a1_2 : Int) (r1 : Int) (r2 : Int) (r3 : Bool) (w : World) (h : impl_FirstMeet.f k a0_0 a0_1 a0_2 a1_0 a1_1 a1_2 = some (r1, r2, r3)) :
  Calls Try.prog 8 #[.agg #[.int .i64 a0_0, .int .i64 a0_1, .int .i64 a0_2], .agg #[.int .i64 a1_0, .int .i64 a1_1, .int .i64 a1_2]] w fun e w' => e = .returned (.tuple #[.agg #[.int .i64 r1, .int .i64 r2], .bool r3]) ∧ Below w.heap.size w w' := by
 have hu25 := Try.underlying25; have hu23 := Try.underlying23
 have HB := Am (Below.refl w.heap.size w)
 have H : ((impl_MeetTimes.f k a0_0 a0_1 a0_2 a1_0 a1_1 a1_2).bind fun bt269 => (if bt269.2 = true then (if 0 < (bt269.1.length : Int) then (some ((rd_T23 bt269.1 0).f0, (rd_T23 bt269.1 0).f1, true)) else (none)) else (some (0, 0, false)))) = some (r1, r2, r3) := h
 clear h
 replace H := Option.bind_eq_some_iff.mp H
 obtain ⟨⟨t269, t272⟩, A30, H⟩ := H
 try dsimp only at H
 have A3 := Am A30
 clear A30
 by_cases c4 : t272 = true
 ·subst c4
  have H1 : (if 0 < (t269.length : Int) then (some ((rd_T23 t269 0).f0, (rd_T23 t269 0).f1, true)) else (none)) = some (r1, r2, r3) := by rw [if_pos rfl] at H; exact H
  clear H
  have H := H1
  clear H1
  by_cases c5 : 0 < (t269.length : Int)
  ·rw [if_pos c5] at H
   have c5b0 : decide (0 < (t269.length : Int)) = true := decide_eq_true c5
   have c5b1 : decide (0 < t269.length) = true := decide_eq_true (by omega)
   clear c5
   focus
    simp only [Option.some.injEq, Prod.mk.injEq] at H
    obtain ⟨rfl, rfl, rfl⟩ := H
    go_enter Try.func8, Try.ntmps8
    go_wp2_with (first | ((with_reducible refine gate_dst (N := 2) rfl ?_); refine bE 2 #[.int .i64 a0_0, .int .i64 a0_1, .int .i64 a0_2] 25 ?_; intro gb266 hg w6 hbox hb; have hv := vK HB hb; have n0_ := Am (bT hv hb); have n1_ := Am (hbox); have GE266 := kG hg hv; clear HB; have HB := n0_; have BK266 := n1_; clear n0_ n1_ hv; clear hb hbox hg) | ((with_reducible refine gate_dst (N := 3) rfl ?_); refine bE 3 #[.int .i64 a1_0, .int .i64 a1_1, .int .i64 a1_2] 25 ?_; intro gb267 hg w7 hbox hb; have hp0 := pA BK266 hb; have hv := vK HB hb; have n1_ := Am (bT hv hb); have n2_ := Am (hbox); have GE267 := kG hg hv; have hp1 := pK BK266 hb; obtain ⟨NB266_267, NB267_266⟩ := kXY hg hp1 BK266; clear HB; replace BK266 := hp0 BK266; have HB := n1_; have BK267 := n2_; clear n1_ n2_ hp0 hp1 hv; clear hb hbox hg) | ((with_reducible refine gate_dst (N := 4) rfl ?_); refine bE 4 #[.int .i64 0, .int .i64 0] 23 ?_; intro gb268 hg w8 hbox hb; have hp0 := pA BK266 hb; have hv := vK HB hb; have n2_ := Am (bT hv hb); have n3_ := Am (hbox); have GE268 := kG hg hv; have hp1 := pK BK266 hb; obtain ⟨NB266_268, NB268_266⟩ := kXY hg hp1 BK266; obtain ⟨NB267_268, NB268_267⟩ := kXY hg hp1 BK267; clear HB; replace BK266 := hp0 BK266; replace BK267 := hp0 BK267; have HB := n2_; have BK268 := n3_; clear n2_ n3_ hp0 hp1 hv; clear hb hbox hg; have nq9 := kO NB266_267; have nq10 := kO NB266_268; have zq11 := c3 BK266; have nq12 := kO NB267_268; have zq13 := c3 BK267) | ((with_reducible refine gate_callee (f := 4) rfl ?_); refine gL (some 11) Try.func4 #[.agg #[.int .i64 a0_0, .int .i64 a0_1, .int .i64 a0_2], .agg #[.int .i64 a1_0, .int .i64 a1_1, .int .i64 a1_2]] rfl ?_; (with_reducible refine (impl_MeetTimes.calls k a0_0 a0_1 a0_2 a1_0 a1_1 a1_2 t269 true _ A3.out).mono ?_); rintro e w14 ⟨v270, rfl, ho0, hb⟩; refine ⟨_, rfl, ?_⟩; have n0_ := Am (Kd.R_lower (Kd.R_newB ho0 (g := gb268) (o := .cells #[.int .i64 0, .int .i64 0] 23 (0, 0)) (kU BK268)) (bZ (by repeat (first | (with_reducible first | exact HB.out | apply bA | apply bN | apply bD | refine bX ?_ (by assumption)) | exact HB.out)))); have hp0 := pA BK266 hb; have hv := vK HB hb; have n4_ := Am (bT hv hb); clear HB; have HO271 := n0_; replace BK266 := hp0 BK266; replace BK267 := hp0 BK267; replace BK268 := hp0 BK268; have HB := n4_; clear n0_ n4_ hp0 hv; (try clear hb); (try clear ho0); obtain ⟨Ao15, co15, eo15⟩ := Kd.R_slice HO271.out; subst eo15; have p273 : 0 ≤ (0 : Int) := (by omega); have q273 : 0 < (t269.length : Int) := of_decide_eq_true (by first | (with_reducible assumption) | assumption); obtain ⟨ad273, e273, hx273_0, hx273_1⟩ := at_T23 (Kd.R_reads' HO271.out).2.2 0 p273 q273; cases e273; have qi273 : (0 < t269.length) = True := eq_true (by omega); (try rw [show ((0 : Int)).toNat = 0 from rfl] at hx273_0); (try rw [show 0 * 2 = 0 from rfl] at hx273_0); (try rw [Addr.add_zero'] at hx273_0); (try rw [show ((0 : Int)).toNat = 0 from rfl] at hx273_1); (try rw [show 0 * 2 = 0 from rfl] at hx273_1); (try rw [Addr.add_zero'] at hx273_1); replace p273 := eq_true p273; replace q273 := eq_true q273; have zq16 := c2 BK268))
    refine bodyPost_ret (results_ct rfl _ _ gb268 23 #[.int .i64 ((rd_T23 t269 0).f0), .int .i64 ((rd_T23 t269 0).f1)] (0, 0) _ rfl (by (with_reducible repeat (first | refine kN ?_ _ | refine kD ?_ | refine kA ?_ _)); refine kP (cs := #[.int .i64 ((rd_T23 t269 0).f0), .int .i64 0]) ?_ 1 _ rfl; (with_reducible repeat (first | refine kN ?_ _ | refine kD ?_ | refine kA ?_ _)); refine kP (cs := #[.int .i64 0, .int .i64 0]) ?_ 0 _ rfl; (with_reducible repeat (first | refine kN ?_ _ | refine kD ?_ | refine kA ?_ _)); exact BK268.out) Try.underlying23 rfl (by kernel_rfl)) rfl ?_
    exact ⟨by first | rfl | (simp [errW_none, errW_some] <;> rfl) | (simp [*, errW_none, errW_some] <;> rfl), by repeat (first | (with_reducible first | exact HB.out | apply bA | apply bN | apply bD | refine bX ?_ (by assumption)) | exact HB.out)⟩
  rw [if_neg c5] at H
  exact absurd H (by simp)
 replace c4 := Bool.eq_false_iff.mpr c4
 subst c4
 have H1 : (some (0, 0, false)) = some (r1, r2, r3) := by rw [if_neg (show ¬ (false = true) by decide)] at H; exact H
 clear H
 have H := H1
 clear H1
 focus
  simp only [Option.some.injEq, Prod.mk.injEq] at H
  obtain ⟨rfl, rfl, rfl⟩ := H
  go_enter Try.func8, Try.ntmps8
  go_wp2_with (first | ((with_reducible refine gate_dst (N := 2) rfl ?_); refine bE 2 #[.int .i64 a0_0, .int .i64 a0_1, .int .i64 a0_2] 25 ?_; intro gb266 hg w17 hbox hb; have hv := vK HB hb; have n0_ := Am (bT hv hb); have n1_ := Am (hbox); have GE266 := kG hg hv; clear HB; have HB := n0_; have BK266 := n1_; clear n0_ n1_ hv; clear hb hbox hg) | ((with_reducible refine gate_dst (N := 3) rfl ?_); refine bE 3 #[.int .i64 a1_0, .int .i64 a1_1, .int .i64 a1_2] 25 ?_; intro gb267 hg w18 hbox hb; have hp0 := pA BK266 hb; have hv := vK HB hb; have n1_ := Am (bT hv hb); have n2_ := Am (hbox); have GE267 := kG hg hv; have hp1 := pK BK266 hb; obtain ⟨NB266_267, NB267_266⟩ := kXY hg hp1 BK266; clear HB; replace BK266 := hp0 BK266; have HB := n1_; have BK267 := n2_; clear n1_ n2_ hp0 hp1 hv; clear hb hbox hg) | ((with_reducible refine gate_dst (N := 4) rfl ?_); refine bE 4 #[.int .i64 0, .int .i64 0] 23 ?_; intro gb268 hg w19 hbox hb; have hp0 := pA BK266 hb; have hv := vK HB hb; have n2_ := Am (bT hv hb); have n3_ := Am (hbox); have GE268 := kG hg hv; have hp1 := pK BK266 hb; obtain ⟨NB266_268, NB268_266⟩ := kXY hg hp1 BK266; obtain ⟨NB267_268, NB268_267⟩ := kXY hg hp1 BK267; clear HB; replace BK266 := hp0 BK266; replace BK267 := hp0 BK267; have HB := n2_; have BK268 := n3_; clear n2_ n3_ hp0 hp1 hv; clear hb hbox hg; have nq20 := kO NB266_267; have nq21 := kO NB266_268; have zq22 := c3 BK266; have nq23 := kO NB267_268; have zq24 := c3 BK267) | ((with_reducible refine gate_callee (f := 4) rfl ?_); refine gL (some 11) Try.func4 #[.agg #[.int .i64 a0_0, .int .i64 a0_1, .int .i64 a0_2], .agg #[.int .i64 a1_0, .int .i64 a1_1, .int .i64 a1_2]] rfl ?_; (with_reducible refine (impl_MeetTimes.calls k a0_0 a0_1 a0_2 a1_0 a1_1 a1_2 t269 false _ A3.out).mono ?_); rintro e w25 ⟨v270, rfl, ho0, hb⟩; refine ⟨_, rfl, ?_⟩; have n0_ := Am (Kd.R_lower (Kd.R_newB ho0 (g := gb268) (o := .cells #[.int .i64 0, .int .i64 0] 23 (0, 0)) (kU BK268)) (bZ (by repeat (first | (with_reducible first | exact HB.out | apply bA | apply bN | apply bD | refine bX ?_ (by assumption)) | exact HB.out)))); have hp0 := pA BK266 hb; have hv := vK HB hb; have n4_ := Am (bT hv hb); clear HB; have HO271 := n0_; replace BK266 := hp0 BK266; replace BK267 := hp0 BK267; replace BK268 := hp0 BK268; have HB := n4_; clear n0_ n4_ hp0 hv; (try clear hb); (try clear ho0); have zq26 := c2 BK268))
  refine bodyPost_ret (results_ct rfl _ _ gb268 23 #[.int .i64 0, .int .i64 0] (0, 0) _ rfl (by (with_reducible repeat (first | refine kN ?_ _ | refine kD ?_ | refine kA ?_ _)); refine kP (cs := #[.int .i64 0, .int .i64 0]) ?_ 1 _ rfl; (with_reducible repeat (first | refine kN ?_ _ | refine kD ?_ | refine kA ?_ _)); refine kP (cs := #[.int .i64 0, .int .i64 0]) ?_ 0 _ rfl; (with_reducible repeat (first | refine kN ?_ _ | refine kD ?_ | refine kA ?_ _)); exact BK268.out) Try.underlying23 rfl (by kernel_rfl)) rfl ?_
  exact ⟨by first | rfl | (simp [errW_none, errW_some] <;> rfl) | (simp [*, errW_none, errW_some] <;> rfl), by repeat (first | (with_reducible first | exact HB.out | apply bA | apply bN | apply bD | refine bX ?_ (by assumption)) | exact HB.out)⟩
/-! ### spec_FirstMeet: function 9 -/
def spec_FirstMeet.f (k : Nat) (a0_0 : Int) (a0_1 : Int) (a0_2 : Int) (a1_0 : Int) (a1_1 : Int) (a1_2 : Int) : Option (Int × Int × Bool) := (spec_MeetTimes.f k a0_0 a0_1 a0_2 a1_0 a1_1 a1_2).bind fun bt277 => (if bt277.2 = true then (if 0 < (bt277.1.length : Int) then (some ((rd_T23 bt277.1 0).f0, (rd_T23 bt277.1 0).f1, true)) else (none)) else (some (0, 0, false)))
theorem spec_FirstMeet.mono : ∀ a0 a1 a2 a3 a4 a5 k, LeO (spec_FirstMeet.f k a0 a1 a2 a3 a4 a5) (spec_FirstMeet.f (k + 1) a0 a1 a2 a3 a4 a5) := by
 intro a0 a1 a2 a3 a4 a5 k
 unfold spec_FirstMeet.f
 repeat' first
   | (with_reducible exact spec_MeetTimes.mono _ _ _ _ _ _ _)
   | (with_reducible exact LeO.refl _)
   | (with_reducible exact LeO.none _)
   | (with_reducible refine LeO.ite ?_ ?_)
   | (with_reducible refine LeO.bind ?_ (fun _ => ?_))
   | exact spec_MeetTimes.mono _ _ _ _ _ _ _
   | exact LeO.none _
   | refine LeO.ite ?_ ?_
   | refine LeO.bind ?_ (fun _ => ?_)
set_option maxHeartbeats 8000000 in
set_option maxRecDepth 100000 in
theorem spec_FirstMeet.calls (k : Nat) (a0_0 : Int) (a0_1 : Int) (a0_2 : Int) (a1_0 : Int) (a1_1 : Int) (a1_2 : Int) (r1 : Int) (r2 : Int) (r3 : Bool) (w : World) (h : spec_FirstMeet.f k a0_0 a0_1 a0_2 a1_0 a1_1 a1_2 = some (r1, r2, r3)) :
  Calls Try.prog 9 #[.agg #[.int .i64 a0_0, .int .i64 a0_1, .int .i64 a0_2], .agg #[.int .i64 a1_0, .int .i64 a1_1, .int .i64 a1_2]] w fun e w' => e = .returned (.tuple #[.agg #[.int .i64 r1, .int .i64 r2], .bool r3]) ∧ Below w.heap.size w w' := by
 have hu25 := Try.underlying25; have hu23 := Try.underlying23
 have HB := Am (Below.refl w.heap.size w)
 have H : ((spec_MeetTimes.f k a0_0 a0_1 a0_2 a1_0 a1_1 a1_2).bind fun bt277 => (if bt277.2 = true then (if 0 < (bt277.1.length : Int) then (some ((rd_T23 bt277.1 0).f0, (rd_T23 bt277.1 0).f1, true)) else (none)) else (some (0, 0, false)))) = some (r1, r2, r3) := h
 clear h
 replace H := Option.bind_eq_some_iff.mp H
 obtain ⟨⟨t277, t280⟩, A30, H⟩ := H
 try dsimp only at H
 have A3 := Am A30
 clear A30
 by_cases c4 : t280 = true
 ·subst c4
  have H1 : (if 0 < (t277.length : Int) then (some ((rd_T23 t277 0).f0, (rd_T23 t277 0).f1, true)) else (none)) = some (r1, r2, r3) := by rw [if_pos rfl] at H; exact H
  clear H
  have H := H1
  clear H1
  by_cases c5 : 0 < (t277.length : Int)
  ·rw [if_pos c5] at H
   have c5b0 : decide (0 < (t277.length : Int)) = true := decide_eq_true c5
   have c5b1 : decide (0 < t277.length) = true := decide_eq_true (by omega)
   clear c5
   focus
    simp only [Option.some.injEq, Prod.mk.injEq] at H
    obtain ⟨rfl, rfl, rfl⟩ := H
    go_enter Try.func9, Try.ntmps9
    go_wp2_with (first | ((with_reducible refine gate_dst (N := 2) rfl ?_); refine bE 2 #[.int .i64 a0_0, .int .i64 a0_1, .int .i64 a0_2] 25 ?_; intro gb274 hg w6 hbox hb; have hv := vK HB hb; have n0_ := Am (bT hv hb); have n1_ := Am (hbox); have GE274 := kG hg hv; clear HB; have HB := n0_; have BK274 := n1_; clear n0_ n1_ hv; clear hb hbox hg) | ((with_reducible refine gate_dst (N := 3) rfl ?_); refine bE 3 #[.int .i64 a1_0, .int .i64 a1_1, .int .i64 a1_2] 25 ?_; intro gb275 hg w7 hbox hb; have hp0 := pA BK274 hb; have hv := vK HB hb; have n1_ := Am (bT hv hb); have n2_ := Am (hbox); have GE275 := kG hg hv; have hp1 := pK BK274 hb; obtain ⟨NB274_275, NB275_274⟩ := kXY hg hp1 BK274; clear HB; replace BK274 := hp0 BK274; have HB := n1_; have BK275 := n2_; clear n1_ n2_ hp0 hp1 hv; clear hb hbox hg) | ((with_reducible refine gate_dst (N := 4) rfl ?_); refine bE 4 #[.int .i64 0, .int .i64 0] 23 ?_; intro gb276 hg w8 hbox hb; have hp0 := pA BK274 hb; have hv := vK HB hb; have n2_ := Am (bT hv hb); have n3_ := Am (hbox); have GE276 := kG hg hv; have hp1 := pK BK274 hb; obtain ⟨NB274_276, NB276_274⟩ := kXY hg hp1 BK274; obtain ⟨NB275_276, NB276_275⟩ := kXY hg hp1 BK275; clear HB; replace BK274 := hp0 BK274; replace BK275 := hp0 BK275; have HB := n2_; have BK276 := n3_; clear n2_ n3_ hp0 hp1 hv; clear hb hbox hg; have nq9 := kO NB274_275; have nq10 := kO NB274_276; have zq11 := c3 BK274; have nq12 := kO NB275_276; have zq13 := c3 BK275) | ((with_reducible refine gate_callee (f := 5) rfl ?_); refine gL (some 11) Try.func5 #[.agg #[.int .i64 a0_0, .int .i64 a0_1, .int .i64 a0_2], .agg #[.int .i64 a1_0, .int .i64 a1_1, .int .i64 a1_2]] rfl ?_; (with_reducible refine (spec_MeetTimes.calls k a0_0 a0_1 a0_2 a1_0 a1_1 a1_2 t277 true _ A3.out).mono ?_); rintro e w14 ⟨v278, rfl, ho0, hb⟩; refine ⟨_, rfl, ?_⟩; have n0_ := Am (Kd.R_lower (Kd.R_newB ho0 (g := gb276) (o := .cells #[.int .i64 0, .int .i64 0] 23 (0, 0)) (kU BK276)) (bZ (by repeat (first | (with_reducible first | exact HB.out | apply bA | apply bN | apply bD | refine bX ?_ (by assumption)) | exact HB.out)))); have hp0 := pA BK274 hb; have hv := vK HB hb; have n4_ := Am (bT hv hb); clear HB; have HO279 := n0_; replace BK274 := hp0 BK274; replace BK275 := hp0 BK275; replace BK276 := hp0 BK276; have HB := n4_; clear n0_ n4_ hp0 hv; (try clear hb); (try clear ho0); obtain ⟨Ao15, co15, eo15⟩ := Kd.R_slice HO279.out; subst eo15; have p281 : 0 ≤ (0 : Int) := (by omega); have q281 : 0 < (t277.length : Int) := of_decide_eq_true (by first | (with_reducible assumption) | assumption); obtain ⟨ad281, e281, hx281_0, hx281_1⟩ := at_T23 (Kd.R_reads' HO279.out).2.2 0 p281 q281; cases e281; have qi281 : (0 < t277.length) = True := eq_true (by omega); (try rw [show ((0 : Int)).toNat = 0 from rfl] at hx281_0); (try rw [show 0 * 2 = 0 from rfl] at hx281_0); (try rw [Addr.add_zero'] at hx281_0); (try rw [show ((0 : Int)).toNat = 0 from rfl] at hx281_1); (try rw [show 0 * 2 = 0 from rfl] at hx281_1); (try rw [Addr.add_zero'] at hx281_1); replace p281 := eq_true p281; replace q281 := eq_true q281; have zq16 := c2 BK276))
    refine bodyPost_ret (results_ct rfl _ _ gb276 23 #[.int .i64 ((rd_T23 t277 0).f0), .int .i64 ((rd_T23 t277 0).f1)] (0, 0) _ rfl (by (with_reducible repeat (first | refine kN ?_ _ | refine kD ?_ | refine kA ?_ _)); refine kP (cs := #[.int .i64 ((rd_T23 t277 0).f0), .int .i64 0]) ?_ 1 _ rfl; (with_reducible repeat (first | refine kN ?_ _ | refine kD ?_ | refine kA ?_ _)); refine kP (cs := #[.int .i64 0, .int .i64 0]) ?_ 0 _ rfl; (with_reducible repeat (first | refine kN ?_ _ | refine kD ?_ | refine kA ?_ _)); exact BK276.out) Try.underlying23 rfl (by kernel_rfl)) rfl ?_
    exact ⟨by first | rfl | (simp [errW_none, errW_some] <;> rfl) | (simp [*, errW_none, errW_some] <;> rfl), by repeat (first | (with_reducible first | exact HB.out | apply bA | apply bN | apply bD | refine bX ?_ (by assumption)) | exact HB.out)⟩
  rw [if_neg c5] at H
  exact absurd H (by simp)
 replace c4 := Bool.eq_false_iff.mpr c4
 subst c4
 have H1 : (some (0, 0, false)) = some (r1, r2, r3) := by rw [if_neg (show ¬ (false = true) by decide)] at H; exact H
 clear H
 have H := H1
 clear H1
 focus
  simp only [Option.some.injEq, Prod.mk.injEq] at H
  obtain ⟨rfl, rfl, rfl⟩ := H
  go_enter Try.func9, Try.ntmps9
  go_wp2_with (first | ((with_reducible refine gate_dst (N := 2) rfl ?_); refine bE 2 #[.int .i64 a0_0, .int .i64 a0_1, .int .i64 a0_2] 25 ?_; intro gb274 hg w17 hbox hb; have hv := vK HB hb; have n0_ := Am (bT hv hb); have n1_ := Am (hbox); have GE274 := kG hg hv; clear HB; have HB := n0_; have BK274 := n1_; clear n0_ n1_ hv; clear hb hbox hg) | ((with_reducible refine gate_dst (N := 3) rfl ?_); refine bE 3 #[.int .i64 a1_0, .int .i64 a1_1, .int .i64 a1_2] 25 ?_; intro gb275 hg w18 hbox hb; have hp0 := pA BK274 hb; have hv := vK HB hb; have n1_ := Am (bT hv hb); have n2_ := Am (hbox); have GE275 := kG hg hv; have hp1 := pK BK274 hb; obtain ⟨NB274_275, NB275_274⟩ := kXY hg hp1 BK274; clear HB; replace BK274 := hp0 BK274; have HB := n1_; have BK275 := n2_; clear n1_ n2_ hp0 hp1 hv; clear hb hbox hg) | ((with_reducible refine gate_dst (N := 4) rfl ?_); refine bE 4 #[.int .i64 0, .int .i64 0] 23 ?_; intro gb276 hg w19 hbox hb; have hp0 := pA BK274 hb; have hv := vK HB hb; have n2_ := Am (bT hv hb); have n3_ := Am (hbox); have GE276 := kG hg hv; have hp1 := pK BK274 hb; obtain ⟨NB274_276, NB276_274⟩ := kXY hg hp1 BK274; obtain ⟨NB275_276, NB276_275⟩ := kXY hg hp1 BK275; clear HB; replace BK274 := hp0 BK274; replace BK275 := hp0 BK275; have HB := n2_; have BK276 := n3_; clear n2_ n3_ hp0 hp1 hv; clear hb hbox hg; have nq20 := kO NB274_275; have nq21 := kO NB274_276; have zq22 := c3 BK274; have nq23 := kO NB275_276; have zq24 := c3 BK275) | ((with_reducible refine gate_callee (f := 5) rfl ?_); refine gL (some 11) Try.func5 #[.agg #[.int .i64 a0_0, .int .i64 a0_1, .int .i64 a0_2], .agg #[.int .i64 a1_0, .int .i64 a1_1, .int .i64 a1_2]] rfl ?_; (with_reducible refine (spec_MeetTimes.calls k a0_0 a0_1 a0_2 a1_0 a1_1 a1_2 t277 false _ A3.out).mono ?_); rintro e w25 ⟨v278, rfl, ho0, hb⟩; refine ⟨_, rfl, ?_⟩; have n0_ := Am (Kd.R_lower (Kd.R_newB ho0 (g := gb276) (o := .cells #[.int .i64 0, .int .i64 0] 23 (0, 0)) (kU BK276)) (bZ (by repeat (first | (with_reducible first | exact HB.out | apply bA | apply bN | apply bD | refine bX ?_ (by assumption)) | exact HB.out)))); have hp0 := pA BK274 hb; have hv := vK HB hb; have n4_ := Am (bT hv hb); clear HB; have HO279 := n0_; replace BK274 := hp0 BK274; replace BK275 := hp0 BK275; replace BK276 := hp0 BK276; have HB := n4_; clear n0_ n4_ hp0 hv; (try clear hb); (try clear ho0); have zq26 := c2 BK276))
  refine bodyPost_ret (results_ct rfl _ _ gb276 23 #[.int .i64 0, .int .i64 0] (0, 0) _ rfl (by (with_reducible repeat (first | refine kN ?_ _ | refine kD ?_ | refine kA ?_ _)); refine kP (cs := #[.int .i64 0, .int .i64 0]) ?_ 1 _ rfl; (with_reducible repeat (first | refine kN ?_ _ | refine kD ?_ | refine kA ?_ _)); refine kP (cs := #[.int .i64 0, .int .i64 0]) ?_ 0 _ rfl; (with_reducible repeat (first | refine kN ?_ _ | refine kD ?_ | refine kA ?_ _)); exact BK276.out) Try.underlying23 rfl (by kernel_rfl)) rfl ?_
  exact ⟨by first | rfl | (simp [errW_none, errW_some] <;> rfl) | (simp [*, errW_none, errW_some] <;> rfl), by repeat (first | (with_reducible first | exact HB.out | apply bA | apply bN | apply bD | refine bX ?_ (by assumption)) | exact HB.out)⟩
/-! ### impl_Turn_plus: function 51 -/
def impl_Turn_plus.f (k : Nat) (a0_0 : Int) (a0_1 : Int) (a1_0 : Int) (a1_1 : Int) : Option (Int × Int) := (impl_part.f k (wrap64 ((wrap64 (a0_0 * a1_1)) + (wrap64 (a1_0 * a0_1)))) (wrap64 (a0_1 * a1_1))).bind fun bt285 => (some (bt285.1, bt285.2))
theorem impl_Turn_plus.mono : ∀ a0 a1 a2 a3 k, LeO (impl_Turn_plus.f k a0 a1 a2 a3) (impl_Turn_plus.f (k + 1) a0 a1 a2 a3) := by
 intro a0 a1 a2 a3 k
 unfold impl_Turn_plus.f
 repeat' first
   | (with_reducible exact impl_part.mono _ _ _)
   | (with_reducible exact LeO.refl _)
   | (with_reducible exact LeO.none _)
   | (with_reducible refine LeO.ite ?_ ?_)
   | (with_reducible refine LeO.bind ?_ (fun _ => ?_))
   | exact impl_part.mono _ _ _
   | exact LeO.none _
   | refine LeO.ite ?_ ?_
   | refine LeO.bind ?_ (fun _ => ?_)
set_option maxHeartbeats 8000000 in
set_option maxRecDepth 100000 in
theorem impl_Turn_plus.calls (k : Nat) (a0_0 : Int) (a0_1 : Int) (a1_0 : Int) (a1_1 : Int) (r1 : Int) (r2 : Int) (w : World) (h : impl_Turn_plus.f k a0_0 a0_1 a1_0 a1_1 = some (r1, r2)) :
  Calls Try.prog 51 #[.agg #[.int .i64 a0_0, .int .i64 a0_1], .agg #[.int .i64 a1_0, .int .i64 a1_1]] w fun e w' => e = .returned (.agg #[.int .i64 r1, .int .i64 r2]) ∧ Below w.heap.size w w' := by
 have hu23 := Try.underlying23
 have HB := Am (Below.refl w.heap.size w)
 have H : ((impl_part.f k (wrap64 ((wrap64 (a0_0 * a1_1)) + (wrap64 (a1_0 * a0_1)))) (wrap64 (a0_1 * a1_1))).bind fun bt285 => (some (bt285.1, bt285.2))) = some (r1, r2) := h
 clear h
 replace H := Option.bind_eq_some_iff.mp H
 obtain ⟨⟨t285, t286⟩, A30, H⟩ := H
 try dsimp only at H
 have A3 := Am A30
 clear A30
 focus
  simp only [Option.some.injEq, Prod.mk.injEq] at H
  obtain ⟨rfl, rfl⟩ := H
  go_enter Try.func51, Try.ntmps51
  go_wp2_with (first | ((with_reducible refine gate_dst (N := 2) rfl ?_); refine bE 2 #[.int .i64 a0_0, .int .i64 a0_1] 23 ?_; intro gb282 hg w4 hbox hb; have hv := vK HB hb; have n0_ := Am (bT hv hb); have n1_ := Am (hbox); have GE282 := kG hg hv; clear HB; have HB := n0_; have BK282 := n1_; clear n0_ n1_ hv; clear hb hbox hg) | ((with_reducible refine gate_dst (N := 3) rfl ?_); refine bE 3 #[.int .i64 a1_0, .int .i64 a1_1] 23 ?_; intro gb283 hg w5 hbox hb; have hp0 := pA BK282 hb; have hv := vK HB hb; have n1_ := Am (bT hv hb); have n2_ := Am (hbox); have GE283 := kG hg hv; have hp1 := pK BK282 hb; obtain ⟨NB282_283, NB283_282⟩ := kXY hg hp1 BK282; clear HB; replace BK282 := hp0 BK282; have HB := n1_; have BK283 := n2_; clear n1_ n2_ hp0 hp1 hv; clear hb hbox hg) | ((with_reducible refine gate_dst (N := 4) rfl ?_); refine bE 4 #[.int .i64 0, .int .i64 0] 23 ?_; intro gb284 hg w6 hbox hb; have hp0 := pA BK282 hb; have hv := vK HB hb; have n2_ := Am (bT hv hb); have n3_ := Am (hbox); have GE284 := kG hg hv; have hp1 := pK BK282 hb; obtain ⟨NB282_284, NB284_282⟩ := kXY hg hp1 BK282; obtain ⟨NB283_284, NB284_283⟩ := kXY hg hp1 BK283; clear HB; replace BK282 := hp0 BK282; replace BK283 := hp0 BK283; have HB := n2_; have BK284 := n3_; clear n2_ n3_ hp0 hp1 hv; clear hb hbox hg; have nq7 := kO NB282_283; have nq8 := kO NB282_284; have zq9 := c2 BK282; have nq10 := kO NB283_284; have zq11 := c2 BK283) | ((with_reducible refine gate_callee (f := 69) rfl ?_); refine gL (some 21) Try.func69 #[.int .i64 (wrap64 ((wrap64 (a0_0 * a1_1)) + (wrap64 (a1_0 * a0_1)))), .int .i64 (wrap64 (a0_1 * a1_1))] rfl ?_; (with_reducible refine (impl_part.calls k (wrap64 ((wrap64 (a0_0 * a1_1)) + (wrap64 (a1_0 * a0_1)))) (wrap64 (a0_1 * a1_1)) t285 t286 _ A3.out).mono ?_); rintro e w12 ⟨rfl, hb⟩; refine ⟨_, rfl, ?_⟩; have hp0 := pA BK282 hb; have hv := vK HB hb; have n3_ := Am (bT hv hb); clear HB; replace BK282 := hp0 BK282; replace BK283 := hp0 BK283; replace BK284 := hp0 BK284; have HB := n3_; clear n3_ hp0 hv; (try clear hb); have zq13 := c2 BK284))
  refine bodyPost_ret (results_cell_row rfl _ _ gb284 23 #[.int .i64 t285, .int .i64 t286] (0, 0) _ rfl (by (with_reducible repeat (first | refine kN ?_ _ | refine kD ?_ | refine kA ?_ _)); refine kP (cs := #[.int .i64 t285, .int .i64 0]) ?_ 1 _ rfl; (with_reducible repeat (first | refine kN ?_ _ | refine kD ?_ | refine kA ?_ _)); refine kP (cs := #[.int .i64 0, .int .i64 0]) ?_ 0 _ rfl; (with_reducible repeat (first | refine kN ?_ _ | refine kD ?_ | refine kA ?_ _)); exact BK284.out) Try.underlying23 rfl (by kernel_rfl)) rfl ?_
  exact ⟨by first | rfl | (simp [errW_none, errW_some] <;> rfl) | (simp [*, errW_none, errW_some] <;> rfl), by repeat (first | (with_reducible first | exact HB.out | apply bA | apply bN | apply bD | refine bX ?_ (by assumption)) | exact HB.out)⟩
/-! ### impl_Hand_at: function 27 -/
def impl_Hand_at.f (k : Nat) (a0_0 : Int) (a0_1 : Int) (a0_2 : Int) (a1_0 : Int) (a1_1 : Int) : Option (Int × Int) := (impl_Turn_times.f k a1_0 a1_1 a0_2).bind fun bt290 => ((impl_Turn_plus.f k a0_0 a0_1 bt290.1 bt290.2).bind fun bt292 => (some (bt292.1, bt292.2)))
theorem impl_Hand_at.mono : ∀ a0 a1 a2 a3 a4 k, LeO (impl_Hand_at.f k a0 a1 a2 a3 a4) (impl_Hand_at.f (k + 1) a0 a1 a2 a3 a4) := by
 intro a0 a1 a2 a3 a4 k
 unfold impl_Hand_at.f
 repeat' first
   | (with_reducible exact impl_Turn_plus.mono _ _ _ _ _)
   | (with_reducible exact impl_Turn_times.mono _ _ _ _)
   | (with_reducible exact LeO.refl _)
   | (with_reducible exact LeO.none _)
   | (with_reducible refine LeO.ite ?_ ?_)
   | (with_reducible refine LeO.bind ?_ (fun _ => ?_))
   | exact impl_Turn_plus.mono _ _ _ _ _
   | exact impl_Turn_times.mono _ _ _ _
   | exact LeO.none _
   | refine LeO.ite ?_ ?_
   | refine LeO.bind ?_ (fun _ => ?_)
def impl_Hand_at.T1 : Bool × List (List Nat × List Nat) := (true, [([], []), ([0], [0]), ([], []), ([], []), ([3], [3]), ([2, 4], [2, 4]), ([1, 5, 5], [1, 5]), ([6, 6, 0, 1, 2, 3, 4, 5, 6], [6])])
def impl_Hand_at.B1 : List Nat := [0, 1, 0, 0, 8, 28, 63, 127]
theorem impl_Hand_at.tab1 : rtab .any (opsOf Try.f27 1) = impl_Hand_at.T1 := by kernel_rfl
theorem impl_Hand_at.bits1 : waitsOk impl_Hand_at.T1.2 impl_Hand_at.B1 = true := by kernel_rfl
set_option maxHeartbeats 8000000 in
set_option maxRecDepth 100000 in
theorem impl_Hand_at.calls (k : Nat) (a0_0 : Int) (a0_1 : Int) (a0_2 : Int) (a1_0 : Int) (a1_1 : Int) (r1 : Int) (r2 : Int) (w : World) (h : impl_Hand_at.f k a0_0 a0_1 a0_2 a1_0 a1_1 = some (r1, r2)) :
  Calls Try.prog 27 #[.agg #[.int .i64 a0_0, .int .i64 a0_1, .int .i64 a0_2], .agg #[.int .i64 a1_0, .int .i64 a1_1]] w fun e w' => e = .returned (.agg #[.int .i64 r1, .int .i64 r2]) ∧ Below w.heap.size w w' := by
 have hu25 := Try.underlying25; have hu23 := Try.underlying23
 have HB := Am (Below.refl w.heap.size w)
 have H : ((impl_Turn_times.f k a1_0 a1_1 a0_2).bind fun bt290 => ((impl_Turn_plus.f k a0_0 a0_1 bt290.1 bt290.2).bind fun bt292 => (some (bt292.1, bt292.2)))) = some (r1, r2) := h
 clear h
 replace H := Option.bind_eq_some_iff.mp H
 obtain ⟨⟨t290, t291⟩, A30, H⟩ := H
 try dsimp only at H
 have A3 := Am A30
 clear A30
 replace H := Option.bind_eq_some_iff.mp H
 obtain ⟨⟨t292, t293⟩, A40, H⟩ := H
 try dsimp only at H
 have A4 := Am A40
 clear A40
 focus
  simp only [Option.some.injEq, Prod.mk.injEq] at H
  obtain ⟨rfl, rfl⟩ := H
  go_enter Try.func27, Try.ntmps27
  try go_wp2_with (first | ((with_reducible refine gate_dst (N := 2) rfl ?_); refine bE 2 #[.int .i64 a0_0, .int .i64 a0_1, .int .i64 a0_2] 25 ?_; intro gb287 hg w5 hbox hb; have hv := vK HB hb; have n0_ := Am (bT hv hb); have n1_ := Am (hbox); have GE287 := kG hg hv; clear HB; have HB := n0_; have BK287 := n1_; clear n0_ n1_ hv; clear hb hbox hg) | ((with_reducible refine gate_dst (N := 3) rfl ?_); refine bE 3 #[.int .i64 a1_0, .int .i64 a1_1] 23 ?_; intro gb288 hg w6 hbox hb; have hp0 := pA BK287 hb; have hv := vK HB hb; have n1_ := Am (bT hv hb); have n2_ := Am (hbox); have GE288 := kG hg hv; have hp1 := pK BK287 hb; obtain ⟨NB287_288, NB288_287⟩ := kXY hg hp1 BK287; clear HB; replace BK287 := hp0 BK287; have HB := n1_; have BK288 := n2_; clear n1_ n2_ hp0 hp1 hv; clear hb hbox hg) | ((with_reducible refine gate_dst (N := 4) rfl ?_); refine bE 4 #[.int .i64 0, .int .i64 0] 23 ?_; intro gb289 hg w7 hbox hb; have hp0 := pA BK287 hb; have hv := vK HB hb; have n2_ := Am (bT hv hb); have n3_ := Am (hbox); have GE289 := kG hg hv; have hp1 := pK BK287 hb; obtain ⟨NB287_289, NB289_287⟩ := kXY hg hp1 BK287; obtain ⟨NB288_289, NB289_288⟩ := kXY hg hp1 BK288; clear HB; replace BK287 := hp0 BK287; replace BK288 := hp0 BK288; have HB := n2_; have BK289 := n3_; clear n2_ n3_ hp0 hp1 hv; clear hb hbox hg))
  have n0_ := Am (kD BK287.out)
  have n1_ := Am (kD BK288.out)
  have n2_ := Am (kD BK289.out)
  have n3_ := Am (bD HB.out)
  clear BK287 BK288 BK289 HB
  have BK287 := n0_; have BK288 := n1_; have BK289 := n2_; have HB := n3_
  clear n0_ n1_ n2_ n3_
  refine start_ (n := 8) (S := fun w' => w'.cell? ⟨gb287, 0, none⟩ = some (.int .i64 a0_0) ∧ w'.cell? ⟨gb287, 1, none⟩ = some (.int .i64 a0_1) ∧ w'.cell? ⟨gb287, 2, none⟩ = some (.int .i64 a0_2) ∧ w'.cell? ⟨gb288, 0, none⟩ = some (.int .i64 a1_0) ∧ w'.cell? ⟨gb288, 1, none⟩ = some (.int .i64 a1_1)) (ds := []) (pT 8 0) (by kernel_rfl) rfl rfl ⟨c30 BK287.out, c31 BK287.out, c32 BK287.out, c20 BK288.out, c21 BK288.out⟩ (fun hHeld => ?_); refine with_tabW impl_Hand_at.tab1 impl_Hand_at.bits1 (fun HT_ HW_ => ?_)
  generalize w7.drew = w8 at BK287 BK288 BK289 HB hHeld ⊢
  refine pI (v := ?_) (a' := ?_) rfl (any_of HT_.out (by kernel_rfl)) (fun _ _ _ h => h) (Or.inl ⟨by rfl, ?_⟩) ?_ ?_
  rotate_left
  ·intro w'
   go_simp
   with_reducible rfl
  rotate_left
  ·show Act.put _ (some _) _ = _
   simp only [Act.put, List.setIfInBounds_toArray, List.set_cons_zero, List.set_cons_succ, i64_w, i32_w]
   rfl
  refine pure_ (i := 3) (N := some 8) (v := ?_) (a' := ?_) #[true, false, false, true, false, false, false, false] rfl rfl (any_of HT_.out (by kernel_rfl)) (fun _ _ _ h => h) (Or.inl ⟨by rfl, ?_⟩) ?_ ?_
  rotate_left
  ·intro w'
   go_simp
   with_reducible rfl
  rotate_left
  ·simp only [Act.put, List.setIfInBounds_toArray, List.set_cons_zero, List.set_cons_succ, i64_w, i32_w]
   rfl
  refine take_ (i := 1) (N := some 6) (v := ?_) (a' := ?_) #[true, true, false, true, false, false, false, false] rfl rfl (take_ofW HT_.out HW_.out (by kernel_rfl)) (fun _ _ _ h => h) (Or.inl ⟨by rfl, ?_⟩) hHeld ?_ ?_
  rotate_left
  ·rintro w' ⟨s0, s1, s2, s3, s4⟩
   go_simp
   with_reducible rfl
  rotate_left
  ·simp only [Act.put, List.setIfInBounds_toArray, List.set_cons_zero, List.set_cons_succ, i64_w, i32_w]
   rfl
  refine take_ (i := 2) (N := some 7) (v := ?_) (a' := ?_) (pT 8 4) rfl rfl (take_ofW HT_.out HW_.out (by kernel_rfl)) (fun _ _ _ h => h) (Or.inl ⟨by rfl, ?_⟩) hHeld ?_ ?_
  rotate_left
  ·rintro w' ⟨s0, s1, s2, s3, s4⟩
   go_simp
   with_reducible rfl
  rotate_left
  ·simp only [Act.put, List.setIfInBounds_toArray, List.set_cons_zero, List.set_cons_succ, i64_w, i32_w]
   rfl
  refine tI (v := ?_) (a' := ?_) rfl (take_ofW HT_.out HW_.out (by kernel_rfl)) (fun _ _ _ h => h) (Or.inl ⟨by rfl, ?_⟩) hHeld ?_ ?_
  rotate_left
  ·rintro w' ⟨s0, s1, s2, s3, s4⟩
   go_simp
   with_reducible rfl
  rotate_left
  ·show Act.put _ (some _) _ = _
   simp only [Act.put, List.setIfInBounds_toArray, List.set_cons_zero, List.set_cons_succ, i64_w, i32_w]
   rfl
  refine one_ (i := 5) (N := some 10) (pT 8 6) rfl rfl (one_of HT_.out (by kernel_rfl)) (by decide) (fun K hK => ?_)
  refine goes_ Try.func52 (by kernel_rfl) rfl #[.agg #[.int .i64 a1_0, .int .i64 a1_1], .int .i64 a0_2] (by rfl) rfl rfl (by (try simp only [List.map_toArray, List.map_cons, List.map_nil]); first | done | rfl | (simp only [List.length_drop, List.length_take]; rfl)) ?_
  with_reducible refine (impl_Turn_times.calls k a1_0 a1_1 a0_2 t290 t291 _ A3.out).mono ?_
  rintro e w9 ⟨rfl, hb⟩
  refine ⟨_, rfl, ?_⟩
  have hp0 := pA BK287 hb
  have hv := vK HB hb
  have n3_ := Am (bT hv hb)
  clear HB
  replace BK287 := hp0 BK287; replace BK288 := hp0 BK288; replace BK289 := hp0 BK289
  have HB := n3_
  clear n3_ hp0 hv
  (try clear hb)
  refine hK.out _ _ ⟨c30 BK287.out, c31 BK287.out, c32 BK287.out, c20 BK288.out, c21 BK288.out⟩ (fun hHeld => ?_)
  clear hK K
  refine norm_ (a' := ?_) ?_ ?_
  rotate_left
  ·show Act.put _ (some 10) _ = _
   simp only [Act.put, List.setIfInBounds_toArray, List.set_cons_zero, List.set_cons_succ, i64_w, i32_w]
   rfl
  refine one_ (i := 6) (N := some 11) (pT 8 7) rfl rfl (one_of HT_.out (by kernel_rfl)) (by decide) (fun K hK => ?_)
  refine goes_ Try.func51 (by kernel_rfl) rfl #[.agg #[.int .i64 a0_0, .int .i64 a0_1], .agg #[.int .i64 t290, .int .i64 t291]] (by rfl) rfl rfl (by (try simp only [List.map_toArray, List.map_cons, List.map_nil]); first | done | rfl | (simp only [List.length_drop, List.length_take]; rfl)) ?_
  with_reducible refine (impl_Turn_plus.calls k a0_0 a0_1 t290 t291 t292 t293 _ A4.out).mono ?_
  rintro e w10 ⟨rfl, hb⟩
  refine ⟨_, rfl, ?_⟩
  have hp0 := pA BK287 hb
  have hv := vK HB hb
  have n3_ := Am (bT hv hb)
  clear HB
  replace BK287 := hp0 BK287; replace BK288 := hp0 BK288; replace BK289 := hp0 BK289
  have HB := n3_
  clear n3_ hp0 hv
  (try clear hb)
  refine hK.out _ _ ⟨c30 BK287.out, c31 BK287.out, c32 BK287.out, c20 BK288.out, c21 BK288.out⟩ (fun hHeld => ?_)
  clear hK K
  refine norm_ (a' := ?_) ?_ ?_
  rotate_left
  ·show Act.put _ (some 11) _ = _
   simp only [Act.put, List.setIfInBounds_toArray, List.set_cons_zero, List.set_cons_succ, i64_w, i32_w]
   rfl
  refine one_ (i := 7) (N := none) (pT 8 8) rfl rfl (one_of HT_.out (by kernel_rfl)) (by decide) (fun K hK => ?_)
  have hs11 : w10.cell? ⟨gb289, 0, none⟩ = some (.int .i64 0) := c20 BK289.out
  have hfs11 := kF BK289.out 0
  have hns11_0 := NB287_289.out; have hns11_1 := NB288_289.out; have hms11_0 := NB289_287.out; have hms11_1 := NB289_288.out
  have hs12 : w10.cell? ⟨gb289, 1, none⟩ = some (.int .i64 0) := c21 BK289.out
  have hfs12 := kF BK289.out 1
  have hns12_0 := NB287_289.out; have hns12_1 := NB288_289.out; have hms12_0 := NB289_287.out; have hms12_1 := NB289_288.out
  refine skip_ (w1 := ?_) (by rfl) rfl ?_ ?_
  rotate_left
  ·go_simp
   rfl
  refine hK.out _ _ ⟨((cell_far (p := ⟨gb289, _, none⟩) NB287_289.out _).trans (((cell_far (p := ⟨gb289, _, none⟩) NB287_289.out _).trans (hHeld.1)))), ((cell_far (p := ⟨gb289, _, none⟩) NB287_289.out _).trans (((cell_far (p := ⟨gb289, _, none⟩) NB287_289.out _).trans (hHeld.2.1)))), ((cell_far (p := ⟨gb289, _, none⟩) NB287_289.out _).trans (((cell_far (p := ⟨gb289, _, none⟩) NB287_289.out _).trans (hHeld.2.2.1)))), ((cell_far (p := ⟨gb289, _, none⟩) NB288_289.out _).trans (((cell_far (p := ⟨gb289, _, none⟩) NB288_289.out _).trans (hHeld.2.2.2.1)))), ((cell_far (p := ⟨gb289, _, none⟩) NB288_289.out _).trans (((cell_far (p := ⟨gb289, _, none⟩) NB288_289.out _).trans (hHeld.2.2.2.2))))⟩ (fun hHeld => ?_)
  clear hK K
  refine done_ (done_of HT_.out (by kernel_rfl)) ?_
  try go_wp2
  refine bodyPost_ret (results_cell_row rfl _ _ gb289 23 #[.int .i64 t292, .int .i64 t293] (0, 0) _ rfl (by (with_reducible repeat (first | refine kN ?_ _ | refine kD ?_ | refine kA ?_ _)); refine kP (cs := #[.int .i64 t292, .int .i64 0]) ?_ 1 _ rfl; (with_reducible repeat (first | refine kN ?_ _ | refine kD ?_ | refine kA ?_ _)); refine kP (cs := #[.int .i64 0, .int .i64 0]) ?_ 0 _ rfl; (with_reducible repeat (first | refine kN ?_ _ | refine kD ?_ | refine kA ?_ _)); exact BK289.out) Try.underlying23 rfl (by kernel_rfl)) rfl ?_
  exact ⟨by first | rfl | (simp [errW_none, errW_some] <;> rfl) | (simp [*, errW_none, errW_some] <;> rfl), by repeat (first | (with_reducible first | exact HB.out | apply bA | apply bN | apply bD | refine bX ?_ (by assumption)) | exact HB.out)⟩
/-! ### impl_sorted_clone: function 55 -/
def impl_sorted_clone.f (l0 : List (S23)) : Option ((List (S23))) := if l0.length = 0 then none else (some (([] : List (S23)) : List (S23))).bind fun y294 => (if y294.length + l0.length < 8796093022208 then (some (y294 ++ l0)) else (none))
set_option maxHeartbeats 8000000 in
set_option maxRecDepth 100000 in
theorem impl_sorted_clone.calls (A0 : Option Addr) (c0 : Nat) (l0 : List (S23)) (r : List (S23)) (w : World) (hr0 : Kd.C k23 w A0 l0.length l0) (hc0 : l0.length ≤ c0) (h : impl_sorted_clone.f l0 = some r) :
  Calls Try.prog 55 #[.slice A0 l0.length c0] w fun e w' => ∃ v0_ : Value, e = .returned (v0_) ∧ Kd.R k23 23 w' w.heap.size (fun _ => True) v0_ r ∧ Below w.heap.size w w' := by
 have hn_ : l0.length ≠ 0 := fun e_ => by unfold impl_sorted_clone.f at h; rw [if_pos e_] at h; cases h
 replace h : ((some (([] : List (S23)) : List (S23))).bind fun y294 => (if y294.length + l0.length < 8796093022208 then (some (y294 ++ l0)) else (none))) = some r := by unfold impl_sorted_clone.f at h; rw [if_neg hn_] at h; exact h
 obtain ⟨ad0_, rfl⟩ : ∃ a_, A0 = some a_ := ⟨_, (hr0.2.2 (by omega)).choose_spec.1⟩
 have heq0_ : ∀ w_, (binOp .eql 26 (.slice (some ad0_) l0.length c0) (.slice none 0 0)).run Try.prog w_ = .ok (.bool false) w_ := fun w_ => Go.Lib.run_eql_slice_nil w_ 26 23 (some ad0_) l0.length c0 0 0 Try.underlying26
 clear hn_
 have HR0 := Am hr0
 have HC0 := Am hc0
 clear hr0 hc0
 have HB := Am (Below.refl w.heap.size w)
 have H : ((some (([] : List (S23)) : List (S23))).bind fun y294 => (if y294.length + l0.length < 8796093022208 then (some (y294 ++ l0)) else (none))) = some r := h
 clear h
 obtain ⟨y294, hy294⟩ : ∃ y_ : List (S23), y_ = (([] : List (S23))) := ⟨_, rfl⟩
 replace H : (if y294.length + l0.length < 8796093022208 then (some (y294 ++ l0)) else (none)) = some r := by first | (rw [hy294]; with_reducible exact H) | (have H2_ := (Option.bind_some _ _).symm.trans H; rw [hy294]; with_reducible exact H2_) | (have H2_ := (Option.bind_some _ _).symm.trans H; with_reducible exact H2_) | with_reducible exact H | (rw [hy294]; exact H) | exact H
 have Ny294 := Am hy294
 clear hy294
 by_cases c2 : y294.length + l0.length < 8796093022208
 ·rw [if_pos c2] at H
  have LMc2 := Am c2
  clear c2
  obtain ⟨y297, hy297⟩ : ∃ y_ : List (S23), y_ = (y294 ++ l0) := ⟨_, rfl⟩
  replace H : (some y297) = some r := by first | (rw [hy297]; with_reducible exact H) | (have H2_ := (Option.bind_some _ _).symm.trans H; rw [hy297]; with_reducible exact H2_) | (have H2_ := (Option.bind_some _ _).symm.trans H; with_reducible exact H2_) | with_reducible exact H | (rw [hy297]; exact H) | exact H
  have Ny297 := Am hy297
  clear hy297
  focus
   obtain rfl := Option.some.inj H
   go_enter Try.func55, Try.ntmps55
   go_wp2_with (first | ((with_reducible refine gate_dst (N := 5) rfl ?_); refine Kd.R_lit k23 _ 23 ?hg (N := 5) ?hd (xs := ([] : List (S23))) (inner := []) (ok := fun _ => True) (okp := fun _ => True) ?hr ?hp (fun _ hk => hk) trivial (Below.refl _ _) (Nat.le_refl _) (by simp) ?_; (case hd => rfl); (case hg => rfl); (case hr => first | (go_simp; done) | (go_simp; rfl)); (case hp => exact (Reps.none _ _)); intro v295 w3 ho4 hb hg_ hnew_; clear hg_ hnew_; (first | rw [← Ny294.out] at ho4 | (simp only [Int.reduceToNat] at ho4; rw [← Ny294.out] at ho4)); have n0_ := Am (Kd.R_lower ho4 (bZ (by repeat (first | (with_reducible first | exact HB.out | apply bA | apply bN | apply bD) | exact HB.out)))); have hv := vK HB hb; have n1_ := Am (bT hv hb); clear HB; have HO296 := n0_; have HB := n1_; clear n0_ n1_ hv; clear hb ho4) | ((with_reducible refine gate_builtin (b := .append) (xs := #[.tmp 5, .tmp 6]) rfl ?_); at_builtin; refine Kd.R_append_rows k23 (w0 := w) w.heap.size rfl (.tmp 5) (.tmp 6) 26 23 (.agg #[(.int .i64 0), (.int .i64 0)]) 16 rfl Try.underlying26 info23 rfl (by decide) (by omega) v295 y294 l0 _ _ _ (fun _ => True) (fun _ => False) rfl rfl ?aO ?aR (fun _ _ h => h) (fun _ h => h.elim) ?aF ?aB ?aS ?aL ?_; (case aR => repeat (first | exact (Kd.C_below HR0.out HB.out) | (with_reducible refine Kd.C_alloc ?_ _) | (with_reducible refine Kd.C_drewN ?_ _) | (with_reducible refine Kd.C_drew ?_))); (case aB => exact (by repeat (first | (with_reducible first | exact HB.out | apply bA | apply bN | apply bD) | exact HB.out))); (case aF => exact (fun _ _ => trivial)); (case aO => exact (kW HO296)); (case aS => exact (bZ (by repeat (first | (with_reducible first | exact HB.out | apply bA | apply bN | apply bD) | exact HB.out)))); (case aL => have := LMc2.out; omega); intro v298 w5 ho hb hg hat; rw [← Ny297.out] at ho; have n0_ := Am (hb); have n1_ := Am (ho); clear HB; clear HO296; have HB := n0_; have HO299 := n1_; clear n0_ n1_; clear ho hb hg hat))
   go_ret
   exact ⟨_, by first | rfl | (simp [errW_none, errW_some] <;> rfl) | (simp [*, errW_none, errW_some] <;> rfl), by (with_reducible repeat (first | apply Kd.R_alloc | apply Kd.R_drewN | apply Kd.R_drew)); exact HO299.out, by repeat (first | (with_reducible first | exact HB.out | apply bA | apply bN | apply bD) | exact HB.out)⟩
 rw [if_neg c2] at H
 exact absurd H (by simp)
-- NOT PRINTED: function 74 (impl_Turn_74)

-- NOT PRINTED: function 84 (impl_Turn_84)

-- NOT PRINTED: function 75 (impl_Turn_75)

-- NOT PRINTED: function 82 (bits_Len32)

-- NOT PRINTED: function 83 (bits_Len64)

-- NOT PRINTED: function 71 (bits_Len)

-- NOT PRINTED: function 85 (slices_nextPowerOfTwo)

-- NOT PRINTED: function 86 (slices_xorshift_Next)

-- NOT PRINTED: function 76 (impl_Turn_76)

-- NOT PRINTED: function 89 (impl_Turn_89)

-- NOT PRINTED: function 88 (impl_Turn_88)

-- NOT PRINTED: function 87 (impl_Turn_87)

-- NOT PRINTED: function 77 (impl_Turn_77)

-- NOT PRINTED: function 78 (impl_Turn_78)

-- NOT PRINTED: function 79 (impl_Turn_79)

-- NOT PRINTED: function 80 (impl_Turn_80)

-- NOT PRINTED: function 81 (impl_Turn_81)

-- NOT PRINTED: function 70 (impl_Turn_70)

-- NOT PRINTED: function 56 (impl_Turn_56)

open Kd in
theorem R_beyond {α : Type} {d : Kd α} {e g m cap base : Nat} {W : World} {ok : Nat → Prop} {xs : List α} (h : d.R e W base ok (.slice (some ⟨g, 0, none⟩) m cap) xs) (o : Nat) (seg : List Value) (h0 : m * d.sz ≤ o) (h1 : o + seg.length ≤ cap * d.sz) :
  d.R e (W.setCells g o seg) base ok (.slice (some ⟨g, 0, none⟩) m cap) xs ∧ W.grownBy (W.setCells g o seg) (some g) := by
 obtain ⟨hn, hnc, _⟩ := R_reads' h
 obtain ⟨hok, inner, ho, hr⟩ := h
 obtain ⟨ho1, ho2⟩ := ho
 rcases ho2 with ⟨hv, _⟩ | ⟨g', cap', cur, hv, hb, hh, hnc', hcm, hcs, ht⟩
 ·cases hv
 injection hv with ha _ hc
 injection ha with ha
 injection ha with hg
 subst hg; subst hc
 have hfit : o + seg.length ≤ cur.size := by omega
 obtain ⟨cur', h3, h4, h5⟩ := setCells_row seg o W cur hh hfit
 obtain ⟨s1, s2, s3, s4⟩ := setCells_same g seg o W
 have hfar : ∀ k, k ≠ g → (W.setCells g o seg).heap[k]? = W.heap[k]? := fun k hk => setCells_far seg _ k hk
 refine ⟨⟨hok, inner, ⟨ho1, .inr ⟨g, cap, cur', by rw [hn], hb, h3, hnc', hcm, by rw [h4, hcs], ?_⟩⟩, ?_⟩, ⟨s1, s2, s3, by rw [s4]; exact Nat.le_refl _, fun k _ hk => hfar k (fun he => hk (by rw [he]))⟩⟩
 ·rw [← ht, h5]
  apply List.ext_getElem?
  intro q
  rw [List.getElem?_take, List.getElem?_take, seg_get cur.toList seg o (by rw [Array.length_toList]; omega) q]
  by_cases hq : q < xs.length * d.sz
  ·rw [if_pos hq, if_pos hq]; rw [hn] at h0; rw [if_pos (by omega)]
  ·rw [if_neg hq, if_neg hq]
 ·exact hr.imp_ (fun p c hp => d.M_move (fun k hk => hfar k (fun he => hk.2 (by rw [he]; rfl))) hp)
theorem run_clear2 {P : Program} (w : World) (t e ty : TypeId) (z0 : Value) (ht : P.underlying t = some (.slice e)) (hv : ∀ w, (zeroValue e).run P w = .ok (.agg #[z0, z0]) w) (hz : (Value.agg #[z0, z0]).cells = #[z0, z0]) (h1 : z0.oneCell' = true) (b o n c : Nat) (hn : 0 < n)
  (hc : ∀ j, j < n * 2 → (w.cell? ⟨b, o + j, none⟩).isSome = true) (hf : ∀ j, j < n * 2 → w.frozen? ⟨b, o + j, none⟩ = false) :
  (Builtin.clear_ #[t] ty #[.slice (some ⟨b, o, none⟩) n c]).run P w = .ok (.tuple #[]) (w.setCells b o (List.replicate (n * 2) z0)) := by
 have hzc : (Builtin.zeroCells (Value.agg #[z0, z0]).cells n).toList = List.replicate (n * 2) z0 := by
  rw [hz]
  simp [Builtin.zeroCells]
  apply List.ext_getElem
  ·simp
  ·intro i h1 h2
   have : i % 2 = 0 ∨ i % 2 = 1 := by omega
   rcases this with h | h <;> simp [h]
 have hst := run_storeCells_cells (P := P) b o (List.replicate (n * 2) z0) 0 w (by simpa using hc) (by simpa using hf) (by intro v hv'; rw [List.eq_of_mem_replicate hv']; exact h1)
 simp only [Nat.add_zero] at hst
 obtain ⟨m, rfl⟩ : ∃ m, n = m + 1 := ⟨n - 1, by omega⟩
 simp [Builtin.clear_, run_underlying ht, hv, hzc, hst]
def cpEq (a b : S23) : Bool := (a.f0 == b.f0 && a.f1 == b.f1)
/-- what is left of the first j elements, each that is as the one ahead of it left out -/
def cpN (l : List S23) : Nat → List S23
 | 0 => []
 | j + 1 => if (decide (0 < j) && cpEq (l.getD j z23) (l.getD (j - 1) z23)) = true then cpN l j else cpN l j ++ [l.getD j z23]
-- END OF PURE
/-! ### impl_sorted_compact: function 57 -/
def impl_sorted_compact.f (l0 : List S23) : Option (List S23) := if l0.length < 4611686018427387904 then some (cpN l0 l0.length) else none
theorem cp_take (l : List S23) (j : Nat) (hj : j < l.length) : l.take (j + 1) = l.take j ++ [l.getD j z23] := by
 rw [List.take_add_one, List.getElem?_eq_getElem hj, List.getD_eq_getElem?_getD, List.getElem?_eq_getElem hj]; rfl
theorem cp_one (l : List S23) (hl : 0 < l.length) : cpN l 1 = l.take 1 := by
 have := cp_take l 0 hl
 simp only [cpN]
 rw [if_neg (by simp)]
 simpa using this.symm
theorem cp_go {l : List S23} {j : Nat} (hj : 0 < j) (hlt : j < l.length) (h : cpN l j = l.take j) (hne : cpEq (l.getD j z23) (l.getD (j - 1) z23) = false) : cpN l (j + 1) = l.take (j + 1) := by
 rw [cp_take l j hlt, ← h]
 simp only [cpN]
 rw [hne, Bool.and_false, if_neg (by decide)]
theorem cp_eq {l : List S23} {j : Nat} (hj : 0 < j) (he : cpEq (l.getD j z23) (l.getD (j - 1) z23) = true) : cpN l (j + 1) = cpN l j := by
 simp only [cpN]
 rw [he, Bool.and_true, if_pos (decide_eq_true hj)]
theorem cp_ne {l : List S23} {j : Nat} (he : cpEq (l.getD j z23) (l.getD (j - 1) z23) = false) : cpN l (j + 1) = cpN l j ++ [l.getD j z23] := by
 simp only [cpN]
 rw [he, Bool.and_false, if_neg (by decide)]
theorem cp_rd (l : List S23) (j : Nat) : rd_T23 l (j : Int) = l.getD j z23 := by unfold rd_T23; rw [Int.toNat_natCast]
theorem cp_same {l x : List S23} {i j : Nat} (h : x.drop i = l.drop i) (hij : i ≤ j) : x.getD j z23 = l.getD j z23 := by
 have := congrArg (fun q => q[j - i]?) h
 simp only [List.getElem?_drop, show i + (j - i) = j by omega] at this
 rw [List.getD_eq_getElem?_getD, List.getD_eq_getElem?_getD, this]
theorem cp_set {l x : List S23} {i j : Nat} {y : S23} (hx : x.length = l.length) (hj : j < l.length) (hij : i < j) (h1 : x.take i = cpN l j) (h2 : x.drop (j - 1) = l.drop (j - 1)) (hy : y = l.getD j z23) (he : cpEq (l.getD j z23) (l.getD (j - 1) z23) = false) : (x.set i y).take (i + 1) = cpN l (j + 1) ∧ (x.set i y).drop j = l.drop j := by
 constructor
 ·rw [cp_ne he, ← h1, List.take_add_one, List.getElem?_set_self (by omega), List.take_set_of_le (Nat.le_refl i), hy]; rfl
 ·rw [List.drop_set_of_lt (by omega)]
  have := congrArg (fun q => q.drop 1) h2
  simpa only [List.drop_drop, show j - 1 + 1 = j by omega] using this
theorem cp_skip {l x : List S23} {i j : Nat} (hj : 0 < j) (h1 : x.take i = cpN l j) (h2 : x.drop (j - 1) = l.drop (j - 1)) (he : cpEq (l.getD j z23) (l.getD (j - 1) z23) = true) : x.take i = cpN l (j + 1) ∧ x.drop j = l.drop j := by
 constructor
 ·rw [cp_eq hj he, h1]
 ·have := congrArg (fun q => q.drop 1) h2
  simpa only [List.drop_drop, show j - 1 + 1 = j by omega] using this
theorem cp_add (g n : Nat) : (⟨g, 0, none⟩ : Addr).add n = ⟨g, n, none⟩ := by unfold Addr.add; split <;> simp_all
theorem cp_addo (g o n : Nat) : (⟨g, o, none⟩ : Addr).add n = ⟨g, o + n, none⟩ := by unfold Addr.add; split <;> simp_all
theorem cp_frozen {W : World} {base n c g : Nat} {ok : Nat → Prop} {x : List S23} (h : Kd.R k23 23 W base ok (.slice (some ⟨g, 0, none⟩) n c) x) (o : Nat) : W.frozen? ⟨g, o, none⟩ = false := by
 obtain ⟨inner, ho⟩ := Kd.R_own h
 obtain ⟨cs, hcs⟩ := own_typed ho g rfl
 exact kF hcs o
/-- element j of a row, in its block -/
theorem cp_at {W : World} {n c g : Nat} {x : List S23} (h : Kd.C k23 W (some ⟨g, 0, none⟩) n x) (j : Nat) (hj : j < n) : W.cell? ⟨g, j * 2, none⟩ = some (.int .i64 (x.getD j z23).f0) ∧ W.cell? ⟨g, j * 2 + 1, none⟩ = some (.int .i64 (x.getD j z23).f1) := by
 obtain ⟨ad, ea, h0, h1⟩ := at_T23 h (j : Int) (by omega) (by omega)
 obtain rfl := Option.some.inj ea
 rw [Int.toNat_natCast, cp_add, cp_rd] at h0 h1
 exact ⟨h0, h1⟩
/-- element j behind place o of a row, as a cut's own address tells it -/
theorem cp_at2 {W : World} {n c g : Nat} {x : List S23} (h : Kd.C k23 W (some ⟨g, 0, none⟩) n x) (o j : Nat) (hj : o + j < n) : W.cell? ((⟨g, o * 2, none⟩ : Addr).add (j * 2)) = some (.int .i64 (x.getD (o + j) z23).f0) ∧ W.cell? ⟨((⟨g, o * 2, none⟩ : Addr).add (j * 2)).block, ((⟨g, o * 2, none⟩ : Addr).add (j * 2)).off + 1, none⟩ = some (.int .i64 (x.getD (o + j) z23).f1) := by
 obtain ⟨h0, h1⟩ := cp_at (c := c) h (o + j) hj
 rw [cp_addo, show o * 2 + j * 2 = (o + j) * 2 by omega]
 exact ⟨h0, h1⟩
set_option maxHeartbeats 8000000 in
set_option maxRecDepth 100000 in
theorem impl_sorted_compact.calls (P0_ : Nat → Prop) (u9000_ : Value) (l0 : List S23) (r : List S23) (w0 w : World) (hB : Below w0.heap.size w0 w) (ho0 : Kd.R k23 23 w w0.heap.size P0_ u9000_ l0) (h : impl_sorted_compact.f l0 = some r) :
  Calls Try.prog 57 #[u9000_] w fun e w' => ∃ v0_ : Value, e = .returned v0_ ∧ Kd.R k23 23 w' w0.heap.size (fun k_ => (P0_ k_ ∨ w.heap.size ≤ k_)) v0_ r ∧ Below w0.heap.size w0 w' ∧ Kept w w' (fun k_ => P0_ k_) := by
 unfold impl_sorted_compact.f at h
 by_cases hlen : l0.length < 4611686018427387904
 case neg => rw [if_neg hlen] at h; cases h
 rw [if_pos hlen] at h
 obtain rfl := Option.some.inj h
 clear h
 obtain ⟨A, c, eu⟩ := Kd.R_slice ho0
 subst eu
 have hu23 := Try.underlying23
 by_cases hn : l0.length < 2
 ·have hltb : decide ((l0.length : Int) < 2) = true := decide_eq_true (by omega)
  have hltc : decide (l0.length < 2) = true := decide_eq_true (by omega)
  have HO := Am ho0
  have HB0 := Am hB
  have HE : Aside0 (cpN l0 l0.length = l0) := ⟨by
   match l0, hn with
   | [], _ => rfl
   | [x], _ => simp [cpN]⟩
  clear ho0 hB
  go_enter Try.func57, Try.ntmps57
  go_wp2
  go_ret
  rw [HE.out]
  exact ⟨_, rfl, Kd.R_mono HO.out (fun k_ hk => .inl hk), HB0.out, Kept.refl _ _⟩
 have hltb : decide ((l0.length : Int) < 2) = false := decide_eq_false (by omega)
 have hltc : decide (l0.length < 2) = false := decide_eq_false (by omega)
 obtain ⟨ad, cc, eA⟩ := Kd.R_slice1 ho0 (by omega)
 injection eA with eA _ ec
 subst eA ec
 obtain ⟨g, rfl⟩ := Kd.R_head ho0
 have hP := ho0.1 g rfl
 have HG := Am hP
 have HO := Am (Kd.R_tight rfl ho0)
 have HB := Am hB
 have HK := Am (Kept.refl w (fun k_ => P0_ k_))
 have HN := Am hn
 have H1 := Am (cp_one l0 (by omega))
 clear hB ho0 hP
 go_enter Try.func57, Try.ntmps57
 go_wp2
 clear hltb hltc hn
 go_loopg [3] l0.length (fun gg v3 wr => ∃ kk : Nat, v3 = .int .i64 (kk : Int) ∧ 1 ≤ kk ∧ kk ≤ l0.length ∧ l0.length - kk ≤ gg ∧ Aside0 (cpN l0 kk = l0.take kk) ∧ Aside0 (Kd.R k23 23 wr w0.heap.size (fun k_ => some k_ = (Value.slice (some ⟨g, 0, none⟩) l0.length c).ownBlock) (.slice (some ⟨g, 0, none⟩) l0.length c) l0) ∧ Aside0 (Below w0.heap.size w0 wr) ∧ Aside0 (Kept w wr (fun k_ => P0_ k_)))
 case atStart => exact ⟨1, by first | rfl | go_num, by omega, by have := HN.out; omega, by omega, H1, HO, HB, HK⟩
 case round =>
  clear HO HB HK H1
  obtain ⟨kk, rfl, hk1, hk2, hgg, HC, HO, HB, HK⟩ := hrel
  by_cases hlt : kk < l0.length
  ·have hltb : decide ((kk : Int) < (l0.length : Int)) = true := decide_eq_true (by omega)
   have hk0 : decide (0 ≤ (kk : Int)) = true := decide_eq_true (by omega)
   have hw1 : IntKind.i64.wrap ((kk : Int) - 1) = ((kk - 1 : Nat) : Int) := by rw [i64_w]; unfold wrap64; omega
   have hm0 : decide (0 ≤ ((kk - 1 : Nat) : Int)) = true := decide_eq_true (by omega)
   have hmb : decide (((kk - 1 : Nat) : Int) < (l0.length : Int)) = true := decide_eq_true (by omega)
   obtain ⟨ad, ea, hc0, hc1⟩ := at_T23 (Kd.R_reads' HO.out).2.2 (kk : Int) (by omega) (by omega)
   obtain ⟨ad', ea', hd0, hd1⟩ := at_T23 (Kd.R_reads' HO.out).2.2 ((kk - 1 : Nat) : Int) (by omega) (by omega)
   obtain rfl : ad = ad' := Option.some.inj (ea.symm.trans ea')
   clear ea'
   have EA := Am (Option.some.inj ea)
   rw [cp_rd, Int.toNat_natCast] at hc0 hc1 hd0 hd1
   rw [ea]
   clear ea
   obtain ⟨y1, hy1⟩ : ∃ y, y = l0.getD kk z23 := ⟨_, rfl⟩
   obtain ⟨y0, hy0⟩ : ∃ y, y = l0.getD (kk - 1) z23 := ⟨_, rfl⟩
   rw [← hy1] at hc0 hc1
   rw [← hy0] at hd0 hd1
   have HY1 := Am hy1
   have HY0 := Am hy0
   clear hy1 hy0
   cases he : cpEq y1 y0 with
   | false =>
    have HD := Am (cp_go (by omega) hlt HC.out (by rw [← HY1.out, ← HY0.out]; exact he))
    have heb : (y1.f0 == y0.f0 && (y1.f1 == y0.f1)) = false := he
    clear he
    go_wp2
    repeat (go_quiet (fail); try go_wp2)
    have ea2 := EA.out
    subst ea2
    go_roundg (l0.length - (kk + 1))
    case measure => omega
    case rel => exact ⟨kk + 1, by go_num, by omega, by omega, by omega, HD, ⟨kW HO⟩, ⟨by repeat (first | (with_reducible first | exact HB.out | apply bA | apply bN | apply bD) | exact HB.out)⟩, ⟨by repeat (first | (with_reducible first | exact HK.out | apply Kept.alloc | apply Kept.drewN | apply Kept.drew) | exact HK.out)⟩⟩
   | true =>
    have HD := Am (cp_eq (j := kk) (by omega) (by rw [← HY1.out, ← HY0.out]; exact he))
    have heb : (y1.f0 == y0.f0 && (y1.f1 == y0.f1)) = true := he
    clear he
    have hkc : decide ((kk : Int) ≤ (l0.length : Int)) = true := decide_eq_true (by omega)
    have hcc := (Kd.R_reads' HO.out).2.1
    go_upto_region 7 with (fail)
    repeat (go_quiet (fail); try (go_upto_region 7 with (fail)))
    have ea2 := EA.out
    subst ea2
    clear hc0 hc1 hd0 hd1
    go_wp2
    clear heb hltb hk0 hw1 hm0 hmb hkc
    have HC2 := Am (HC.out.symm.trans HD.out.symm)
    clear HC HD HY1 HY0
    go_loopg [3, 5] l0.length (fun gg v3 v5 wr2 => ∃ (i k2 : Nat) (x : List S23), v3 = .int .i64 (i : Int) ∧ v5 = .int .i64 (k2 : Int) ∧ kk + k2 ≤ l0.length ∧ l0.length - (kk + k2) ≤ gg ∧ 1 ≤ k2 ∧ 1 ≤ i ∧ i ≤ kk + k2 - 1 ∧ Aside0 (x.length = l0.length ∧ x.take i = cpN l0 (kk + k2) ∧ x.drop (kk + k2 - 1) = l0.drop (kk + k2 - 1)) ∧ Aside0 (Kd.R k23 23 wr2 w0.heap.size (fun k_ => some k_ = (Value.slice (some ⟨g, 0, none⟩) l0.length c).ownBlock) (.slice (some ⟨g, 0, none⟩) l0.length c) x) ∧ Aside0 (Below w0.heap.size w0 wr2) ∧ Aside0 (Kept w wr2 (fun k_ => P0_ k_)))
    case atStart => exact ⟨kk, 1, l0, by first | rfl | go_num, by first | rfl | go_num, by omega, by omega, by omega, by omega, by omega, ⟨rfl, HC2.out, rfl⟩, ⟨kW HO⟩, ⟨by repeat (first | (with_reducible first | exact HB.out | apply bA | apply bN | apply bD) | exact HB.out)⟩, ⟨by repeat (first | (with_reducible first | exact HK.out | apply Kept.alloc | apply Kept.drewN | apply Kept.drew) | exact HK.out)⟩⟩
    case round =>
     clear HO HB HK HC2
     obtain ⟨i, k2, x, rfl, rfl, hj1, hgg2, hk21, hi1, hi2, HX, HO, HB, HK⟩ := hrel
     by_cases hlt2 : kk + k2 < l0.length
     ·have hltb : decide ((k2 : Int) < ((l0.length - kk : Nat) : Int)) = true := decide_eq_true (by omega)
      have hk0 : decide (0 ≤ (k2 : Int)) = true := decide_eq_true (by omega)
      have hw1 : IntKind.i64.wrap ((k2 : Int) - 1) = ((k2 - 1 : Nat) : Int) := by rw [i64_w]; unfold wrap64; omega
      have hm0 : decide (0 ≤ ((k2 - 1 : Nat) : Int)) = true := decide_eq_true (by omega)
      have hmb : decide (((k2 - 1 : Nat) : Int) < ((l0.length - kk : Nat) : Int)) = true := decide_eq_true (by omega)
      have hi0 : decide (0 ≤ (i : Int)) = true := decide_eq_true (by omega)
      have hib : decide ((i : Int) < (l0.length : Int)) = true := decide_eq_true (by omega)
      have hxl := HX.out.1
      have hRC := (Kd.R_reads' HO.out).2.2
      rw [hxl] at hRC
      obtain ⟨hc0, hc1⟩ := cp_at2 (c := c) hRC kk k2 (by omega)
      obtain ⟨hd0, hd1⟩ := cp_at2 (c := c) hRC kk (k2 - 1) (by omega)
      obtain ⟨hs0, hs1⟩ := cp_at (c := c) hRC i (by omega)
      have HS0 := Am hs0
      have HS1 := Am hs1
      rw [cp_same HX.out.2.2 (by omega)] at hc0 hc1 hd0 hd1
      obtain ⟨y1, hy1⟩ : ∃ y, y = l0.getD (kk + k2) z23 := ⟨_, rfl⟩
      obtain ⟨y0, hy0⟩ : ∃ y, y = l0.getD (kk + (k2 - 1)) z23 := ⟨_, rfl⟩
      rw [← hy1] at hc0 hc1
      rw [← hy0] at hd0 hd1
      rw [show kk + (k2 - 1) = kk + k2 - 1 by omega] at hy0
      have HY1 := Am hy1
      have HY0 := Am hy0
      clear hy1 hy0 hxl hRC hs0 hs1
      obtain ⟨ad2, ea2⟩ : ∃ a : Addr, a = ⟨g, kk * 2, none⟩ := ⟨_, rfl⟩
      rw [← ea2] at hc0 hc1 hd0 hd1 ⊢
      have EA2 := Am ea2
      clear ea2
      cases he : cpEq y1 y0 with
      | true =>
       have HD := Am (cp_skip (j := kk + k2) (by omega) HX.out.2.1 HX.out.2.2 (by rw [← HY1.out, ← HY0.out]; exact he))
       have heb : (y1.f0 == y0.f0 && (y1.f1 == y0.f1)) = true := he
       have hnb : (!(y1.f0 == y0.f0) || (!(y1.f1 == y0.f1))) = false := by rw [← Bool.not_and, heb]; rfl
       clear he
       go_wp2
       repeat (go_quiet (fail); try go_wp2)
       have ea3 := EA2.out
       subst ea3
       go_roundg (l0.length - (kk + (k2 + 1)))
       case measure => omega
       case rel => exact ⟨i, k2 + 1, x, by go_num, by go_num, by omega, by omega, by omega, by omega, by omega, ⟨HX.out.1, HD.out.1, HD.out.2⟩, ⟨kW HO⟩, ⟨by repeat (first | (with_reducible first | exact HB.out | apply bA | apply bN | apply bD) | exact HB.out)⟩, ⟨by repeat (first | (with_reducible first | exact HK.out | apply Kept.alloc | apply Kept.drewN | apply Kept.drew) | exact HK.out)⟩⟩
      | false =>
       have heb : (y1.f0 == y0.f0 && (y1.f1 == y0.f1)) = false := he
       have hnb : (!(y1.f0 == y0.f0) || (!(y1.f1 == y0.f1))) = true := by rw [← Bool.not_and, heb]; rfl
       have HE := Am he
       clear he
       go_upto_region 12 with (fail)
       repeat (go_quiet (fail); try (go_upto_region 12 with (fail)))
       have HSX := Am (cp_set (i := i) (j := kk + k2) HX.out.1 (by omega) (by omega) HX.out.2.1 HX.out.2.2 HY1.out (by rw [← HY1.out, ← HY0.out]; exact HE.out))
       clear hd0 hd1 heb hnb hw1 hm0 hmb
       go_wp2_with ((with_reducible refine gate_store (t := 23) (p := 51) (v := .tmp 50) rfl ?_); refine Kd.R_store k23 (w0 := w0) w0.heap.size rfl rfl 23 (.tmp 51) (.tmp 50) rfl 23 (i : Int) 0 x y1 (.agg #[.int .i64 y1.f0, .int .i64 y1.f1]) [.int .i64 y1.f0, .int .i64 y1.f1] [.int .i64 (x.getD i z23).f0, .int .i64 (x.getD i z23).f1] (fun k_ => some k_ = (Value.slice (some ⟨g, 0, none⟩) l0.length c).ownBlock) (fun _ => False) (o' := i * 2) (g := g) (n := l0.length) (cap := c) (by first | rfl | (show Value.pointer (some ((⟨g, 0, none⟩ : Addr).add (i * 2))) = _; rw [cp_add])) (by rw [Int.toNat_natCast]; rfl) (by rfl) rfl (by first | rfl | kernel_rfl) (by intro q_ hq_; simp at hq_; rcases hq_ with rfl | rfl <;> rfl) (kW HO) (by omega) (by omega) rfl (by intro j_ u_ hu_; rw [Int.toNat_natCast]; rcases j_ with _ | _ | j_; (· injection hu_ with hu_; subst hu_; exact HS0.out); (· injection hu_ with hu_; subst hu_; exact HS1.out); (· simp at hu_)) (Nat.le_refl 2) (k23_mkM _ _ _ y1) (fun _ h_ => h_.elim) (by repeat (first | (with_reducible first | exact HB.out | apply bA | apply bN | apply bD) | exact HB.out)) ?_; intro w4 hr4 hb4 hg4; have z0 := Am hr4; have z1 := Am hb4; have z2 := Am (Kept.of_grown hg4 (show Kept w _ (fun k_ => P0_ k_) from by repeat (first | (with_reducible first | exact HK.out | apply Kept.alloc | apply Kept.drewN | apply Kept.drew) | exact HK.out)) (fun k_ hk_ => .inl (by injection hk_ with hk_; rw [← hk_]; exact HG.out))); clear HO HB HK; have HO := z0; have HB := z1; have HK := z2; clear z0 z1 z2; clear hr4 hb4 hg4)
       have ea3 := EA2.out
       subst ea3
       go_roundg (l0.length - (kk + (k2 + 1)))
       case measure => omega
       case rel => exact ⟨i + 1, k2 + 1, x.set i y1, by go_num, by go_num, by omega, by omega, by omega, by omega, by omega, ⟨by rw [List.length_set]; exact HX.out.1, HSX.out.1, HSX.out.2⟩, by have h_ := HO.out; rw [Int.toNat_natCast] at h_; exact ⟨h_⟩, HB, HK⟩
     have hje : kk + k2 = l0.length := by omega
     have hltb : decide ((k2 : Int) < ((l0.length - kk : Nat) : Int)) = false := decide_eq_false (by omega)
     have hi0 : decide (0 ≤ (i : Int)) = true := decide_eq_true (by omega)
     have hib : decide ((i : Int) ≤ (l0.length : Int)) = true := decide_eq_true (by omega)
     have hin : i < l0.length := by omega
     have hic : i ≤ c := by omega
     have hxl := HX.out.1
     have HT := Am (Kd.R_take HO.out (m := i) (by omega))
     have hcs : ∃ cs, wr.heap[g]? = some (.cells cs 23 (0, 0)) := by obtain ⟨inner, ho⟩ := Kd.R_own HO.out; exact own_typed ho g rfl
     have hcl : ∀ ty, (Builtin.clear_ #[26] ty #[.slice (some ⟨g, i * 2, none⟩) (l0.length - i) (c - i)]).run Try.prog wr = .ok (.tuple #[]) (wr.setCells g (i * 2) (List.replicate ((l0.length - i) * 2) (.int .i64 0))) := fun ty => by
      refine run_clear2 wr 26 23 ty (.int .i64 0) Try.underlying26 (fun w => by rfl) rfl rfl g (i * 2) _ _ (by omega) ?_ ?_
      ·intro t ht
       obtain ⟨inner, ho⟩ := Kd.R_own HO.out
       rcases ho.2 with ⟨hv, _⟩ | ⟨g', cap', cur, hv, hb, hh, hnc, hcm, hcz, htt⟩
       ·cases hv
       injection hv with ha _ hc
       injection ha with ha
       injection ha with hg
       subst hg; subst hc
       have hsz : cur.size = c * 2 := hcz
       rw [kC hh (i * 2 + t), Array.getElem?_eq_getElem (by omega)]; rfl
      intro t ht
      obtain ⟨cs, hcs⟩ := hcs
      exact kF hcs _
     have hbz := Kd.R_base HO.out g rfl
     have HBY := Am (R_beyond HT.out (i * 2) (List.replicate ((l0.length - i) * 2) (.int .i64 0)) (Nat.le_refl _) (by rw [List.length_replicate]; show i * 2 + (l0.length - i) * 2 ≤ c * 2; omega))
     have HBZ := Am hbz
     have HF := Am (by have e_ := HX.out.2.1; rw [hje] at e_; exact e_ : x.take i = cpN l0 l0.length)
     clear hbz hgg2 hxl hcs hje
     go_wp2
     go_ret
     rw [← HF.out]
     exact ⟨_, rfl, Kd.R_mono HBY.out.1 (fun k_ hk_ => .inl (by injection hk_ with hk_; rw [hk_]; exact HG.out)), HB.out.trans ⟨HBY.out.2.os, HBY.out.2.tape, HBY.out.2.output, HBY.out.2.size, fun k_ hk_ => HBY.out.2.block k_ (Nat.lt_of_lt_of_le hk_ HB.out.size) (fun e_ => by injection e_ with e_; have h_ := HBZ.out; omega)⟩, Kept.of_grown HBY.out.2 HK.out (fun k_ hk_ => .inl (by injection hk_ with hk_; rw [← hk_]; exact HG.out))⟩
  have hltb : decide ((kk : Int) < (l0.length : Int)) = false := decide_eq_false (by omega)
  have hke : kk = l0.length := by omega
  have HE := Am (by have h_ := HC.out; rw [hke, List.take_of_length_le (Nat.le_refl _)] at h_; exact h_ : cpN l0 l0.length = l0)
  clear hke
  go_wp2
  go_ret
  rw [HE.out]
  exact ⟨_, rfl, Kd.R_mono HO.out (fun k_ hk => .inl (by injection hk with hk; rw [hk]; exact HG.out)), HB.out, HK.out⟩
end Go.Proofs.Ytbgklddlcmgakaa.PFnHandsMeetOfAll
