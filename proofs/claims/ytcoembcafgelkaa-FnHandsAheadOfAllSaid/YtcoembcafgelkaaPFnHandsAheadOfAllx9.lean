-- WRITTEN BY A PROGRAM OF THIS SESSION (wip/tools): its own text, not the kit's printed one.
import Derived.Test.YtcoembcafgelkaaPFnHandsAheadOfAllx0
import Derived.Test.YtcoembcafgelkaaPFnHandsAheadOfAllx3
import Derived.Test.YtcoembcafgelkaaPFnHandsAheadOfAllx6
import Derived.Test.YtcoembcafgelkaaPFnHandsAheadOfAllx7
import Derived.Test.YtcoembcafgelkaaPFnHandsAheadOfAllx8
namespace Go.Proofs.Ytcoembcafgelkaa.PFnHandsAheadOfAll
open Go.RowKit Go.Proofs.YtcoembcafgelkaaW.PrintWords Go.Proofs.YtcoembcafgelkaaW.PrintLast Go.Proofs.YtcoembcafgelkaaW.PrintMore
attribute [local go_sem] max2_int min2_int max_two min_two max_three min_three max_four min_four   -- for this text's walks alone
set_option linter.unusedVariables false
set_option linter.unusedSimpArgs false

/-! ### impl_AheadAt: function 6 -/
def impl_AheadAt.j0 : Nat → Bool → Int → Int → Int → Int → Int → Int → Int → Int → Option (Int × Int × Bool)
 | 0, _, _, _, _, _, _, _, _, _ => none
 | k + 1, x17, x277000, x277001, x277002, x278000, x278001, x278002, x279000, x279001 => if x17 = true then (some (0, 0, false)) else ((impl_relative.f k x277000 x277001 x277002 x278000 x278001 x278002).bind fun bt285 => ((impl_Hand_at.f k bt285.1 bt285.2.1 bt285.2.2 x279000 x279001).bind fun bt288 => ((impl_ifTurn.f k bt288.1 bt288.2).bind fun bt290 => (some (bt290.1, bt290.2.1, bt290.2.2)))))
def impl_AheadAt.f (k : Nat) (a0_0 : Int) (a0_1 : Int) (a0_2 : Int) (a1_0 : Int) (a1_1 : Int) (a1_2 : Int) (a2_0 : Int) (a2_1 : Int) : Option (Int × Int × Bool) := (impl_areHands.f k (([(⟨(⟨a0_0, a0_1⟩ : S23), a0_2⟩ : S25), (⟨(⟨a1_0, a1_1⟩ : S23), a1_2⟩ : S25)] : List (S25)))).bind fun t283 => (if t283 = true then ((impl_IsTurn.f k a2_0 a2_1).bind fun t284 => (impl_AheadAt.j0 k (!t284) a0_0 a0_1 a0_2 a1_0 a1_1 a1_2 a2_0 a2_1)) else (impl_AheadAt.j0 k true a0_0 a0_1 a0_2 a1_0 a1_1 a1_2 a2_0 a2_1))
theorem impl_AheadAt.mono_l : ∀ k, (∀ y0 y1 y2 y3 y4 y5 y6 y7 y8, LeO (impl_AheadAt.j0 k y0 y1 y2 y3 y4 y5 y6 y7 y8) (impl_AheadAt.j0 (k + 1) y0 y1 y2 y3 y4 y5 y6 y7 y8))
 | 0 => fun _ _ _ _ _ _ _ _ _ r h => by simp [impl_AheadAt.j0] at h
 | k + 1 => by
  have ih0 := impl_AheadAt.mono_l k
  ·intro y0 y1 y2 y3 y4 y5 y6 y7 y8
   unfold impl_AheadAt.j0
   repeat' first
   | (with_reducible apply ih0)
   | (with_reducible exact impl_Hand_at.mono _ _ _ _ _ _)
   | (with_reducible exact impl_IsTurn.mono _ _ _)
   | (with_reducible exact impl_areHands.mono _ _)
   | (with_reducible exact impl_ifTurn.mono _ _ _)
   | (with_reducible exact impl_relative.mono _ _ _ _ _ _ _)
   | (with_reducible exact LeO.refl _)
   | (with_reducible exact LeO.none _)
   | (with_reducible refine LeO.ite ?_ ?_)
   | (with_reducible refine LeO.bind ?_ (fun _ => ?_))
   | apply ih0
   | exact impl_Hand_at.mono _ _ _ _ _ _
   | exact impl_IsTurn.mono _ _ _
   | exact impl_areHands.mono _ _
   | exact impl_ifTurn.mono _ _ _
   | exact impl_relative.mono _ _ _ _ _ _ _
   | exact LeO.none _
   | refine LeO.ite ?_ ?_
   | refine LeO.bind ?_ (fun _ => ?_)
theorem impl_AheadAt.mono : ∀ a0 a1 a2 a3 a4 a5 a6 a7 k, LeO (impl_AheadAt.f k a0 a1 a2 a3 a4 a5 a6 a7) (impl_AheadAt.f (k + 1) a0 a1 a2 a3 a4 a5 a6 a7) := by
 intro a0 a1 a2 a3 a4 a5 a6 a7 k
 have ih0 := impl_AheadAt.mono_l k
 unfold impl_AheadAt.f
 repeat' first
   | (with_reducible apply ih0)
   | (with_reducible exact impl_Hand_at.mono _ _ _ _ _ _)
   | (with_reducible exact impl_IsTurn.mono _ _ _)
   | (with_reducible exact impl_areHands.mono _ _)
   | (with_reducible exact impl_ifTurn.mono _ _ _)
   | (with_reducible exact impl_relative.mono _ _ _ _ _ _ _)
   | (with_reducible exact LeO.refl _)
   | (with_reducible exact LeO.none _)
   | (with_reducible refine LeO.ite ?_ ?_)
   | (with_reducible refine LeO.bind ?_ (fun _ => ?_))
   | apply ih0
   | exact impl_Hand_at.mono _ _ _ _ _ _
   | exact impl_IsTurn.mono _ _ _
   | exact impl_areHands.mono _ _
   | exact impl_ifTurn.mono _ _ _
   | exact impl_relative.mono _ _ _ _ _ _ _
   | exact LeO.none _
   | refine LeO.ite ?_ ?_
   | refine LeO.bind ?_ (fun _ => ?_)
def impl_AheadAt.T3 : Bool × List (List Nat × List Nat) := (true, [([], []), ([], []), ([0, 1], [0, 1]), ([], []), ([2, 3, 2], [2, 3]), ([4, 4], [4]), ([5], [5]), ([5], [5]), ([6, 5, 0, 1, 2, 3, 4, 5, 6, 7], [6]), ([7, 8, 0, 1, 2, 3, 4, 5, 6, 7, 8], [7])])
def impl_AheadAt.B3 : List Nat := [0, 0, 3, 0, 15, 31, 63, 63, 255, 511]
theorem impl_AheadAt.tab3 : rtab .any (opsOf Try.f6 3) = impl_AheadAt.T3 := by kernel_rfl
theorem impl_AheadAt.bits3 : waitsOk impl_AheadAt.T3.2 impl_AheadAt.B3 = true := by kernel_rfl
set_option maxHeartbeats 8000000 in
set_option maxRecDepth 100000 in
theorem impl_AheadAt.calls (k : Nat) (a0_0 : Int) (a0_1 : Int) (a0_2 : Int) (a1_0 : Int) (a1_1 : Int) (a1_2 : Int) (a2_0 : Int) (a2_1 : Int) (r1 : Int) (r2 : Int) (r3 : Bool) (w : World) (h : impl_AheadAt.f k a0_0 a0_1 a0_2 a1_0 a1_1 a1_2 a2_0 a2_1 = some (r1, r2, r3)) :
  Calls Try.prog 6 #[.agg #[.int .i64 a0_0, .int .i64 a0_1, .int .i64 a0_2], .agg #[.int .i64 a1_0, .int .i64 a1_1, .int .i64 a1_2], .agg #[.int .i64 a2_0, .int .i64 a2_1]] w fun e w' => e = .returned (.tuple #[.agg #[.int .i64 r1, .int .i64 r2], .bool r3]) ∧ Below w.heap.size w w' := by
 have hu25 := Try.underlying25; have hu23 := Try.underlying23
 have HB := Am (Below.refl w.heap.size w)
 have H : ((impl_areHands.f k (([(⟨(⟨a0_0, a0_1⟩ : S23), a0_2⟩ : S25), (⟨(⟨a1_0, a1_1⟩ : S23), a1_2⟩ : S25)] : List (S25)))).bind fun t283 => (if t283 = true then ((impl_IsTurn.f k a2_0 a2_1).bind fun t284 => (impl_AheadAt.j0 k (!t284) a0_0 a0_1 a0_2 a1_0 a1_1 a1_2 a2_0 a2_1)) else (impl_AheadAt.j0 k true a0_0 a0_1 a0_2 a1_0 a1_1 a1_2 a2_0 a2_1))) = some (r1, r2, r3) := h
 clear h
 have HC4 := Am H
 clear H
 go_enter Try.func6, Try.ntmps6
 go_upto_region 1 with (first | ((with_reducible refine gate_dst (N := 3) rfl ?_); refine bE 3 #[.int .i64 a0_0, .int .i64 a0_1, .int .i64 a0_2] 25 ?_; intro gb276 hg w5 hbox hb; have hv := vK HB hb; have n0_ := Am (bT hv hb); have n1_ := Am (hbox); have GE276 := kG hg hv; clear HB; have HB := n0_; have BK276 := n1_; clear n0_ n1_ hv; clear hb hbox hg) | ((with_reducible refine gate_dst (N := 4) rfl ?_); refine bE 4 #[.int .i64 a1_0, .int .i64 a1_1, .int .i64 a1_2] 25 ?_; intro gb277 hg w6 hbox hb; have hp0 := pA BK276 hb; have hv := vK HB hb; have n1_ := Am (bT hv hb); have n2_ := Am (hbox); have GE277 := kG hg hv; have hp1 := pK BK276 hb; obtain ⟨NB276_277, NB277_276⟩ := kXY hg hp1 BK276; clear HB; replace BK276 := hp0 BK276; have HB := n1_; have BK277 := n2_; clear n1_ n2_ hp0 hp1 hv; clear hb hbox hg) | ((with_reducible refine gate_dst (N := 5) rfl ?_); refine bE 5 #[.int .i64 a2_0, .int .i64 a2_1] 23 ?_; intro gb278 hg w7 hbox hb; have hp0 := pA BK276 hb; have hv := vK HB hb; have n2_ := Am (bT hv hb); have n3_ := Am (hbox); have GE278 := kG hg hv; have hp1 := pK BK276 hb; obtain ⟨NB276_278, NB278_276⟩ := kXY hg hp1 BK276; obtain ⟨NB277_278, NB278_277⟩ := kXY hg hp1 BK277; clear HB; replace BK276 := hp0 BK276; replace BK277 := hp0 BK277; have HB := n2_; have BK278 := n3_; clear n2_ n3_ hp0 hp1 hv; clear hb hbox hg) | ((with_reducible refine gate_dst (N := 6) rfl ?_); refine bE 6 #[.int .i64 0, .int .i64 0] 23 ?_; intro gb279 hg w8 hbox hb; have hp0 := pA BK276 hb; have hv := vK HB hb; have n3_ := Am (bT hv hb); have n4_ := Am (hbox); have GE279 := kG hg hv; have hp1 := pK BK276 hb; obtain ⟨NB276_279, NB279_276⟩ := kXY hg hp1 BK276; obtain ⟨NB277_279, NB279_277⟩ := kXY hg hp1 BK277; obtain ⟨NB278_279, NB279_278⟩ := kXY hg hp1 BK278; clear HB; replace BK276 := hp0 BK276; replace BK277 := hp0 BK277; replace BK278 := hp0 BK278; have HB := n3_; have BK279 := n4_; clear n3_ n4_ hp0 hp1 hv; clear hb hbox hg))
 (try simp only [Act.put, List.setIfInBounds_toArray, List.set_cons_zero, List.set_cons_succ])
 go_cut [17] (fun v17 wc => ∃ (kq : Nat) (x17_3 : Bool), v17 = .bool x17_3 ∧ Aside0 (impl_AheadAt.j0 kq x17_3 a0_0 a0_1 a0_2 a1_0 a1_1 a1_2 a2_0 a2_1 = some (r1, r2, r3)) ∧ Aside0 (kq ≤ k) ∧ Aside0 (wc.heap[gb276]? = some (.cells #[.int .i64 a0_0, .int .i64 a0_1, .int .i64 a0_2] 25 (0, 0))) ∧ Aside0 (wc.heap[gb277]? = some (.cells #[.int .i64 a1_0, .int .i64 a1_1, .int .i64 a1_2] 25 (0, 0))) ∧ Aside0 (wc.heap[gb278]? = some (.cells #[.int .i64 a2_0, .int .i64 a2_1] 23 (0, 0))) ∧ Aside0 (wc.heap[gb279]? = some (.cells #[.int .i64 0, .int .i64 0] 23 (0, 0))) ∧ Aside0 (Below w.heap.size w wc))
 case first =>
  have H := HC4.out
  clear HC4
  obtain ⟨y280, hy280⟩ : ∃ y_ : List (S25), y_ = (([(⟨(⟨a0_0, a0_1⟩ : S23), a0_2⟩ : S25), (⟨(⟨a1_0, a1_1⟩ : S23), a1_2⟩ : S25)] : List (S25))) := ⟨_, rfl⟩
  replace H : ((impl_areHands.f k y280).bind fun t283 => (if t283 = true then ((impl_IsTurn.f k a2_0 a2_1).bind fun t284 => (impl_AheadAt.j0 k (!t284) a0_0 a0_1 a0_2 a1_0 a1_1 a1_2 a2_0 a2_1)) else (impl_AheadAt.j0 k true a0_0 a0_1 a0_2 a1_0 a1_1 a1_2 a2_0 a2_1))) = some (r1, r2, r3) := by first | (rw [hy280]; with_reducible exact H) | (have H2_ := (Option.bind_some _ _).symm.trans H; rw [hy280]; with_reducible exact H2_) | (have H2_ := (Option.bind_some _ _).symm.trans H; with_reducible exact H2_) | with_reducible exact H | (rw [hy280]; exact H) | exact H
  have Ny280 := Am hy280
  clear hy280
  replace H := Option.bind_eq_some_iff.mp H
  obtain ⟨t283, A90, H⟩ := H
  try dsimp only at H
  have A9 := Am A90
  clear A90
  by_cases c10 : t283 = true
  ·subst c10
   have H1 : ((impl_IsTurn.f k a2_0 a2_1).bind fun t284 => (impl_AheadAt.j0 k (!t284) a0_0 a0_1 a0_2 a1_0 a1_1 a1_2 a2_0 a2_1)) = some (r1, r2, r3) := by rw [if_pos rfl] at H; exact H
   clear H
   have H := H1
   clear H1
   replace H := Option.bind_eq_some_iff.mp H
   obtain ⟨t284, A110, H⟩ := H
   try dsimp only at H
   have A11 := Am A110
   clear A110
   focus
    have H' := Am H
    clear H
    have u12 := kO NB276_277; have u13 := kO NB276_278; have u14 := kO NB276_279
    have z15 := c3 BK276
    have u16 := kO NB277_278; have u17 := kO NB277_279
    have z18 := c3 BK277
    go_wp2_with (first | ((with_reducible refine gate_dst (N := 10) rfl ?_); refine Kd.R_lit k25 _ 25 ?hg (N := 10) ?hd (xs := ([(⟨(⟨a0_0, a0_1⟩ : S23), a0_2⟩ : S25), (⟨(⟨a1_0, a1_1⟩ : S23), a1_2⟩ : S25)] : List (S25))) (inner := [.int .i64 a0_0, .int .i64 a0_1, .int .i64 a0_2, .int .i64 a1_0, .int .i64 a1_1, .int .i64 a1_2]) (ok := fun _ => True) (okp := fun _ => True) ?hr ?hp (fun _ hk => hk) trivial (Below.refl _ _) (Nat.le_refl _) (by simp) ?_; (case hd => rfl); (case hg => rfl); (case hr => first | (go_simp; done) | (go_simp; rfl)); (case hp => exact (Reps.c3 (show Kd.M k25 _ _ _ (⟨(⟨a0_0, a0_1⟩ : S23), a0_2⟩ : S25) [.int .i64 a0_0, .int .i64 a0_1, .int .i64 a0_2] from (k25_mkM _ _ _ (⟨(⟨a0_0, a0_1⟩ : S23), a0_2⟩ : S25) )) (Reps.c3 (show Kd.M k25 _ _ _ (⟨(⟨a1_0, a1_1⟩ : S23), a1_2⟩ : S25) [.int .i64 a1_0, .int .i64 a1_1, .int .i64 a1_2] from (k25_mkM _ _ _ (⟨(⟨a1_0, a1_1⟩ : S23), a1_2⟩ : S25) )) (Reps.none _ _)))); intro v281 w19 ho20 hb hg_ hnew_; clear hg_ hnew_; (first | rw [← Ny280.out] at ho20 | (simp only [Int.reduceToNat] at ho20; rw [← Ny280.out] at ho20)); have n0_ := Am (Kd.R_lower (Kd.R_newB (Kd.R_newB ho20 (g := gb276) (o := .cells #[.int .i64 a0_0, .int .i64 a0_1, .int .i64 a0_2] 25 (0, 0)) (kU BK276)) (g := gb277) (o := .cells #[.int .i64 a1_0, .int .i64 a1_1, .int .i64 a1_2] 25 (0, 0)) (kU BK277)) (bZ (by repeat (first | (with_reducible first | exact HB.out | apply bA | apply bN | apply bD | refine bX ?_ (by assumption)) | exact HB.out)))); have hp0 := pA BK276 hb; have hv := vK HB hb; have n5_ := Am (bT hv hb); clear HB; have HO282 := n0_; replace BK276 := hp0 BK276; replace BK277 := hp0 BK277; replace BK278 := hp0 BK278; replace BK279 := hp0 BK279; have HB := n5_; clear n0_ n5_ hp0 hv; clear hb ho20; obtain ⟨Ao21, co21, eo21⟩ := Kd.R_slice HO282.out; subst eo21) | ((with_reducible refine gate_callee (f := 29) rfl ?_); refine gL (some 11) Try.func29 #[.slice Ao21 y280.length co21] rfl ?_; (with_reducible refine (impl_areHands.calls k _ _ y280 true _ ?side1 ?side2 A9.out).mono ?_); (case side1 => repeat (first | exact (Kd.R_reads' HO282.out).2.2 | (with_reducible refine Kd.C_alloc ?_ _) | (with_reducible refine Kd.C_drewN ?_ _) | (with_reducible refine Kd.C_drew ?_))); (case side2 => exact (Kd.R_reads' HO282.out).2.1); rintro e w22 ⟨rfl, hb⟩; refine ⟨_, rfl, ?_⟩; have n0_ := Am (Kd.R_below (kW HO282) hb); have hp0 := pA BK276 hb; have hv := vK HB hb; have n5_ := Am (bT hv hb); clear HO282; clear HB; have HO282 := n0_; replace BK276 := hp0 BK276; replace BK277 := hp0 BK277; replace BK278 := hp0 BK278; replace BK279 := hp0 BK279; have HB := n5_; clear n0_ n5_ hp0 hv; (try clear hb); have u23 := kO NB278_279; have z24 := c2 BK278) | (go_at_call 30; (with_reducible refine (impl_IsTurn.calls k a2_0 a2_1 t284 _ A11.out).mono ?_); rintro e w25 ⟨rfl, hb⟩; have n0_ := Am (Kd.R_below (kW HO282) hb); have hp0 := pA BK276 hb; have hv := vK HB hb; have n5_ := Am (bT hv hb); clear HO282; clear HB; have HO282 := n0_; replace BK276 := hp0 BK276; replace BK277 := hp0 BK277; replace BK278 := hp0 BK278; replace BK279 := hp0 BK279; have HB := n5_; clear n0_ n5_ hp0 hv; (try clear hb)))
    go_meet
    case rel =>
     refine ⟨_, (!t284), (by first | rfl | (simp; done) | (simp [*]; done)), H', ⟨by first | omega | exact Nat.le_refl _⟩, ⟨?_⟩, ⟨?_⟩, ⟨?_⟩, ⟨?_⟩, ⟨by repeat (first | (with_reducible first | exact HB.out | apply bA | apply bN | apply bD | refine bX ?_ (by assumption)) | exact HB.out)⟩⟩
     all_goals ((with_reducible repeat (first | refine kN ?_ _ | refine kD ?_ | refine kA ?_ _)); exact Aside0.out (by assumption))
  replace c10 := Bool.eq_false_iff.mpr c10
  subst c10
  have H1 : (impl_AheadAt.j0 k true a0_0 a0_1 a0_2 a1_0 a1_1 a1_2 a2_0 a2_1) = some (r1, r2, r3) := by rw [if_neg (show ¬ (false = true) by decide)] at H; exact H
  clear H
  have H := H1
  clear H1
  focus
   have H' := Am H
   clear H
   have u26 := kO NB276_277; have u27 := kO NB276_278; have u28 := kO NB276_279
   have z29 := c3 BK276
   have u30 := kO NB277_278; have u31 := kO NB277_279
   have z32 := c3 BK277
   go_wp2_with (first | ((with_reducible refine gate_dst (N := 10) rfl ?_); refine Kd.R_lit k25 _ 25 ?hg (N := 10) ?hd (xs := ([(⟨(⟨a0_0, a0_1⟩ : S23), a0_2⟩ : S25), (⟨(⟨a1_0, a1_1⟩ : S23), a1_2⟩ : S25)] : List (S25))) (inner := [.int .i64 a0_0, .int .i64 a0_1, .int .i64 a0_2, .int .i64 a1_0, .int .i64 a1_1, .int .i64 a1_2]) (ok := fun _ => True) (okp := fun _ => True) ?hr ?hp (fun _ hk => hk) trivial (Below.refl _ _) (Nat.le_refl _) (by simp) ?_; (case hd => rfl); (case hg => rfl); (case hr => first | (go_simp; done) | (go_simp; rfl)); (case hp => exact (Reps.c3 (show Kd.M k25 _ _ _ (⟨(⟨a0_0, a0_1⟩ : S23), a0_2⟩ : S25) [.int .i64 a0_0, .int .i64 a0_1, .int .i64 a0_2] from (k25_mkM _ _ _ (⟨(⟨a0_0, a0_1⟩ : S23), a0_2⟩ : S25) )) (Reps.c3 (show Kd.M k25 _ _ _ (⟨(⟨a1_0, a1_1⟩ : S23), a1_2⟩ : S25) [.int .i64 a1_0, .int .i64 a1_1, .int .i64 a1_2] from (k25_mkM _ _ _ (⟨(⟨a1_0, a1_1⟩ : S23), a1_2⟩ : S25) )) (Reps.none _ _)))); intro v281 w33 ho34 hb hg_ hnew_; clear hg_ hnew_; (first | rw [← Ny280.out] at ho34 | (simp only [Int.reduceToNat] at ho34; rw [← Ny280.out] at ho34)); have n0_ := Am (Kd.R_lower (Kd.R_newB (Kd.R_newB ho34 (g := gb276) (o := .cells #[.int .i64 a0_0, .int .i64 a0_1, .int .i64 a0_2] 25 (0, 0)) (kU BK276)) (g := gb277) (o := .cells #[.int .i64 a1_0, .int .i64 a1_1, .int .i64 a1_2] 25 (0, 0)) (kU BK277)) (bZ (by repeat (first | (with_reducible first | exact HB.out | apply bA | apply bN | apply bD | refine bX ?_ (by assumption)) | exact HB.out)))); have hp0 := pA BK276 hb; have hv := vK HB hb; have n5_ := Am (bT hv hb); clear HB; have HO282 := n0_; replace BK276 := hp0 BK276; replace BK277 := hp0 BK277; replace BK278 := hp0 BK278; replace BK279 := hp0 BK279; have HB := n5_; clear n0_ n5_ hp0 hv; clear hb ho34; obtain ⟨Ao35, co35, eo35⟩ := Kd.R_slice HO282.out; subst eo35) | ((with_reducible refine gate_callee (f := 29) rfl ?_); refine gL (some 11) Try.func29 #[.slice Ao35 y280.length co35] rfl ?_; (with_reducible refine (impl_areHands.calls k _ _ y280 false _ ?side1 ?side2 A9.out).mono ?_); (case side1 => repeat (first | exact (Kd.R_reads' HO282.out).2.2 | (with_reducible refine Kd.C_alloc ?_ _) | (with_reducible refine Kd.C_drewN ?_ _) | (with_reducible refine Kd.C_drew ?_))); (case side2 => exact (Kd.R_reads' HO282.out).2.1); rintro e w36 ⟨rfl, hb⟩; refine ⟨_, rfl, ?_⟩; have n0_ := Am (Kd.R_below (kW HO282) hb); have hp0 := pA BK276 hb; have hv := vK HB hb; have n5_ := Am (bT hv hb); clear HO282; clear HB; have HO282 := n0_; replace BK276 := hp0 BK276; replace BK277 := hp0 BK277; replace BK278 := hp0 BK278; replace BK279 := hp0 BK279; have HB := n5_; clear n0_ n5_ hp0 hv; (try clear hb)))
   go_meet
   case rel =>
    refine ⟨_, (true), (by first | rfl | (simp; done) | (simp [*]; done)), H', ⟨by first | omega | exact Nat.le_refl _⟩, ⟨?_⟩, ⟨?_⟩, ⟨?_⟩, ⟨?_⟩, ⟨by repeat (first | (with_reducible first | exact HB.out | apply bA | apply bN | apply bD | refine bX ?_ (by assumption)) | exact HB.out)⟩⟩
    all_goals ((with_reducible repeat (first | refine kN ?_ _ | refine kD ?_ | refine kA ?_ _)); exact Aside0.out (by assumption))
 clear HC4
 obtain ⟨kq, x17_3, rfl, HA, HJ3, BK276, BK277, BK278, BK279, HB⟩ := hcut
 cases kq with
 | zero => exact absurd HA.out (by simp [impl_AheadAt.j0])
 | succ kj3 =>
  have H := HA.out
  clear HA
  simp only [impl_AheadAt.j0] at H
  by_cases c37 : x17_3 = true
  ·subst c37
   have H1 : (some (0, 0, false)) = some (r1, r2, r3) := by rw [if_pos rfl] at H; exact H
   clear H
   have H := H1
   clear H1
   focus
    simp only [Option.some.injEq, Prod.mk.injEq] at H
    obtain ⟨rfl, rfl, rfl⟩ := H
    have u38 := kO NB279_276; have u39 := kO NB279_277; have u40 := kO NB279_278
    have z41 := c2 BK279
    go_wp2
    refine bodyPost_ret (results_ct rfl _ _ gb279 23 #[.int .i64 0, .int .i64 0] (0, 0) _ rfl (by (with_reducible repeat (first | refine kN ?_ _ | refine kD ?_ | refine kA ?_ _)); refine kP (cs := #[.int .i64 0, .int .i64 0]) ?_ 1 _ rfl; (with_reducible repeat (first | refine kN ?_ _ | refine kD ?_ | refine kA ?_ _)); refine kP (cs := #[.int .i64 0, .int .i64 0]) ?_ 0 _ rfl; (with_reducible repeat (first | refine kN ?_ _ | refine kD ?_ | refine kA ?_ _)); exact BK279.out) Try.underlying23 rfl (by kernel_rfl)) rfl ?_
    exact ⟨by first | rfl | (simp [errW_none, errW_some] <;> rfl) | (simp [*, errW_none, errW_some] <;> rfl), by repeat (first | (with_reducible first | exact HB.out | apply bA | apply bN | apply bD | refine bX ?_ (by assumption)) | exact HB.out)⟩
  replace c37 := Bool.eq_false_iff.mpr c37
  subst c37
  have H1 : ((impl_relative.f kj3 a0_0 a0_1 a0_2 a1_0 a1_1 a1_2).bind fun bt285 => ((impl_Hand_at.f kj3 bt285.1 bt285.2.1 bt285.2.2 a2_0 a2_1).bind fun bt288 => ((impl_ifTurn.f kj3 bt288.1 bt288.2).bind fun bt290 => (some (bt290.1, bt290.2.1, bt290.2.2))))) = some (r1, r2, r3) := by rw [if_neg (show ¬ (false = true) by decide)] at H; exact H
  clear H
  have H := H1
  clear H1
  replace H := Option.bind_eq_some_iff.mp H
  obtain ⟨⟨t285, t286, t287⟩, A420, H⟩ := H
  try dsimp only at H
  have A42 := Am A420
  clear A420
  replace H := Option.bind_eq_some_iff.mp H
  obtain ⟨⟨t288, t289⟩, A430, H⟩ := H
  try dsimp only at H
  have A43 := Am A430
  clear A430
  replace H := Option.bind_eq_some_iff.mp H
  obtain ⟨⟨t290, t291, t292⟩, A440, H⟩ := H
  try dsimp only at H
  have A44 := Am A440
  clear A440
  focus
   simp only [Option.some.injEq, Prod.mk.injEq] at H
   obtain ⟨rfl, rfl, rfl⟩ := H
   try go_wp2
   have n0_ := Am (kD BK276.out)
   have n1_ := Am (kD BK277.out)
   have n2_ := Am (kD BK278.out)
   have n3_ := Am (kD BK279.out)
   have n4_ := Am (bD HB.out)
   clear BK276 BK277 BK278 BK279 HB
   have BK276 := n0_; have BK277 := n1_; have BK278 := n2_; have BK279 := n3_; have HB := n4_
   clear n0_ n1_ n2_ n3_ n4_
   refine start_ (n := 10) (S := fun w' => w'.cell? ⟨gb276, 0, none⟩ = some (.int .i64 a0_0) ∧ w'.cell? ⟨gb276, 1, none⟩ = some (.int .i64 a0_1) ∧ w'.cell? ⟨gb276, 2, none⟩ = some (.int .i64 a0_2) ∧ w'.cell? ⟨gb277, 0, none⟩ = some (.int .i64 a1_0) ∧ w'.cell? ⟨gb277, 1, none⟩ = some (.int .i64 a1_1) ∧ w'.cell? ⟨gb277, 2, none⟩ = some (.int .i64 a1_2) ∧ w'.cell? ⟨gb278, 0, none⟩ = some (.int .i64 a2_0) ∧ w'.cell? ⟨gb278, 1, none⟩ = some (.int .i64 a2_1)) (ds := []) (pT 10 0) (by kernel_rfl) rfl rfl ⟨c30 BK276.out, c31 BK276.out, c32 BK276.out, c30 BK277.out, c31 BK277.out, c32 BK277.out, c20 BK278.out, c21 BK278.out⟩ (fun hHeld => ?_); refine with_tabW impl_AheadAt.tab3 impl_AheadAt.bits3 (fun HT_ HW_ => ?_)
   generalize wc.drew = w45 at BK276 BK277 BK278 BK279 HB hHeld ⊢
   iterate 2
    refine tI (v := ?_) (a' := ?_) rfl (take_ofW HT_.out HW_.out (by kernel_rfl)) (fun _ _ _ h => h) (Or.inl ⟨by rfl, ?_⟩) hHeld ?_ ?_
    rotate_left
    ·rintro w' ⟨s0, s1, s2, s3, s4, s5, s6, s7⟩
     go_simp
     with_reducible rfl
    rotate_left
    ·show Act.put _ (some _) _ = _
     simp only [Act.put, List.setIfInBounds_toArray, List.set_cons_zero, List.set_cons_succ, i64_w, i32_w]
     rfl
   refine take_ (i := 3) (N := some 22) (v := ?_) (a' := ?_) #[true, true, false, true, false, false, false, false, false, false] rfl rfl (take_ofW HT_.out HW_.out (by kernel_rfl)) (fun _ _ _ h => h) (Or.inl ⟨by rfl, ?_⟩) hHeld ?_ ?_
   rotate_left
   ·rintro w' ⟨s0, s1, s2, s3, s4, s5, s6, s7⟩
    go_simp
    with_reducible rfl
   rotate_left
   ·simp only [Act.put, List.setIfInBounds_toArray, List.set_cons_zero, List.set_cons_succ, i64_w, i32_w]
    rfl
   refine one_ (i := 2) (N := some 21) (pT 10 4) rfl rfl (one_of HT_.out (by kernel_rfl)) (by decide) (fun K hK => ?_)
   refine goes_ Try.func32 (by kernel_rfl) rfl #[.agg #[.int .i64 a0_0, .int .i64 a0_1, .int .i64 a0_2], .agg #[.int .i64 a1_0, .int .i64 a1_1, .int .i64 a1_2]] (by rfl) rfl rfl (by (try simp only [List.map_toArray, List.map_cons, List.map_nil]); first | done | rfl | (simp only [List.length_drop, List.length_take]; rfl)) ?_
   with_reducible refine (impl_relative.calls kj3 a0_0 a0_1 a0_2 a1_0 a1_1 a1_2 t285 t286 t287 _ A42.out).mono ?_
   rintro e w46 ⟨rfl, hb⟩
   refine ⟨_, rfl, ?_⟩
   have hp0 := pA BK276 hb
   have hv := vK HB hb
   have n4_ := Am (bT hv hb)
   clear HB
   replace BK276 := hp0 BK276; replace BK277 := hp0 BK277; replace BK278 := hp0 BK278; replace BK279 := hp0 BK279
   have HB := n4_
   clear n4_ hp0 hv
   (try clear hb)
   refine hK.out _ _ ⟨c30 BK276.out, c31 BK276.out, c32 BK276.out, c30 BK277.out, c31 BK277.out, c32 BK277.out, c20 BK278.out, c21 BK278.out⟩ (fun hHeld => ?_)
   clear hK K
   refine norm_ (a' := ?_) ?_ ?_
   rotate_left
   ·show Act.put _ (some 21) _ = _
    simp only [Act.put, List.setIfInBounds_toArray, List.set_cons_zero, List.set_cons_succ, i64_w, i32_w]
    rfl
   refine one_ (i := 4) (N := some 23) (pT 10 5) rfl rfl (one_of HT_.out (by kernel_rfl)) (by decide) (fun K hK => ?_)
   refine goes_ Try.func33 (by kernel_rfl) rfl #[.agg #[.int .i64 t285, .int .i64 t286, .int .i64 t287], .agg #[.int .i64 a2_0, .int .i64 a2_1]] (by rfl) rfl rfl (by (try simp only [List.map_toArray, List.map_cons, List.map_nil]); first | done | rfl | (simp only [List.length_drop, List.length_take]; rfl)) ?_
   with_reducible refine (impl_Hand_at.calls kj3 t285 t286 t287 a2_0 a2_1 t288 t289 _ A43.out).mono ?_
   rintro e w47 ⟨rfl, hb⟩
   refine ⟨_, rfl, ?_⟩
   have hp0 := pA BK276 hb
   have hv := vK HB hb
   have n4_ := Am (bT hv hb)
   clear HB
   replace BK276 := hp0 BK276; replace BK277 := hp0 BK277; replace BK278 := hp0 BK278; replace BK279 := hp0 BK279
   have HB := n4_
   clear n4_ hp0 hv
   (try clear hb)
   refine hK.out _ _ ⟨c30 BK276.out, c31 BK276.out, c32 BK276.out, c30 BK277.out, c31 BK277.out, c32 BK277.out, c20 BK278.out, c21 BK278.out⟩ (fun hHeld => ?_)
   clear hK K
   refine norm_ (a' := ?_) ?_ ?_
   rotate_left
   ·show Act.put _ (some 23) _ = _
    simp only [Act.put, List.setIfInBounds_toArray, List.set_cons_zero, List.set_cons_succ, i64_w, i32_w]
    rfl
   refine one_ (i := 5) (N := some 24) (pT 10 6) rfl rfl (one_of HT_.out (by kernel_rfl)) (by decide) (fun K hK => ?_)
   refine goes_ Try.func31 (by kernel_rfl) rfl #[.agg #[.int .i64 t288, .int .i64 t289]] (by rfl) rfl rfl (by (try simp only [List.map_toArray, List.map_cons, List.map_nil]); first | done | rfl | (simp only [List.length_drop, List.length_take]; rfl)) ?_
   with_reducible refine (impl_ifTurn.calls kj3 t288 t289 t290 t291 t292 _ A44.out).mono ?_
   rintro e w48 ⟨rfl, hb⟩
   refine ⟨_, rfl, ?_⟩
   have hp0 := pA BK276 hb
   have hv := vK HB hb
   have n4_ := Am (bT hv hb)
   clear HB
   replace BK276 := hp0 BK276; replace BK277 := hp0 BK277; replace BK278 := hp0 BK278; replace BK279 := hp0 BK279
   have HB := n4_
   clear n4_ hp0 hv
   (try clear hb)
   refine hK.out _ _ ⟨c30 BK276.out, c31 BK276.out, c32 BK276.out, c30 BK277.out, c31 BK277.out, c32 BK277.out, c20 BK278.out, c21 BK278.out⟩ (fun hHeld => ?_)
   clear hK K
   refine norm_ (a' := ?_) ?_ ?_
   rotate_left
   ·show Act.put _ (some 24) _ = _
    simp only [Act.put, List.setIfInBounds_toArray, List.set_cons_zero, List.set_cons_succ, i64_w, i32_w]
    rfl
   iterate 2
    refine pI (v := ?_) (a' := ?_) rfl (any_of HT_.out (by kernel_rfl)) (fun _ _ _ h => h) (Or.inl ⟨by rfl, ?_⟩) ?_ ?_
    rotate_left
    ·intro w'
     go_simp
     with_reducible rfl
    rotate_left
    ·show Act.put _ (some _) _ = _
     simp only [Act.put, List.setIfInBounds_toArray, List.set_cons_zero, List.set_cons_succ, i64_w, i32_w]
     rfl
   refine one_ (i := 8) (N := none) (pT 10 9) rfl rfl (one_of HT_.out (by kernel_rfl)) (by decide) (fun K hK => ?_)
   have hs49 : w48.cell? ⟨gb279, 0, none⟩ = some (.int .i64 0) := c20 BK279.out
   have hfs49 := kF BK279.out 0
   have hns49_0 := NB276_279.out; have hns49_1 := NB277_279.out; have hns49_2 := NB278_279.out; have hms49_0 := NB279_276.out; have hms49_1 := NB279_277.out; have hms49_2 := NB279_278.out
   have hs50 : w48.cell? ⟨gb279, 1, none⟩ = some (.int .i64 0) := c21 BK279.out
   have hfs50 := kF BK279.out 1
   have hns50_0 := NB276_279.out; have hns50_1 := NB277_279.out; have hns50_2 := NB278_279.out; have hms50_0 := NB279_276.out; have hms50_1 := NB279_277.out; have hms50_2 := NB279_278.out
   refine skip_ (w1 := ?_) (by rfl) rfl ?_ ?_
   rotate_left
   ·go_simp
    rfl
   refine hK.out _ _ ⟨((cell_far (p := ⟨gb279, _, none⟩) NB276_279.out _).trans (((cell_far (p := ⟨gb279, _, none⟩) NB276_279.out _).trans (hHeld.1)))), ((cell_far (p := ⟨gb279, _, none⟩) NB276_279.out _).trans (((cell_far (p := ⟨gb279, _, none⟩) NB276_279.out _).trans (hHeld.2.1)))), ((cell_far (p := ⟨gb279, _, none⟩) NB276_279.out _).trans (((cell_far (p := ⟨gb279, _, none⟩) NB276_279.out _).trans (hHeld.2.2.1)))), ((cell_far (p := ⟨gb279, _, none⟩) NB277_279.out _).trans (((cell_far (p := ⟨gb279, _, none⟩) NB277_279.out _).trans (hHeld.2.2.2.1)))), ((cell_far (p := ⟨gb279, _, none⟩) NB277_279.out _).trans (((cell_far (p := ⟨gb279, _, none⟩) NB277_279.out _).trans (hHeld.2.2.2.2.1)))), ((cell_far (p := ⟨gb279, _, none⟩) NB277_279.out _).trans (((cell_far (p := ⟨gb279, _, none⟩) NB277_279.out _).trans (hHeld.2.2.2.2.2.1)))), ((cell_far (p := ⟨gb279, _, none⟩) NB278_279.out _).trans (((cell_far (p := ⟨gb279, _, none⟩) NB278_279.out _).trans (hHeld.2.2.2.2.2.2.1)))), ((cell_far (p := ⟨gb279, _, none⟩) NB278_279.out _).trans (((cell_far (p := ⟨gb279, _, none⟩) NB278_279.out _).trans (hHeld.2.2.2.2.2.2.2))))⟩ (fun hHeld => ?_)
   clear hK K
   refine pI (v := ?_) (a' := ?_) rfl (any_of HT_.out (by kernel_rfl)) (fun _ _ _ h => h) (Or.inl ⟨by rfl, ?_⟩) ?_ ?_
   rotate_left
   ·intro w'
    go_simp
    with_reducible rfl
   rotate_left
   ·show Act.put _ (some _) _ = _
    simp only [Act.put, List.setIfInBounds_toArray, List.set_cons_zero, List.set_cons_succ, i64_w, i32_w]
    rfl
   refine done_ (done_of HT_.out (by kernel_rfl)) ?_
   try go_wp2
   refine bodyPost_ret (results_ct rfl _ _ gb279 23 #[.int .i64 t290, .int .i64 t291] (0, 0) _ rfl (by (with_reducible repeat (first | refine kN ?_ _ | refine kD ?_ | refine kA ?_ _)); refine kP (cs := #[.int .i64 t290, .int .i64 0]) ?_ 1 _ rfl; (with_reducible repeat (first | refine kN ?_ _ | refine kD ?_ | refine kA ?_ _)); refine kP (cs := #[.int .i64 0, .int .i64 0]) ?_ 0 _ rfl; (with_reducible repeat (first | refine kN ?_ _ | refine kD ?_ | refine kA ?_ _)); exact BK279.out) Try.underlying23 rfl (by kernel_rfl)) rfl ?_
   exact ⟨by first | rfl | (simp [errW_none, errW_some] <;> rfl) | (simp [*, errW_none, errW_some] <;> rfl), by repeat (first | (with_reducible first | exact HB.out | apply bA | apply bN | apply bD | refine bX ?_ (by assumption)) | exact HB.out)⟩
/-! ### spec_meAt: function 36 -/
def spec_meAt.f (k : Nat) (a0_0 : Int) (a0_1 : Int) (a0_2 : Int) (a1_0 : Int) (a1_1 : Int) : Option (Int × Int × Bool) := (spec_diAdd.f k a0_0 a0_1 a1_0 a1_1 a0_2).bind fun bt296 => (some (bt296.1, bt296.2.1, bt296.2.2))
theorem spec_meAt.mono : ∀ a0 a1 a2 a3 a4 k, LeO (spec_meAt.f k a0 a1 a2 a3 a4) (spec_meAt.f (k + 1) a0 a1 a2 a3 a4) := by
 intro a0 a1 a2 a3 a4 k
 unfold spec_meAt.f
 repeat' first
   | (with_reducible exact spec_diAdd.mono _ _ _ _ _ _)
   | (with_reducible exact LeO.refl _)
   | (with_reducible exact LeO.none _)
   | (with_reducible refine LeO.ite ?_ ?_)
   | (with_reducible refine LeO.bind ?_ (fun _ => ?_))
   | exact spec_diAdd.mono _ _ _ _ _ _
   | exact LeO.none _
   | refine LeO.ite ?_ ?_
   | refine LeO.bind ?_ (fun _ => ?_)
set_option maxHeartbeats 8000000 in
set_option maxRecDepth 100000 in
theorem spec_meAt.calls (k : Nat) (a0_0 : Int) (a0_1 : Int) (a0_2 : Int) (a1_0 : Int) (a1_1 : Int) (r1 : Int) (r2 : Int) (r3 : Bool) (w : World) (h : spec_meAt.f k a0_0 a0_1 a0_2 a1_0 a1_1 = some (r1, r2, r3)) :
  Calls Try.prog 36 #[.agg #[.int .i64 a0_0, .int .i64 a0_1, .int .i64 a0_2], .agg #[.int .i64 a1_0, .int .i64 a1_1]] w fun e w' => e = .returned (.tuple #[.agg #[.int .i64 r1, .int .i64 r2], .bool r3]) ∧ Below w.heap.size w w' := by
 have hu25 := Try.underlying25; have hu23 := Try.underlying23
 have HB := Am (Below.refl w.heap.size w)
 have H : ((spec_diAdd.f k a0_0 a0_1 a1_0 a1_1 a0_2).bind fun bt296 => (some (bt296.1, bt296.2.1, bt296.2.2))) = some (r1, r2, r3) := h
 clear h
 replace H := Option.bind_eq_some_iff.mp H
 obtain ⟨⟨t296, t297, t298⟩, A30, H⟩ := H
 try dsimp only at H
 have A3 := Am A30
 clear A30
 focus
  simp only [Option.some.injEq, Prod.mk.injEq] at H
  obtain ⟨rfl, rfl, rfl⟩ := H
  go_enter Try.func36, Try.ntmps36
  go_wp2_with (first | ((with_reducible refine gate_dst (N := 2) rfl ?_); refine bE 2 #[.int .i64 a0_0, .int .i64 a0_1, .int .i64 a0_2] 25 ?_; intro gb293 hg w4 hbox hb; have hv := vK HB hb; have n0_ := Am (bT hv hb); have n1_ := Am (hbox); have GE293 := kG hg hv; clear HB; have HB := n0_; have BK293 := n1_; clear n0_ n1_ hv; clear hb hbox hg) | ((with_reducible refine gate_dst (N := 3) rfl ?_); refine bE 3 #[.int .i64 a1_0, .int .i64 a1_1] 23 ?_; intro gb294 hg w5 hbox hb; have hp0 := pA BK293 hb; have hv := vK HB hb; have n1_ := Am (bT hv hb); have n2_ := Am (hbox); have GE294 := kG hg hv; have hp1 := pK BK293 hb; obtain ⟨NB293_294, NB294_293⟩ := kXY hg hp1 BK293; clear HB; replace BK293 := hp0 BK293; have HB := n1_; have BK294 := n2_; clear n1_ n2_ hp0 hp1 hv; clear hb hbox hg) | ((with_reducible refine gate_dst (N := 4) rfl ?_); refine bE 4 #[.int .i64 0, .int .i64 0] 23 ?_; intro gb295 hg w6 hbox hb; have hp0 := pA BK293 hb; have hv := vK HB hb; have n2_ := Am (bT hv hb); have n3_ := Am (hbox); have GE295 := kG hg hv; have hp1 := pK BK293 hb; obtain ⟨NB293_295, NB295_293⟩ := kXY hg hp1 BK293; obtain ⟨NB294_295, NB295_294⟩ := kXY hg hp1 BK294; clear HB; replace BK293 := hp0 BK293; replace BK294 := hp0 BK294; have HB := n2_; have BK295 := n3_; clear n2_ n3_ hp0 hp1 hv; clear hb hbox hg; have u7 := kO NB293_294; have u8 := kO NB293_295; have z9 := c3 BK293; have u10 := kO NB294_295; have z11 := c2 BK294) | ((with_reducible refine gate_callee (f := 43) rfl ?_); refine gL (some 11) Try.func43 #[.agg #[.int .i64 a0_0, .int .i64 a0_1], .agg #[.int .i64 a1_0, .int .i64 a1_1], .int .i64 a0_2] rfl ?_; (with_reducible refine (spec_diAdd.calls k a0_0 a0_1 a1_0 a1_1 a0_2 t296 t297 t298 _ A3.out).mono ?_); rintro e w12 ⟨rfl, hb⟩; refine ⟨_, rfl, ?_⟩; have hp0 := pA BK293 hb; have hv := vK HB hb; have n3_ := Am (bT hv hb); clear HB; replace BK293 := hp0 BK293; replace BK294 := hp0 BK294; replace BK295 := hp0 BK295; have HB := n3_; clear n3_ hp0 hv; (try clear hb); have z13 := c2 BK295))
  refine bodyPost_ret (results_ct rfl _ _ gb295 23 #[.int .i64 t296, .int .i64 t297] (0, 0) _ rfl (by (with_reducible repeat (first | refine kN ?_ _ | refine kD ?_ | refine kA ?_ _)); refine kP (cs := #[.int .i64 t296, .int .i64 0]) ?_ 1 _ rfl; (with_reducible repeat (first | refine kN ?_ _ | refine kD ?_ | refine kA ?_ _)); refine kP (cs := #[.int .i64 0, .int .i64 0]) ?_ 0 _ rfl; (with_reducible repeat (first | refine kN ?_ _ | refine kD ?_ | refine kA ?_ _)); exact BK295.out) Try.underlying23 rfl (by kernel_rfl)) rfl ?_
  exact ⟨by first | rfl | (simp [errW_none, errW_some] <;> rfl) | (simp [*, errW_none, errW_some] <;> rfl), by repeat (first | (with_reducible first | exact HB.out | apply bA | apply bN | apply bD | refine bX ?_ (by assumption)) | exact HB.out)⟩
/-! ### spec_AheadAt: function 7 -/
def spec_AheadAt.j0 : Nat → Bool → Int → Int → Int → Int → Int → Int → Int → Int → Option (Int × Int × Bool)
 | 0, _, _, _, _, _, _, _, _, _ => none
 | k + 1, x16, x300000, x300001, x300002, x301000, x301001, x301002, x302000, x302001 => if x16 = true then (some (0, 0, false)) else ((spec_meRelative.f k x300000 x300001 x300002 x301000 x301001 x301002).bind fun bt305 => ((spec_meAt.f k bt305.1 bt305.2.1 bt305.2.2 x302000 x302001).bind fun bt308 => (some (bt308.1, bt308.2.1, bt308.2.2))))
def spec_AheadAt.f (k : Nat) (a0_0 : Int) (a0_1 : Int) (a0_2 : Int) (a1_0 : Int) (a1_1 : Int) (a1_2 : Int) (a2_0 : Int) (a2_1 : Int) : Option (Int × Int × Bool) := (spec_meTwo.f k a0_0 a0_1 a0_2 a1_0 a1_1 a1_2).bind fun t303 => (if t303 = true then ((spec_diGood.f k a2_0 a2_1).bind fun t304 => (spec_AheadAt.j0 k (!t304) a0_0 a0_1 a0_2 a1_0 a1_1 a1_2 a2_0 a2_1)) else (spec_AheadAt.j0 k true a0_0 a0_1 a0_2 a1_0 a1_1 a1_2 a2_0 a2_1))
theorem spec_AheadAt.mono_l : ∀ k, (∀ y0 y1 y2 y3 y4 y5 y6 y7 y8, LeO (spec_AheadAt.j0 k y0 y1 y2 y3 y4 y5 y6 y7 y8) (spec_AheadAt.j0 (k + 1) y0 y1 y2 y3 y4 y5 y6 y7 y8))
 | 0 => fun _ _ _ _ _ _ _ _ _ r h => by simp [spec_AheadAt.j0] at h
 | k + 1 => by
  have ih0 := spec_AheadAt.mono_l k
  ·intro y0 y1 y2 y3 y4 y5 y6 y7 y8
   unfold spec_AheadAt.j0
   repeat' first
   | (with_reducible apply ih0)
   | (with_reducible exact spec_diGood.mono _ _ _)
   | (with_reducible exact spec_meAt.mono _ _ _ _ _ _)
   | (with_reducible exact spec_meRelative.mono _ _ _ _ _ _ _)
   | (with_reducible exact spec_meTwo.mono _ _ _ _ _ _ _)
   | (with_reducible exact LeO.refl _)
   | (with_reducible exact LeO.none _)
   | (with_reducible refine LeO.ite ?_ ?_)
   | (with_reducible refine LeO.bind ?_ (fun _ => ?_))
   | apply ih0
   | exact spec_diGood.mono _ _ _
   | exact spec_meAt.mono _ _ _ _ _ _
   | exact spec_meRelative.mono _ _ _ _ _ _ _
   | exact spec_meTwo.mono _ _ _ _ _ _ _
   | exact LeO.none _
   | refine LeO.ite ?_ ?_
   | refine LeO.bind ?_ (fun _ => ?_)
theorem spec_AheadAt.mono : ∀ a0 a1 a2 a3 a4 a5 a6 a7 k, LeO (spec_AheadAt.f k a0 a1 a2 a3 a4 a5 a6 a7) (spec_AheadAt.f (k + 1) a0 a1 a2 a3 a4 a5 a6 a7) := by
 intro a0 a1 a2 a3 a4 a5 a6 a7 k
 have ih0 := spec_AheadAt.mono_l k
 unfold spec_AheadAt.f
 repeat' first
   | (with_reducible apply ih0)
   | (with_reducible exact spec_diGood.mono _ _ _)
   | (with_reducible exact spec_meAt.mono _ _ _ _ _ _)
   | (with_reducible exact spec_meRelative.mono _ _ _ _ _ _ _)
   | (with_reducible exact spec_meTwo.mono _ _ _ _ _ _ _)
   | (with_reducible exact LeO.refl _)
   | (with_reducible exact LeO.none _)
   | (with_reducible refine LeO.ite ?_ ?_)
   | (with_reducible refine LeO.bind ?_ (fun _ => ?_))
   | apply ih0
   | exact spec_diGood.mono _ _ _
   | exact spec_meAt.mono _ _ _ _ _ _
   | exact spec_meRelative.mono _ _ _ _ _ _ _
   | exact spec_meTwo.mono _ _ _ _ _ _ _
   | exact LeO.none _
   | refine LeO.ite ?_ ?_
   | refine LeO.bind ?_ (fun _ => ?_)
def spec_AheadAt.T3 : Bool × List (List Nat × List Nat) := (true, [([], []), ([], []), ([0, 1], [0, 1]), ([], []), ([2, 3, 2], [2, 3]), ([4], [4]), ([4], [4]), ([5, 4, 0, 1, 2, 3, 4, 5, 6], [5]), ([6, 7, 0, 1, 2, 3, 4, 5, 6, 7], [6])])
def spec_AheadAt.B3 : List Nat := [0, 0, 3, 0, 15, 31, 31, 127, 255]
theorem spec_AheadAt.tab3 : rtab .any (opsOf Try.f7 3) = spec_AheadAt.T3 := by kernel_rfl
theorem spec_AheadAt.bits3 : waitsOk spec_AheadAt.T3.2 spec_AheadAt.B3 = true := by kernel_rfl
set_option maxHeartbeats 8000000 in
set_option maxRecDepth 100000 in
theorem spec_AheadAt.calls (k : Nat) (a0_0 : Int) (a0_1 : Int) (a0_2 : Int) (a1_0 : Int) (a1_1 : Int) (a1_2 : Int) (a2_0 : Int) (a2_1 : Int) (r1 : Int) (r2 : Int) (r3 : Bool) (w : World) (h : spec_AheadAt.f k a0_0 a0_1 a0_2 a1_0 a1_1 a1_2 a2_0 a2_1 = some (r1, r2, r3)) :
  Calls Try.prog 7 #[.agg #[.int .i64 a0_0, .int .i64 a0_1, .int .i64 a0_2], .agg #[.int .i64 a1_0, .int .i64 a1_1, .int .i64 a1_2], .agg #[.int .i64 a2_0, .int .i64 a2_1]] w fun e w' => e = .returned (.tuple #[.agg #[.int .i64 r1, .int .i64 r2], .bool r3]) ∧ Below w.heap.size w w' := by
 have hu25 := Try.underlying25; have hu23 := Try.underlying23
 have HB := Am (Below.refl w.heap.size w)
 have H : ((spec_meTwo.f k a0_0 a0_1 a0_2 a1_0 a1_1 a1_2).bind fun t303 => (if t303 = true then ((spec_diGood.f k a2_0 a2_1).bind fun t304 => (spec_AheadAt.j0 k (!t304) a0_0 a0_1 a0_2 a1_0 a1_1 a1_2 a2_0 a2_1)) else (spec_AheadAt.j0 k true a0_0 a0_1 a0_2 a1_0 a1_1 a1_2 a2_0 a2_1))) = some (r1, r2, r3) := h
 clear h
 have HC4 := Am H
 clear H
 go_enter Try.func7, Try.ntmps7
 go_upto_region 1 with (first | ((with_reducible refine gate_dst (N := 3) rfl ?_); refine bE 3 #[.int .i64 a0_0, .int .i64 a0_1, .int .i64 a0_2] 25 ?_; intro gb299 hg w5 hbox hb; have hv := vK HB hb; have n0_ := Am (bT hv hb); have n1_ := Am (hbox); have GE299 := kG hg hv; clear HB; have HB := n0_; have BK299 := n1_; clear n0_ n1_ hv; clear hb hbox hg) | ((with_reducible refine gate_dst (N := 4) rfl ?_); refine bE 4 #[.int .i64 a1_0, .int .i64 a1_1, .int .i64 a1_2] 25 ?_; intro gb300 hg w6 hbox hb; have hp0 := pA BK299 hb; have hv := vK HB hb; have n1_ := Am (bT hv hb); have n2_ := Am (hbox); have GE300 := kG hg hv; have hp1 := pK BK299 hb; obtain ⟨NB299_300, NB300_299⟩ := kXY hg hp1 BK299; clear HB; replace BK299 := hp0 BK299; have HB := n1_; have BK300 := n2_; clear n1_ n2_ hp0 hp1 hv; clear hb hbox hg) | ((with_reducible refine gate_dst (N := 5) rfl ?_); refine bE 5 #[.int .i64 a2_0, .int .i64 a2_1] 23 ?_; intro gb301 hg w7 hbox hb; have hp0 := pA BK299 hb; have hv := vK HB hb; have n2_ := Am (bT hv hb); have n3_ := Am (hbox); have GE301 := kG hg hv; have hp1 := pK BK299 hb; obtain ⟨NB299_301, NB301_299⟩ := kXY hg hp1 BK299; obtain ⟨NB300_301, NB301_300⟩ := kXY hg hp1 BK300; clear HB; replace BK299 := hp0 BK299; replace BK300 := hp0 BK300; have HB := n2_; have BK301 := n3_; clear n2_ n3_ hp0 hp1 hv; clear hb hbox hg) | ((with_reducible refine gate_dst (N := 6) rfl ?_); refine bE 6 #[.int .i64 0, .int .i64 0] 23 ?_; intro gb302 hg w8 hbox hb; have hp0 := pA BK299 hb; have hv := vK HB hb; have n3_ := Am (bT hv hb); have n4_ := Am (hbox); have GE302 := kG hg hv; have hp1 := pK BK299 hb; obtain ⟨NB299_302, NB302_299⟩ := kXY hg hp1 BK299; obtain ⟨NB300_302, NB302_300⟩ := kXY hg hp1 BK300; obtain ⟨NB301_302, NB302_301⟩ := kXY hg hp1 BK301; clear HB; replace BK299 := hp0 BK299; replace BK300 := hp0 BK300; replace BK301 := hp0 BK301; have HB := n3_; have BK302 := n4_; clear n3_ n4_ hp0 hp1 hv; clear hb hbox hg))
 (try simp only [Act.put, List.setIfInBounds_toArray, List.set_cons_zero, List.set_cons_succ])
 go_cut [16] (fun v16 wc => ∃ (kq : Nat) (x16_3 : Bool), v16 = .bool x16_3 ∧ Aside0 (spec_AheadAt.j0 kq x16_3 a0_0 a0_1 a0_2 a1_0 a1_1 a1_2 a2_0 a2_1 = some (r1, r2, r3)) ∧ Aside0 (kq ≤ k) ∧ Aside0 (wc.heap[gb299]? = some (.cells #[.int .i64 a0_0, .int .i64 a0_1, .int .i64 a0_2] 25 (0, 0))) ∧ Aside0 (wc.heap[gb300]? = some (.cells #[.int .i64 a1_0, .int .i64 a1_1, .int .i64 a1_2] 25 (0, 0))) ∧ Aside0 (wc.heap[gb301]? = some (.cells #[.int .i64 a2_0, .int .i64 a2_1] 23 (0, 0))) ∧ Aside0 (wc.heap[gb302]? = some (.cells #[.int .i64 0, .int .i64 0] 23 (0, 0))) ∧ Aside0 (Below w.heap.size w wc))
 case first =>
  have H := HC4.out
  clear HC4
  replace H := Option.bind_eq_some_iff.mp H
  obtain ⟨t303, A90, H⟩ := H
  try dsimp only at H
  have A9 := Am A90
  clear A90
  by_cases c10 : t303 = true
  ·subst c10
   have H1 : ((spec_diGood.f k a2_0 a2_1).bind fun t304 => (spec_AheadAt.j0 k (!t304) a0_0 a0_1 a0_2 a1_0 a1_1 a1_2 a2_0 a2_1)) = some (r1, r2, r3) := by rw [if_pos rfl] at H; exact H
   clear H
   have H := H1
   clear H1
   replace H := Option.bind_eq_some_iff.mp H
   obtain ⟨t304, A110, H⟩ := H
   try dsimp only at H
   have A11 := Am A110
   clear A110
   focus
    have H' := Am H
    clear H
    have u12 := kO NB299_300; have u13 := kO NB299_301; have u14 := kO NB299_302
    have z15 := c3 BK299
    have u16 := kO NB300_301; have u17 := kO NB300_302
    have z18 := c3 BK300
    go_wp2_with (first | ((with_reducible refine gate_callee (f := 34) rfl ?_); refine gL (some 10) Try.func34 #[.agg #[.int .i64 a0_0, .int .i64 a0_1, .int .i64 a0_2], .agg #[.int .i64 a1_0, .int .i64 a1_1, .int .i64 a1_2]] rfl ?_; (with_reducible refine (spec_meTwo.calls k a0_0 a0_1 a0_2 a1_0 a1_1 a1_2 true _ A9.out).mono ?_); rintro e w19 ⟨rfl, hb⟩; refine ⟨_, rfl, ?_⟩; have hp0 := pA BK299 hb; have hv := vK HB hb; have n4_ := Am (bT hv hb); clear HB; replace BK299 := hp0 BK299; replace BK300 := hp0 BK300; replace BK301 := hp0 BK301; replace BK302 := hp0 BK302; have HB := n4_; clear n4_ hp0 hv; (try clear hb); have u20 := kO NB301_302; have z21 := c2 BK301) | (go_at_call 35; (with_reducible refine (spec_diGood.calls k a2_0 a2_1 t304 _ A11.out).mono ?_); rintro e w22 ⟨rfl, hb⟩; have hp0 := pA BK299 hb; have hv := vK HB hb; have n4_ := Am (bT hv hb); clear HB; replace BK299 := hp0 BK299; replace BK300 := hp0 BK300; replace BK301 := hp0 BK301; replace BK302 := hp0 BK302; have HB := n4_; clear n4_ hp0 hv; (try clear hb)))
    go_meet
    case rel =>
     refine ⟨_, (!t304), (by first | rfl | (simp; done) | (simp [*]; done)), H', ⟨by first | omega | exact Nat.le_refl _⟩, ⟨?_⟩, ⟨?_⟩, ⟨?_⟩, ⟨?_⟩, ⟨by repeat (first | (with_reducible first | exact HB.out | apply bA | apply bN | apply bD | refine bX ?_ (by assumption)) | exact HB.out)⟩⟩
     all_goals ((with_reducible repeat (first | refine kN ?_ _ | refine kD ?_ | refine kA ?_ _)); exact Aside0.out (by assumption))
  replace c10 := Bool.eq_false_iff.mpr c10
  subst c10
  have H1 : (spec_AheadAt.j0 k true a0_0 a0_1 a0_2 a1_0 a1_1 a1_2 a2_0 a2_1) = some (r1, r2, r3) := by rw [if_neg (show ¬ (false = true) by decide)] at H; exact H
  clear H
  have H := H1
  clear H1
  focus
   have H' := Am H
   clear H
   have u23 := kO NB299_300; have u24 := kO NB299_301; have u25 := kO NB299_302
   have z26 := c3 BK299
   have u27 := kO NB300_301; have u28 := kO NB300_302
   have z29 := c3 BK300
   go_wp2_with (first | ((with_reducible refine gate_callee (f := 34) rfl ?_); refine gL (some 10) Try.func34 #[.agg #[.int .i64 a0_0, .int .i64 a0_1, .int .i64 a0_2], .agg #[.int .i64 a1_0, .int .i64 a1_1, .int .i64 a1_2]] rfl ?_; (with_reducible refine (spec_meTwo.calls k a0_0 a0_1 a0_2 a1_0 a1_1 a1_2 false _ A9.out).mono ?_); rintro e w30 ⟨rfl, hb⟩; refine ⟨_, rfl, ?_⟩; have hp0 := pA BK299 hb; have hv := vK HB hb; have n4_ := Am (bT hv hb); clear HB; replace BK299 := hp0 BK299; replace BK300 := hp0 BK300; replace BK301 := hp0 BK301; replace BK302 := hp0 BK302; have HB := n4_; clear n4_ hp0 hv; (try clear hb)))
   go_meet
   case rel =>
    refine ⟨_, (true), (by first | rfl | (simp; done) | (simp [*]; done)), H', ⟨by first | omega | exact Nat.le_refl _⟩, ⟨?_⟩, ⟨?_⟩, ⟨?_⟩, ⟨?_⟩, ⟨by repeat (first | (with_reducible first | exact HB.out | apply bA | apply bN | apply bD | refine bX ?_ (by assumption)) | exact HB.out)⟩⟩
    all_goals ((with_reducible repeat (first | refine kN ?_ _ | refine kD ?_ | refine kA ?_ _)); exact Aside0.out (by assumption))
 clear HC4
 obtain ⟨kq, x16_3, rfl, HA, HJ3, BK299, BK300, BK301, BK302, HB⟩ := hcut
 cases kq with
 | zero => exact absurd HA.out (by simp [spec_AheadAt.j0])
 | succ kj3 =>
  have H := HA.out
  clear HA
  simp only [spec_AheadAt.j0] at H
  by_cases c31 : x16_3 = true
  ·subst c31
   have H1 : (some (0, 0, false)) = some (r1, r2, r3) := by rw [if_pos rfl] at H; exact H
   clear H
   have H := H1
   clear H1
   focus
    simp only [Option.some.injEq, Prod.mk.injEq] at H
    obtain ⟨rfl, rfl, rfl⟩ := H
    have u32 := kO NB302_299; have u33 := kO NB302_300; have u34 := kO NB302_301
    have z35 := c2 BK302
    go_wp2
    refine bodyPost_ret (results_ct rfl _ _ gb302 23 #[.int .i64 0, .int .i64 0] (0, 0) _ rfl (by (with_reducible repeat (first | refine kN ?_ _ | refine kD ?_ | refine kA ?_ _)); refine kP (cs := #[.int .i64 0, .int .i64 0]) ?_ 1 _ rfl; (with_reducible repeat (first | refine kN ?_ _ | refine kD ?_ | refine kA ?_ _)); refine kP (cs := #[.int .i64 0, .int .i64 0]) ?_ 0 _ rfl; (with_reducible repeat (first | refine kN ?_ _ | refine kD ?_ | refine kA ?_ _)); exact BK302.out) Try.underlying23 rfl (by kernel_rfl)) rfl ?_
    exact ⟨by first | rfl | (simp [errW_none, errW_some] <;> rfl) | (simp [*, errW_none, errW_some] <;> rfl), by repeat (first | (with_reducible first | exact HB.out | apply bA | apply bN | apply bD | refine bX ?_ (by assumption)) | exact HB.out)⟩
  replace c31 := Bool.eq_false_iff.mpr c31
  subst c31
  have H1 : ((spec_meRelative.f kj3 a0_0 a0_1 a0_2 a1_0 a1_1 a1_2).bind fun bt305 => ((spec_meAt.f kj3 bt305.1 bt305.2.1 bt305.2.2 a2_0 a2_1).bind fun bt308 => (some (bt308.1, bt308.2.1, bt308.2.2)))) = some (r1, r2, r3) := by rw [if_neg (show ¬ (false = true) by decide)] at H; exact H
  clear H
  have H := H1
  clear H1
  replace H := Option.bind_eq_some_iff.mp H
  obtain ⟨⟨t305, t306, t307⟩, A360, H⟩ := H
  try dsimp only at H
  have A36 := Am A360
  clear A360
  replace H := Option.bind_eq_some_iff.mp H
  obtain ⟨⟨t308, t309, t310⟩, A370, H⟩ := H
  try dsimp only at H
  have A37 := Am A370
  clear A370
  focus
   simp only [Option.some.injEq, Prod.mk.injEq] at H
   obtain ⟨rfl, rfl, rfl⟩ := H
   try go_wp2
   have n0_ := Am (kD BK299.out)
   have n1_ := Am (kD BK300.out)
   have n2_ := Am (kD BK301.out)
   have n3_ := Am (kD BK302.out)
   have n4_ := Am (bD HB.out)
   clear BK299 BK300 BK301 BK302 HB
   have BK299 := n0_; have BK300 := n1_; have BK301 := n2_; have BK302 := n3_; have HB := n4_
   clear n0_ n1_ n2_ n3_ n4_
   refine start_ (n := 9) (S := fun w' => w'.cell? ⟨gb299, 0, none⟩ = some (.int .i64 a0_0) ∧ w'.cell? ⟨gb299, 1, none⟩ = some (.int .i64 a0_1) ∧ w'.cell? ⟨gb299, 2, none⟩ = some (.int .i64 a0_2) ∧ w'.cell? ⟨gb300, 0, none⟩ = some (.int .i64 a1_0) ∧ w'.cell? ⟨gb300, 1, none⟩ = some (.int .i64 a1_1) ∧ w'.cell? ⟨gb300, 2, none⟩ = some (.int .i64 a1_2) ∧ w'.cell? ⟨gb301, 0, none⟩ = some (.int .i64 a2_0) ∧ w'.cell? ⟨gb301, 1, none⟩ = some (.int .i64 a2_1)) (ds := []) (pT 9 0) (by kernel_rfl) rfl rfl ⟨c30 BK299.out, c31 BK299.out, c32 BK299.out, c30 BK300.out, c31 BK300.out, c32 BK300.out, c20 BK301.out, c21 BK301.out⟩ (fun hHeld => ?_); refine with_tabW spec_AheadAt.tab3 spec_AheadAt.bits3 (fun HT_ HW_ => ?_)
   generalize wc.drew = w38 at BK299 BK300 BK301 BK302 HB hHeld ⊢
   iterate 2
    refine tI (v := ?_) (a' := ?_) rfl (take_ofW HT_.out HW_.out (by kernel_rfl)) (fun _ _ _ h => h) (Or.inl ⟨by rfl, ?_⟩) hHeld ?_ ?_
    rotate_left
    ·rintro w' ⟨s0, s1, s2, s3, s4, s5, s6, s7⟩
     go_simp
     with_reducible rfl
    rotate_left
    ·show Act.put _ (some _) _ = _
     simp only [Act.put, List.setIfInBounds_toArray, List.set_cons_zero, List.set_cons_succ, i64_w, i32_w]
     rfl
   refine take_ (i := 3) (N := some 21) (v := ?_) (a' := ?_) #[true, true, false, true, false, false, false, false, false] rfl rfl (take_ofW HT_.out HW_.out (by kernel_rfl)) (fun _ _ _ h => h) (Or.inl ⟨by rfl, ?_⟩) hHeld ?_ ?_
   rotate_left
   ·rintro w' ⟨s0, s1, s2, s3, s4, s5, s6, s7⟩
    go_simp
    with_reducible rfl
   rotate_left
   ·simp only [Act.put, List.setIfInBounds_toArray, List.set_cons_zero, List.set_cons_succ, i64_w, i32_w]
    rfl
   refine one_ (i := 2) (N := some 20) (pT 9 4) rfl rfl (one_of HT_.out (by kernel_rfl)) (by decide) (fun K hK => ?_)
   refine goes_ Try.func28 (by kernel_rfl) rfl #[.agg #[.int .i64 a0_0, .int .i64 a0_1, .int .i64 a0_2], .agg #[.int .i64 a1_0, .int .i64 a1_1, .int .i64 a1_2]] (by rfl) rfl rfl (by (try simp only [List.map_toArray, List.map_cons, List.map_nil]); first | done | rfl | (simp only [List.length_drop, List.length_take]; rfl)) ?_
   with_reducible refine (spec_meRelative.calls kj3 a0_0 a0_1 a0_2 a1_0 a1_1 a1_2 t305 t306 t307 _ A36.out).mono ?_
   rintro e w39 ⟨rfl, hb⟩
   refine ⟨_, rfl, ?_⟩
   have hp0 := pA BK299 hb
   have hv := vK HB hb
   have n4_ := Am (bT hv hb)
   clear HB
   replace BK299 := hp0 BK299; replace BK300 := hp0 BK300; replace BK301 := hp0 BK301; replace BK302 := hp0 BK302
   have HB := n4_
   clear n4_ hp0 hv
   (try clear hb)
   refine hK.out _ _ ⟨c30 BK299.out, c31 BK299.out, c32 BK299.out, c30 BK300.out, c31 BK300.out, c32 BK300.out, c20 BK301.out, c21 BK301.out⟩ (fun hHeld => ?_)
   clear hK K
   refine norm_ (a' := ?_) ?_ ?_
   rotate_left
   ·show Act.put _ (some 20) _ = _
    simp only [Act.put, List.setIfInBounds_toArray, List.set_cons_zero, List.set_cons_succ, i64_w, i32_w]
    rfl
   refine one_ (i := 4) (N := some 22) (pT 9 5) rfl rfl (one_of HT_.out (by kernel_rfl)) (by decide) (fun K hK => ?_)
   refine goes_ Try.func36 (by kernel_rfl) rfl #[.agg #[.int .i64 t305, .int .i64 t306, .int .i64 t307], .agg #[.int .i64 a2_0, .int .i64 a2_1]] (by rfl) rfl rfl (by (try simp only [List.map_toArray, List.map_cons, List.map_nil]); first | done | rfl | (simp only [List.length_drop, List.length_take]; rfl)) ?_
   with_reducible refine (spec_meAt.calls kj3 t305 t306 t307 a2_0 a2_1 t308 t309 t310 _ A37.out).mono ?_
   rintro e w40 ⟨rfl, hb⟩
   refine ⟨_, rfl, ?_⟩
   have hp0 := pA BK299 hb
   have hv := vK HB hb
   have n4_ := Am (bT hv hb)
   clear HB
   replace BK299 := hp0 BK299; replace BK300 := hp0 BK300; replace BK301 := hp0 BK301; replace BK302 := hp0 BK302
   have HB := n4_
   clear n4_ hp0 hv
   (try clear hb)
   refine hK.out _ _ ⟨c30 BK299.out, c31 BK299.out, c32 BK299.out, c30 BK300.out, c31 BK300.out, c32 BK300.out, c20 BK301.out, c21 BK301.out⟩ (fun hHeld => ?_)
   clear hK K
   refine norm_ (a' := ?_) ?_ ?_
   rotate_left
   ·show Act.put _ (some 22) _ = _
    simp only [Act.put, List.setIfInBounds_toArray, List.set_cons_zero, List.set_cons_succ, i64_w, i32_w]
    rfl
   iterate 2
    refine pI (v := ?_) (a' := ?_) rfl (any_of HT_.out (by kernel_rfl)) (fun _ _ _ h => h) (Or.inl ⟨by rfl, ?_⟩) ?_ ?_
    rotate_left
    ·intro w'
     go_simp
     with_reducible rfl
    rotate_left
    ·show Act.put _ (some _) _ = _
     simp only [Act.put, List.setIfInBounds_toArray, List.set_cons_zero, List.set_cons_succ, i64_w, i32_w]
     rfl
   refine one_ (i := 7) (N := none) (pT 9 8) rfl rfl (one_of HT_.out (by kernel_rfl)) (by decide) (fun K hK => ?_)
   have hs41 : w40.cell? ⟨gb302, 0, none⟩ = some (.int .i64 0) := c20 BK302.out
   have hfs41 := kF BK302.out 0
   have hns41_0 := NB299_302.out; have hns41_1 := NB300_302.out; have hns41_2 := NB301_302.out; have hms41_0 := NB302_299.out; have hms41_1 := NB302_300.out; have hms41_2 := NB302_301.out
   have hs42 : w40.cell? ⟨gb302, 1, none⟩ = some (.int .i64 0) := c21 BK302.out
   have hfs42 := kF BK302.out 1
   have hns42_0 := NB299_302.out; have hns42_1 := NB300_302.out; have hns42_2 := NB301_302.out; have hms42_0 := NB302_299.out; have hms42_1 := NB302_300.out; have hms42_2 := NB302_301.out
   refine skip_ (w1 := ?_) (by rfl) rfl ?_ ?_
   rotate_left
   ·go_simp
    rfl
   refine hK.out _ _ ⟨((cell_far (p := ⟨gb302, _, none⟩) NB299_302.out _).trans (((cell_far (p := ⟨gb302, _, none⟩) NB299_302.out _).trans (hHeld.1)))), ((cell_far (p := ⟨gb302, _, none⟩) NB299_302.out _).trans (((cell_far (p := ⟨gb302, _, none⟩) NB299_302.out _).trans (hHeld.2.1)))), ((cell_far (p := ⟨gb302, _, none⟩) NB299_302.out _).trans (((cell_far (p := ⟨gb302, _, none⟩) NB299_302.out _).trans (hHeld.2.2.1)))), ((cell_far (p := ⟨gb302, _, none⟩) NB300_302.out _).trans (((cell_far (p := ⟨gb302, _, none⟩) NB300_302.out _).trans (hHeld.2.2.2.1)))), ((cell_far (p := ⟨gb302, _, none⟩) NB300_302.out _).trans (((cell_far (p := ⟨gb302, _, none⟩) NB300_302.out _).trans (hHeld.2.2.2.2.1)))), ((cell_far (p := ⟨gb302, _, none⟩) NB300_302.out _).trans (((cell_far (p := ⟨gb302, _, none⟩) NB300_302.out _).trans (hHeld.2.2.2.2.2.1)))), ((cell_far (p := ⟨gb302, _, none⟩) NB301_302.out _).trans (((cell_far (p := ⟨gb302, _, none⟩) NB301_302.out _).trans (hHeld.2.2.2.2.2.2.1)))), ((cell_far (p := ⟨gb302, _, none⟩) NB301_302.out _).trans (((cell_far (p := ⟨gb302, _, none⟩) NB301_302.out _).trans (hHeld.2.2.2.2.2.2.2))))⟩ (fun hHeld => ?_)
   clear hK K
   refine pI (v := ?_) (a' := ?_) rfl (any_of HT_.out (by kernel_rfl)) (fun _ _ _ h => h) (Or.inl ⟨by rfl, ?_⟩) ?_ ?_
   rotate_left
   ·intro w'
    go_simp
    with_reducible rfl
   rotate_left
   ·show Act.put _ (some _) _ = _
    simp only [Act.put, List.setIfInBounds_toArray, List.set_cons_zero, List.set_cons_succ, i64_w, i32_w]
    rfl
   refine done_ (done_of HT_.out (by kernel_rfl)) ?_
   try go_wp2
   refine bodyPost_ret (results_ct rfl _ _ gb302 23 #[.int .i64 t308, .int .i64 t309] (0, 0) _ rfl (by (with_reducible repeat (first | refine kN ?_ _ | refine kD ?_ | refine kA ?_ _)); refine kP (cs := #[.int .i64 t308, .int .i64 0]) ?_ 1 _ rfl; (with_reducible repeat (first | refine kN ?_ _ | refine kD ?_ | refine kA ?_ _)); refine kP (cs := #[.int .i64 0, .int .i64 0]) ?_ 0 _ rfl; (with_reducible repeat (first | refine kN ?_ _ | refine kD ?_ | refine kA ?_ _)); exact BK302.out) Try.underlying23 rfl (by kernel_rfl)) rfl ?_
   exact ⟨by first | rfl | (simp [errW_none, errW_some] <;> rfl) | (simp [*, errW_none, errW_some] <;> rfl), by repeat (first | (with_reducible first | exact HB.out | apply bA | apply bN | apply bD | refine bX ?_ (by assumption)) | exact HB.out)⟩
end Go.Proofs.Ytcoembcafgelkaa.PFnHandsAheadOfAll
