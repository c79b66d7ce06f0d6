-- WRITTEN BY A PROGRAM OF THIS SESSION (wip/tools): its own text, not the kit's printed one.
import Derived.Test.YtbgklddlcmgakaaPFnHandsMeetOfAllx0
import Derived.Test.YtbgklddlcmgakaaPFnHandsMeetOfAllx2
import Derived.Test.YtbgklddlcmgakaaPFnHandsMeetOfAllx4
namespace Go.Proofs.Ytbgklddlcmgakaa.PFnHandsMeetOfAll
open Go.RowKit Go.Proofs.YtbgklddlcmgakaaW.PrintWords Go.Proofs.YtbgklddlcmgakaaW.PrintLast Go.Proofs.YtbgklddlcmgakaaW.PrintMore
attribute [local go_sem] max2_int min2_int max_two min_two max_three min_three max_four min_four   -- for this text's walks alone
set_option linter.unusedVariables false
set_option linter.unusedSimpArgs false

/-! ### impl_aheadTimes: function 21 -/
def impl_aheadTimes.j0 : Nat → Bool → Int → Int → Int → Int → Int → Int → Int → Int → Option ((List (S23)) × Bool)
 | 0, _, _, _, _, _, _, _, _, _ => none
 | k + 1, x19, x171000, x171001, x171002, x172000, x172001, x172002, x173000, x173001 => if x19 = true then (some (([] : List (S23)), false)) else ((impl_relative.f k x171000 x171001 x171002 x172000 x172001 x172002).bind fun bt177 => ((impl_Hand_timesAt.f k bt177.1 bt177.2.1 bt177.2.2 x173000 x173001).bind fun bt180 => (some (bt180.1, bt180.2))))
def impl_aheadTimes.f (k : Nat) (a0_0 : Int) (a0_1 : Int) (a0_2 : Int) (a1_0 : Int) (a1_1 : Int) (a1_2 : Int) (a2_0 : Int) (a2_1 : Int) : Option ((List (S23)) × Bool) := (impl_areHands.f k (([(⟨(⟨a0_0, a0_1⟩ : S23), a0_2⟩ : S25), (⟨(⟨a1_0, a1_1⟩ : S23), a1_2⟩ : S25)] : List (S25)))).bind fun t176 => (if t176 = true then (impl_aheadTimes.j0 k (a0_2 == a1_2) a0_0 a0_1 a0_2 a1_0 a1_1 a1_2 a2_0 a2_1) else (impl_aheadTimes.j0 k true a0_0 a0_1 a0_2 a1_0 a1_1 a1_2 a2_0 a2_1))
theorem impl_aheadTimes.mono_l : ∀ k, (∀ y0 y1 y2 y3 y4 y5 y6 y7 y8, LeO (impl_aheadTimes.j0 k y0 y1 y2 y3 y4 y5 y6 y7 y8) (impl_aheadTimes.j0 (k + 1) y0 y1 y2 y3 y4 y5 y6 y7 y8))
 | 0 => fun _ _ _ _ _ _ _ _ _ r h => by simp [impl_aheadTimes.j0] at h
 | k + 1 => by
  have ih0 := impl_aheadTimes.mono_l k
  ·intro y0 y1 y2 y3 y4 y5 y6 y7 y8
   unfold impl_aheadTimes.j0
   repeat' first
   | (with_reducible apply ih0)
   | (with_reducible exact impl_Hand_timesAt.mono _ _ _ _ _ _)
   | (with_reducible exact impl_areHands.mono _ _)
   | (with_reducible exact impl_relative.mono _ _ _ _ _ _ _)
   | (with_reducible exact LeO.refl _)
   | (with_reducible exact LeO.none _)
   | (with_reducible refine LeO.ite ?_ ?_)
   | (with_reducible refine LeO.bind ?_ (fun _ => ?_))
   | apply ih0
   | exact impl_Hand_timesAt.mono _ _ _ _ _ _
   | exact impl_areHands.mono _ _
   | exact impl_relative.mono _ _ _ _ _ _ _
   | exact LeO.none _
   | refine LeO.ite ?_ ?_
   | refine LeO.bind ?_ (fun _ => ?_)
theorem impl_aheadTimes.mono : ∀ a0 a1 a2 a3 a4 a5 a6 a7 k, LeO (impl_aheadTimes.f k a0 a1 a2 a3 a4 a5 a6 a7) (impl_aheadTimes.f (k + 1) a0 a1 a2 a3 a4 a5 a6 a7) := by
 intro a0 a1 a2 a3 a4 a5 a6 a7 k
 have ih0 := impl_aheadTimes.mono_l k
 unfold impl_aheadTimes.f
 repeat' first
   | (with_reducible apply ih0)
   | (with_reducible exact impl_Hand_timesAt.mono _ _ _ _ _ _)
   | (with_reducible exact impl_areHands.mono _ _)
   | (with_reducible exact impl_relative.mono _ _ _ _ _ _ _)
   | (with_reducible exact LeO.refl _)
   | (with_reducible exact LeO.none _)
   | (with_reducible refine LeO.ite ?_ ?_)
   | (with_reducible refine LeO.bind ?_ (fun _ => ?_))
   | apply ih0
   | exact impl_Hand_timesAt.mono _ _ _ _ _ _
   | exact impl_areHands.mono _ _
   | exact impl_relative.mono _ _ _ _ _ _ _
   | exact LeO.none _
   | refine LeO.ite ?_ ?_
   | refine LeO.bind ?_ (fun _ => ?_)
def impl_aheadTimes.T3 : Bool × List (List Nat × List Nat) := (true, [([], []), ([], []), ([0, 1], [0, 1]), ([], []), ([2, 3, 2], [2, 3]), ([4], [4]), ([4], [4]), ([5, 4, 0, 1, 2, 3, 4, 5, 6], [5]), ([6, 7, 0, 1, 2, 3, 4, 5, 6, 7], [6])])
def impl_aheadTimes.B3 : List Nat := [0, 0, 3, 0, 15, 31, 31, 127, 255]
theorem impl_aheadTimes.tab3 : rtab .any (opsOf Try.f21 3) = impl_aheadTimes.T3 := by kernel_rfl
theorem impl_aheadTimes.bits3 : waitsOk impl_aheadTimes.T3.2 impl_aheadTimes.B3 = true := by kernel_rfl
set_option maxHeartbeats 8000000 in
set_option maxRecDepth 100000 in
theorem impl_aheadTimes.calls (k : Nat) (a0_0 : Int) (a0_1 : Int) (a0_2 : Int) (a1_0 : Int) (a1_1 : Int) (a1_2 : Int) (a2_0 : Int) (a2_1 : Int) (r1 : List (S23)) (r2 : Bool) (w : World) (h : impl_aheadTimes.f k a0_0 a0_1 a0_2 a1_0 a1_1 a1_2 a2_0 a2_1 = some (r1, r2)) :
  Calls Try.prog 21 #[.agg #[.int .i64 a0_0, .int .i64 a0_1, .int .i64 a0_2], .agg #[.int .i64 a1_0, .int .i64 a1_1, .int .i64 a1_2], .agg #[.int .i64 a2_0, .int .i64 a2_1]] w fun e w' => ∃ v0_ : Value, e = .returned (.tuple #[v0_, .bool r2]) ∧ Kd.R k23 23 w' w.heap.size (fun _ => True) v0_ r1 ∧ Below w.heap.size w w' := by
 have hu25 := Try.underlying25; have hu23 := Try.underlying23
 have HB := Am (Below.refl w.heap.size w)
 have H : ((impl_areHands.f k (([(⟨(⟨a0_0, a0_1⟩ : S23), a0_2⟩ : S25), (⟨(⟨a1_0, a1_1⟩ : S23), a1_2⟩ : S25)] : List (S25)))).bind fun t176 => (if t176 = true then (impl_aheadTimes.j0 k (a0_2 == a1_2) a0_0 a0_1 a0_2 a1_0 a1_1 a1_2 a2_0 a2_1) else (impl_aheadTimes.j0 k true a0_0 a0_1 a0_2 a1_0 a1_1 a1_2 a2_0 a2_1))) = some (r1, r2) := h
 clear h
 have HC4 := Am H
 clear H
 go_enter Try.func21, Try.ntmps21
 go_upto_region 1 with (first | ((with_reducible refine gate_dst (N := 3) rfl ?_); refine bE 3 #[.int .i64 a0_0, .int .i64 a0_1, .int .i64 a0_2] 25 ?_; intro gb170 hg w5 hbox hb; have hv := vK HB hb; have n0_ := Am (bT hv hb); have n1_ := Am (hbox); have GE170 := kG hg hv; clear HB; have HB := n0_; have BK170 := n1_; clear n0_ n1_ hv; clear hb hbox hg) | ((with_reducible refine gate_dst (N := 4) rfl ?_); refine bE 4 #[.int .i64 a1_0, .int .i64 a1_1, .int .i64 a1_2] 25 ?_; intro gb171 hg w6 hbox hb; have hp0 := pA BK170 hb; have hv := vK HB hb; have n1_ := Am (bT hv hb); have n2_ := Am (hbox); have GE171 := kG hg hv; have hp1 := pK BK170 hb; obtain ⟨NB170_171, NB171_170⟩ := kXY hg hp1 BK170; clear HB; replace BK170 := hp0 BK170; have HB := n1_; have BK171 := n2_; clear n1_ n2_ hp0 hp1 hv; clear hb hbox hg) | ((with_reducible refine gate_dst (N := 5) rfl ?_); refine bE 5 #[.int .i64 a2_0, .int .i64 a2_1] 23 ?_; intro gb172 hg w7 hbox hb; have hp0 := pA BK170 hb; have hv := vK HB hb; have n2_ := Am (bT hv hb); have n3_ := Am (hbox); have GE172 := kG hg hv; have hp1 := pK BK170 hb; obtain ⟨NB170_172, NB172_170⟩ := kXY hg hp1 BK170; obtain ⟨NB171_172, NB172_171⟩ := kXY hg hp1 BK171; clear HB; replace BK170 := hp0 BK170; replace BK171 := hp0 BK171; have HB := n2_; have BK172 := n3_; clear n2_ n3_ hp0 hp1 hv; clear hb hbox hg))
 (try simp only [Act.put, List.setIfInBounds_toArray, List.set_cons_zero, List.set_cons_succ])
 go_cut [19] (fun v19 wc => ∃ (kq : Nat) (x19_3 : Bool), v19 = .bool x19_3 ∧ Aside0 (impl_aheadTimes.j0 kq x19_3 a0_0 a0_1 a0_2 a1_0 a1_1 a1_2 a2_0 a2_1 = some (r1, r2)) ∧ Aside0 (kq ≤ k) ∧ Aside0 (wc.heap[gb170]? = some (.cells #[.int .i64 a0_0, .int .i64 a0_1, .int .i64 a0_2] 25 (0, 0))) ∧ Aside0 (wc.heap[gb171]? = some (.cells #[.int .i64 a1_0, .int .i64 a1_1, .int .i64 a1_2] 25 (0, 0))) ∧ Aside0 (wc.heap[gb172]? = some (.cells #[.int .i64 a2_0, .int .i64 a2_1] 23 (0, 0))) ∧ Aside0 (Below w.heap.size w wc))
 case first =>
  have H := HC4.out
  clear HC4
  obtain ⟨y173, hy173⟩ : ∃ y_ : List (S25), y_ = (([(⟨(⟨a0_0, a0_1⟩ : S23), a0_2⟩ : S25), (⟨(⟨a1_0, a1_1⟩ : S23), a1_2⟩ : S25)] : List (S25))) := ⟨_, rfl⟩
  replace H : ((impl_areHands.f k y173).bind fun t176 => (if t176 = true then (impl_aheadTimes.j0 k (a0_2 == a1_2) a0_0 a0_1 a0_2 a1_0 a1_1 a1_2 a2_0 a2_1) else (impl_aheadTimes.j0 k true a0_0 a0_1 a0_2 a1_0 a1_1 a1_2 a2_0 a2_1))) = some (r1, r2) := by first | (rw [hy173]; with_reducible exact H) | (have H2_ := (Option.bind_some _ _).symm.trans H; rw [hy173]; with_reducible exact H2_) | (have H2_ := (Option.bind_some _ _).symm.trans H; with_reducible exact H2_) | with_reducible exact H | (rw [hy173]; exact H) | exact H
  have Ny173 := Am hy173
  clear hy173
  replace H := Option.bind_eq_some_iff.mp H
  obtain ⟨t176, A80, H⟩ := H
  try dsimp only at H
  have A8 := Am A80
  clear A80
  by_cases c9 : t176 = true
  ·subst c9
   have H1 : (impl_aheadTimes.j0 k (a0_2 == a1_2) a0_0 a0_1 a0_2 a1_0 a1_1 a1_2 a2_0 a2_1) = some (r1, r2) := by rw [if_pos rfl] at H; exact H
   clear H
   have H := H1
   clear H1
   focus
    have H' := Am H
    clear H
    have nq10 := kO NB170_171; have nq11 := kO NB170_172
    have zq12 := c3 BK170
    have nq13 := kO NB171_172
    have zq14 := c3 BK171
    go_wp2_with (first | ((with_reducible refine gate_dst (N := 10) rfl ?_); refine Kd.R_lit k25 _ 25 ?hg (N := 10) ?hd (xs := ([(⟨(⟨a0_0, a0_1⟩ : S23), a0_2⟩ : S25), (⟨(⟨a1_0, a1_1⟩ : S23), a1_2⟩ : S25)] : List (S25))) (inner := [.int .i64 a0_0, .int .i64 a0_1, .int .i64 a0_2, .int .i64 a1_0, .int .i64 a1_1, .int .i64 a1_2]) (ok := fun _ => True) (okp := fun _ => True) ?hr ?hp (fun _ hk => hk) trivial (Below.refl _ _) (Nat.le_refl _) (by simp) ?_; (case hd => rfl); (case hg => rfl); (case hr => first | (go_simp; done) | (go_simp; rfl)); (case hp => exact (Reps.c3 (show Kd.M k25 _ _ _ (⟨(⟨a0_0, a0_1⟩ : S23), a0_2⟩ : S25) [.int .i64 a0_0, .int .i64 a0_1, .int .i64 a0_2] from (k25_mkM _ _ _ (⟨(⟨a0_0, a0_1⟩ : S23), a0_2⟩ : S25) )) (Reps.c3 (show Kd.M k25 _ _ _ (⟨(⟨a1_0, a1_1⟩ : S23), a1_2⟩ : S25) [.int .i64 a1_0, .int .i64 a1_1, .int .i64 a1_2] from (k25_mkM _ _ _ (⟨(⟨a1_0, a1_1⟩ : S23), a1_2⟩ : S25) )) (Reps.none _ _)))); intro v174 w15 ho16 hb hg_ hnew_; clear hg_ hnew_; (first | rw [← Ny173.out] at ho16 | (simp only [Int.reduceToNat] at ho16; rw [← Ny173.out] at ho16)); have n0_ := Am (Kd.R_lower (Kd.R_newB (Kd.R_newB ho16 (g := gb170) (o := .cells #[.int .i64 a0_0, .int .i64 a0_1, .int .i64 a0_2] 25 (0, 0)) (kU BK170)) (g := gb171) (o := .cells #[.int .i64 a1_0, .int .i64 a1_1, .int .i64 a1_2] 25 (0, 0)) (kU BK171)) (bZ (by repeat (first | (with_reducible first | exact HB.out | apply bA | apply bN | apply bD | refine bX ?_ (by assumption)) | exact HB.out)))); have hp0 := pA BK170 hb; have hv := vK HB hb; have n4_ := Am (bT hv hb); clear HB; have HO175 := n0_; replace BK170 := hp0 BK170; replace BK171 := hp0 BK171; replace BK172 := hp0 BK172; have HB := n4_; clear n0_ n4_ hp0 hv; clear hb ho16; obtain ⟨Ao17, co17, eo17⟩ := Kd.R_slice HO175.out; subst eo17) | ((with_reducible refine gate_callee (f := 25) rfl ?_); refine gL (some 11) Try.func25 #[.slice Ao17 y173.length co17] rfl ?_; (with_reducible refine (impl_areHands.calls k _ _ y173 true _ ?side1 ?side2 A8.out).mono ?_); (case side1 => repeat (first | exact (Kd.R_reads' HO175.out).2.2 | (with_reducible refine Kd.C_alloc ?_ _) | (with_reducible refine Kd.C_drewN ?_ _) | (with_reducible refine Kd.C_drew ?_))); (case side2 => exact (Kd.R_reads' HO175.out).2.1); rintro e w18 ⟨rfl, hb⟩; refine ⟨_, rfl, ?_⟩; have n0_ := Am (Kd.R_below (kW HO175) hb); have hp0 := pA BK170 hb; have hv := vK HB hb; have n4_ := Am (bT hv hb); clear HO175; clear HB; have HO175 := n0_; replace BK170 := hp0 BK170; replace BK171 := hp0 BK171; replace BK172 := hp0 BK172; have HB := n4_; clear n0_ n4_ hp0 hv; (try clear hb); have zq19 := c3 BK170; have zq20 := c3 BK171))
    go_meet
    case rel =>
     refine ⟨_, ((a0_2 == a1_2)), (by first | rfl | (simp; done) | (simp [*]; done)), H', ⟨by first | omega | exact Nat.le_refl _⟩, ⟨?_⟩, ⟨?_⟩, ⟨?_⟩, ⟨by repeat (first | (with_reducible first | exact HB.out | apply bA | apply bN | apply bD | refine bX ?_ (by assumption)) | exact HB.out)⟩⟩
     all_goals ((with_reducible repeat (first | refine kN ?_ _ | refine kD ?_ | refine kA ?_ _)); exact Aside0.out (by assumption))
  replace c9 := Bool.eq_false_iff.mpr c9
  subst c9
  have H1 : (impl_aheadTimes.j0 k true a0_0 a0_1 a0_2 a1_0 a1_1 a1_2 a2_0 a2_1) = some (r1, r2) := by rw [if_neg (show ¬ (false = true) by decide)] at H; exact H
  clear H
  have H := H1
  clear H1
  focus
   have H' := Am H
   clear H
   have nq21 := kO NB170_171; have nq22 := kO NB170_172
   have zq23 := c3 BK170
   have nq24 := kO NB171_172
   have zq25 := c3 BK171
   go_wp2_with (first | ((with_reducible refine gate_dst (N := 10) rfl ?_); refine Kd.R_lit k25 _ 25 ?hg (N := 10) ?hd (xs := ([(⟨(⟨a0_0, a0_1⟩ : S23), a0_2⟩ : S25), (⟨(⟨a1_0, a1_1⟩ : S23), a1_2⟩ : S25)] : List (S25))) (inner := [.int .i64 a0_0, .int .i64 a0_1, .int .i64 a0_2, .int .i64 a1_0, .int .i64 a1_1, .int .i64 a1_2]) (ok := fun _ => True) (okp := fun _ => True) ?hr ?hp (fun _ hk => hk) trivial (Below.refl _ _) (Nat.le_refl _) (by simp) ?_; (case hd => rfl); (case hg => rfl); (case hr => first | (go_simp; done) | (go_simp; rfl)); (case hp => exact (Reps.c3 (show Kd.M k25 _ _ _ (⟨(⟨a0_0, a0_1⟩ : S23), a0_2⟩ : S25) [.int .i64 a0_0, .int .i64 a0_1, .int .i64 a0_2] from (k25_mkM _ _ _ (⟨(⟨a0_0, a0_1⟩ : S23), a0_2⟩ : S25) )) (Reps.c3 (show Kd.M k25 _ _ _ (⟨(⟨a1_0, a1_1⟩ : S23), a1_2⟩ : S25) [.int .i64 a1_0, .int .i64 a1_1, .int .i64 a1_2] from (k25_mkM _ _ _ (⟨(⟨a1_0, a1_1⟩ : S23), a1_2⟩ : S25) )) (Reps.none _ _)))); intro v174 w26 ho27 hb hg_ hnew_; clear hg_ hnew_; (first | rw [← Ny173.out] at ho27 | (simp only [Int.reduceToNat] at ho27; rw [← Ny173.out] at ho27)); have n0_ := Am (Kd.R_lower (Kd.R_newB (Kd.R_newB ho27 (g := gb170) (o := .cells #[.int .i64 a0_0, .int .i64 a0_1, .int .i64 a0_2] 25 (0, 0)) (kU BK170)) (g := gb171) (o := .cells #[.int .i64 a1_0, .int .i64 a1_1, .int .i64 a1_2] 25 (0, 0)) (kU BK171)) (bZ (by repeat (first | (with_reducible first | exact HB.out | apply bA | apply bN | apply bD | refine bX ?_ (by assumption)) | exact HB.out)))); have hp0 := pA BK170 hb; have hv := vK HB hb; have n4_ := Am (bT hv hb); clear HB; have HO175 := n0_; replace BK170 := hp0 BK170; replace BK171 := hp0 BK171; replace BK172 := hp0 BK172; have HB := n4_; clear n0_ n4_ hp0 hv; clear hb ho27; obtain ⟨Ao28, co28, eo28⟩ := Kd.R_slice HO175.out; subst eo28) | ((with_reducible refine gate_callee (f := 25) rfl ?_); refine gL (some 11) Try.func25 #[.slice Ao28 y173.length co28] rfl ?_; (with_reducible refine (impl_areHands.calls k _ _ y173 false _ ?side1 ?side2 A8.out).mono ?_); (case side1 => repeat (first | exact (Kd.R_reads' HO175.out).2.2 | (with_reducible refine Kd.C_alloc ?_ _) | (with_reducible refine Kd.C_drewN ?_ _) | (with_reducible refine Kd.C_drew ?_))); (case side2 => exact (Kd.R_reads' HO175.out).2.1); rintro e w29 ⟨rfl, hb⟩; refine ⟨_, rfl, ?_⟩; have n0_ := Am (Kd.R_below (kW HO175) hb); have hp0 := pA BK170 hb; have hv := vK HB hb; have n4_ := Am (bT hv hb); clear HO175; clear HB; have HO175 := n0_; replace BK170 := hp0 BK170; replace BK171 := hp0 BK171; replace BK172 := hp0 BK172; have HB := n4_; clear n0_ n4_ hp0 hv; (try clear hb)))
   go_meet
   case rel =>
    refine ⟨_, (true), (by first | rfl | (simp; done) | (simp [*]; done)), H', ⟨by first | omega | exact Nat.le_refl _⟩, ⟨?_⟩, ⟨?_⟩, ⟨?_⟩, ⟨by repeat (first | (with_reducible first | exact HB.out | apply bA | apply bN | apply bD | refine bX ?_ (by assumption)) | exact HB.out)⟩⟩
    all_goals ((with_reducible repeat (first | refine kN ?_ _ | refine kD ?_ | refine kA ?_ _)); exact Aside0.out (by assumption))
 clear HC4
 obtain ⟨kq, x19_3, rfl, HA, HJ3, BK170, BK171, BK172, HB⟩ := hcut
 cases kq with
 | zero => exact absurd HA.out (by simp [impl_aheadTimes.j0])
 | succ kj3 =>
  have H := HA.out
  clear HA
  simp only [impl_aheadTimes.j0] at H
  by_cases c30 : x19_3 = true
  ·subst c30
   have H1 : (some (([] : List (S23)), false)) = some (r1, r2) := by rw [if_pos rfl] at H; exact H
   clear H
   have H := H1
   clear H1
   focus
    simp only [Option.some.injEq, Prod.mk.injEq] at H
    obtain ⟨rfl, rfl⟩ := H
    go_wp2
    go_ret2
    exact ⟨_, by first | rfl | (simp [errW_none, errW_some] <;> rfl) | (simp [*, errW_none, errW_some] <;> rfl), by first | exact Kd.R_nil _ _ _ _ _ | exact Kd.N_nil _ _ _ _ _ | exact Kd.V_nil _ _ _ _ _ | exact Kd.Q_nil _ _ _ _ _ | exact Kd.S_nil _ _ _ _ _, by repeat (first | (with_reducible first | exact HB.out | apply bA | apply bN | apply bD | refine bX ?_ (by assumption)) | exact HB.out)⟩
  replace c30 := Bool.eq_false_iff.mpr c30
  subst c30
  have H1 : ((impl_relative.f kj3 a0_0 a0_1 a0_2 a1_0 a1_1 a1_2).bind fun bt177 => ((impl_Hand_timesAt.f kj3 bt177.1 bt177.2.1 bt177.2.2 a2_0 a2_1).bind fun bt180 => (some (bt180.1, bt180.2)))) = some (r1, r2) := by rw [if_neg (show ¬ (false = true) by decide)] at H; exact H
  clear H
  have H := H1
  clear H1
  replace H := Option.bind_eq_some_iff.mp H
  obtain ⟨⟨t177, t178, t179⟩, A310, H⟩ := H
  try dsimp only at H
  have A31 := Am A310
  clear A310
  replace H := Option.bind_eq_some_iff.mp H
  obtain ⟨⟨t180, t183⟩, A320, H⟩ := H
  try dsimp only at H
  have A32 := Am A320
  clear A320
  focus
   simp only [Option.some.injEq, Prod.mk.injEq] at H
   obtain ⟨rfl, rfl⟩ := H
   try go_wp2
   have n0_ := Am (kD BK170.out)
   have n1_ := Am (kD BK171.out)
   have n2_ := Am (kD BK172.out)
   have n3_ := Am (bD HB.out)
   clear BK170 BK171 BK172 HB
   have BK170 := n0_; have BK171 := n1_; have BK172 := n2_; have HB := n3_
   clear n0_ n1_ n2_ n3_
   refine start_ (n := 9) (S := fun w' => w'.cell? ⟨gb170, 0, none⟩ = some (.int .i64 a0_0) ∧ w'.cell? ⟨gb170, 1, none⟩ = some (.int .i64 a0_1) ∧ w'.cell? ⟨gb170, 2, none⟩ = some (.int .i64 a0_2) ∧ w'.cell? ⟨gb171, 0, none⟩ = some (.int .i64 a1_0) ∧ w'.cell? ⟨gb171, 1, none⟩ = some (.int .i64 a1_1) ∧ w'.cell? ⟨gb171, 2, none⟩ = some (.int .i64 a1_2) ∧ w'.cell? ⟨gb172, 0, none⟩ = some (.int .i64 a2_0) ∧ w'.cell? ⟨gb172, 1, none⟩ = some (.int .i64 a2_1)) (ds := []) (pT 9 0) (by kernel_rfl) rfl rfl ⟨c30 BK170.out, c31 BK170.out, c32 BK170.out, c30 BK171.out, c31 BK171.out, c32 BK171.out, c20 BK172.out, c21 BK172.out⟩ (fun hHeld => ?_); refine with_tabW impl_aheadTimes.tab3 impl_aheadTimes.bits3 (fun HT_ HW_ => ?_)
   generalize wc.drew = w33 at BK170 BK171 BK172 HB hHeld ⊢
   iterate 2
    refine tI (v := ?_) (a' := ?_) rfl (take_ofW HT_.out HW_.out (by kernel_rfl)) (fun _ _ _ h => h) (Or.inl ⟨by rfl, ?_⟩) hHeld ?_ ?_
    rotate_left
    ·rintro w' ⟨s0, s1, s2, s3, s4, s5, s6, s7⟩
     go_simp
     with_reducible rfl
    rotate_left
    ·show Act.put _ (some _) _ = _
     simp only [Act.put, List.setIfInBounds_toArray, List.set_cons_zero, List.set_cons_succ, i64_w, i32_w]
     rfl
   refine take_ (i := 3) (N := some 23) (v := ?_) (a' := ?_) #[true, true, false, true, false, false, false, false, false] rfl rfl (take_ofW HT_.out HW_.out (by kernel_rfl)) (fun _ _ _ h => h) (Or.inl ⟨by rfl, ?_⟩) hHeld ?_ ?_
   rotate_left
   ·rintro w' ⟨s0, s1, s2, s3, s4, s5, s6, s7⟩
    go_simp
    with_reducible rfl
   rotate_left
   ·simp only [Act.put, List.setIfInBounds_toArray, List.set_cons_zero, List.set_cons_succ, i64_w, i32_w]
    rfl
   refine one_ (i := 2) (N := some 22) (pT 9 4) rfl rfl (one_of HT_.out (by kernel_rfl)) (by decide) (fun K hK => ?_)
   refine goes_ Try.func42 (by kernel_rfl) rfl #[.agg #[.int .i64 a0_0, .int .i64 a0_1, .int .i64 a0_2], .agg #[.int .i64 a1_0, .int .i64 a1_1, .int .i64 a1_2]] (by rfl) rfl rfl (by (try simp only [List.map_toArray, List.map_cons, List.map_nil]); first | done | rfl | (simp only [List.length_drop, List.length_take]; rfl)) ?_
   with_reducible refine (impl_relative.calls kj3 a0_0 a0_1 a0_2 a1_0 a1_1 a1_2 t177 t178 t179 _ A31.out).mono ?_
   rintro e w34 ⟨rfl, hb⟩
   refine ⟨_, rfl, ?_⟩
   have hp0 := pA BK170 hb
   have hv := vK HB hb
   have n3_ := Am (bT hv hb)
   clear HB
   replace BK170 := hp0 BK170; replace BK171 := hp0 BK171; replace BK172 := hp0 BK172
   have HB := n3_
   clear n3_ hp0 hv
   (try clear hb)
   refine hK.out _ _ ⟨c30 BK170.out, c31 BK170.out, c32 BK170.out, c30 BK171.out, c31 BK171.out, c32 BK171.out, c20 BK172.out, c21 BK172.out⟩ (fun hHeld => ?_)
   clear hK K
   refine norm_ (a' := ?_) ?_ ?_
   rotate_left
   ·show Act.put _ (some 22) _ = _
    simp only [Act.put, List.setIfInBounds_toArray, List.set_cons_zero, List.set_cons_succ, i64_w, i32_w]
    rfl
   refine one_ (i := 4) (N := some 24) (pT 9 5) rfl rfl (one_of HT_.out (by kernel_rfl)) (by decide) (fun K hK => ?_)
   refine goes_ Try.func43 (by kernel_rfl) rfl #[.agg #[.int .i64 t177, .int .i64 t178, .int .i64 t179], .agg #[.int .i64 a2_0, .int .i64 a2_1]] (by rfl) rfl rfl (by (try simp only [List.map_toArray, List.map_cons, List.map_nil]); first | done | rfl | (simp only [List.length_drop, List.length_take]; rfl)) ?_
   with_reducible refine (impl_Hand_timesAt.calls kj3 t177 t178 t179 a2_0 a2_1 t180 t183 _ A32.out).mono ?_
   rintro e w35 ⟨v181, rfl, ho0, hb⟩
   refine ⟨_, rfl, ?_⟩
   have n0_ := Am (Kd.R_lower (Kd.R_newB ho0 (g := gb172) (o := .cells #[.int .i64 a2_0, .int .i64 a2_1] 23 (0, 0)) (kU BK172)) (bZ (by repeat (first | (with_reducible first | exact HB.out | apply bA | apply bN | apply bD | refine bX ?_ (by assumption)) | exact HB.out))))
   have hp0 := pA BK170 hb
   have hv := vK HB hb
   have n4_ := Am (bT hv hb)
   clear HB
   have HO182 := n0_
   replace BK170 := hp0 BK170; replace BK171 := hp0 BK171; replace BK172 := hp0 BK172
   have HB := n4_
   clear n0_ n4_ hp0 hv
   (try clear hb)
   refine hK.out _ _ ⟨c30 BK170.out, c31 BK170.out, c32 BK170.out, c30 BK171.out, c31 BK171.out, c32 BK171.out, c20 BK172.out, c21 BK172.out⟩ (fun hHeld => ?_)
   clear hK K
   refine norm_ (a' := ?_) ?_ ?_
   rotate_left
   ·show Act.put _ (some 24) _ = _
    simp only [Act.put, List.setIfInBounds_toArray, List.set_cons_zero, List.set_cons_succ, i64_w, i32_w]
    rfl
   iterate 4
    refine pI (v := ?_) (a' := ?_) rfl (any_of HT_.out (by kernel_rfl)) (fun _ _ _ h => h) (Or.inl ⟨by rfl, ?_⟩) ?_ ?_
    rotate_left
    ·intro w'
     go_simp
     with_reducible rfl
    rotate_left
    ·show Act.put _ (some _) _ = _
     simp only [Act.put, List.setIfInBounds_toArray, List.set_cons_zero, List.set_cons_succ, i64_w, i32_w]
     rfl
   refine done_ (done_of HT_.out (by kernel_rfl)) ?_
   try go_wp2
   go_ret2
   exact ⟨_, by first | rfl | (simp [errW_none, errW_some] <;> rfl) | (simp [*, errW_none, errW_some] <;> rfl), by (with_reducible repeat (first | apply Kd.R_alloc | apply Kd.R_drewN | apply Kd.R_drew)); exact Kd.R_mono HO182.out (fun _ hk => trivial), by repeat (first | (with_reducible first | exact HB.out | apply bA | apply bN | apply bD | refine bX ?_ (by assumption)) | exact HB.out)⟩
/-! ### impl_MeetTimes: function 4 -/
def impl_MeetTimes.f (k : Nat) (a0_0 : Int) (a0_1 : Int) (a0_2 : Int) (a1_0 : Int) (a1_1 : Int) (a1_2 : Int) : Option ((List (S23)) × Bool) := (impl_aheadTimes.f k a0_0 a0_1 a0_2 a1_0 a1_1 a1_2 0 1).bind fun bt186 => (some (bt186.1, bt186.2))
theorem impl_MeetTimes.mono : ∀ a0 a1 a2 a3 a4 a5 k, LeO (impl_MeetTimes.f k a0 a1 a2 a3 a4 a5) (impl_MeetTimes.f (k + 1) a0 a1 a2 a3 a4 a5) := by
 intro a0 a1 a2 a3 a4 a5 k
 unfold impl_MeetTimes.f
 repeat' first
   | (with_reducible exact impl_aheadTimes.mono _ _ _ _ _ _ _ _ _)
   | (with_reducible exact LeO.refl _)
   | (with_reducible exact LeO.none _)
   | (with_reducible refine LeO.ite ?_ ?_)
   | (with_reducible refine LeO.bind ?_ (fun _ => ?_))
   | exact impl_aheadTimes.mono _ _ _ _ _ _ _ _ _
   | exact LeO.none _
   | refine LeO.ite ?_ ?_
   | refine LeO.bind ?_ (fun _ => ?_)
set_option maxHeartbeats 8000000 in
set_option maxRecDepth 100000 in
theorem impl_MeetTimes.calls (k : Nat) (a0_0 : Int) (a0_1 : Int) (a0_2 : Int) (a1_0 : Int) (a1_1 : Int) (a1_2 : Int) (r1 : List (S23)) (r2 : Bool) (w : World) (h : impl_MeetTimes.f k a0_0 a0_1 a0_2 a1_0 a1_1 a1_2 = some (r1, r2)) :
  Calls Try.prog 4 #[.agg #[.int .i64 a0_0, .int .i64 a0_1, .int .i64 a0_2], .agg #[.int .i64 a1_0, .int .i64 a1_1, .int .i64 a1_2]] w fun e w' => ∃ v0_ : Value, e = .returned (.tuple #[v0_, .bool r2]) ∧ Kd.R k23 23 w' w.heap.size (fun _ => True) v0_ r1 ∧ Below w.heap.size w w' := by
 have hu25 := Try.underlying25; have hu23 := Try.underlying23
 have HB := Am (Below.refl w.heap.size w)
 have H : ((impl_aheadTimes.f k a0_0 a0_1 a0_2 a1_0 a1_1 a1_2 0 1).bind fun bt186 => (some (bt186.1, bt186.2))) = some (r1, r2) := h
 clear h
 replace H := Option.bind_eq_some_iff.mp H
 obtain ⟨⟨t186, t189⟩, A30, H⟩ := H
 try dsimp only at H
 have A3 := Am A30
 clear A30
 focus
  simp only [Option.some.injEq, Prod.mk.injEq] at H
  obtain ⟨rfl, rfl⟩ := H
  go_enter Try.func4, Try.ntmps4
  go_wp2_with (first | ((with_reducible refine gate_dst (N := 2) rfl ?_); refine bE 2 #[.int .i64 a0_0, .int .i64 a0_1, .int .i64 a0_2] 25 ?_; intro gb184 hg w4 hbox hb; have hv := vK HB hb; have n0_ := Am (bT hv hb); have n1_ := Am (hbox); have GE184 := kG hg hv; clear HB; have HB := n0_; have BK184 := n1_; clear n0_ n1_ hv; clear hb hbox hg) | ((with_reducible refine gate_dst (N := 3) rfl ?_); refine bE 3 #[.int .i64 a1_0, .int .i64 a1_1, .int .i64 a1_2] 25 ?_; intro gb185 hg w5 hbox hb; have hp0 := pA BK184 hb; have hv := vK HB hb; have n1_ := Am (bT hv hb); have n2_ := Am (hbox); have GE185 := kG hg hv; have hp1 := pK BK184 hb; obtain ⟨NB184_185, NB185_184⟩ := kXY hg hp1 BK184; clear HB; replace BK184 := hp0 BK184; have HB := n1_; have BK185 := n2_; clear n1_ n2_ hp0 hp1 hv; clear hb hbox hg; have nq6 := kO NB184_185; have zq7 := c3 BK184; have zq8 := c3 BK185) | ((with_reducible refine gate_callee (f := 21) rfl ?_); refine gL (some 9) Try.func21 #[.agg #[.int .i64 a0_0, .int .i64 a0_1, .int .i64 a0_2], .agg #[.int .i64 a1_0, .int .i64 a1_1, .int .i64 a1_2], .agg #[.int .i64 0, .int .i64 1]] rfl ?_; (with_reducible refine (impl_aheadTimes.calls k a0_0 a0_1 a0_2 a1_0 a1_1 a1_2 0 1 t186 t189 _ A3.out).mono ?_); rintro e w9 ⟨v187, rfl, ho0, hb⟩; refine ⟨_, rfl, ?_⟩; have n0_ := Am (Kd.R_lower ho0 (bZ (by repeat (first | (with_reducible first | exact HB.out | apply bA | apply bN | apply bD | refine bX ?_ (by assumption)) | exact HB.out)))); have hp0 := pA BK184 hb; have hv := vK HB hb; have n3_ := Am (bT hv hb); clear HB; have HO188 := n0_; replace BK184 := hp0 BK184; replace BK185 := hp0 BK185; have HB := n3_; clear n0_ n3_ hp0 hv; (try clear hb); (try clear ho0)))
  go_ret2
  exact ⟨_, by first | rfl | (simp [errW_none, errW_some] <;> rfl) | (simp [*, errW_none, errW_some] <;> rfl), by (with_reducible repeat (first | apply Kd.R_alloc | apply Kd.R_drewN | apply Kd.R_drew)); exact HO188.out, by repeat (first | (with_reducible first | exact HB.out | apply bA | apply bN | apply bD | refine bX ?_ (by assumption)) | exact HB.out)⟩
/-! ### spec_l1In: function 58 -/
def spec_l1In.f (a0 : Int) (a1 : Int) (a2 : Int) : Option (Bool) := if a0 ≥ a1 then (some (decide (a0 ≤ a2))) else (some false)
set_option maxHeartbeats 8000000 in
set_option maxRecDepth 100000 in
theorem spec_l1In.calls (a0 : Int) (a1 : Int) (a2 : Int) (r : Bool) (w : World) (h : spec_l1In.f a0 a1 a2 = some r) :
  Calls Try.prog 58 #[.int .i64 a0, .int .i64 a1, .int .i64 a2] w fun e w' => e = .returned (.bool r) ∧ Drawn0 w w' := by
 have H : (if a0 ≥ a1 then (some (decide (a0 ≤ a2))) else (some false)) = some r := h
 clear h
 by_cases c4 : a0 ≥ a1
 ·rw [if_pos c4] at H
  have c4b0 : decide (a1 ≤ a0) = true := decide_eq_true c4
  clear c4
  focus
   obtain rfl := Option.some.inj H
   go_enter Try.func58, Try.ntmps58
   go_wp2
   go_ret
   exact ⟨by first | rfl | (simp; done) | (simp [*]; done), by repeat (first | exact Drawn0.refl _ | apply Drawn0.step)⟩
 rw [if_neg c4] at H
 have c4b0 : decide (a1 ≤ a0) = false := decide_eq_false c4
 clear c4
 focus
  obtain rfl := Option.some.inj H
  go_enter Try.func58, Try.ntmps58
  go_wp2
  go_ret
  exact ⟨by first | rfl | (simp; done) | (simp [*]; done), by repeat (first | exact Drawn0.refl _ | apply Drawn0.step)⟩
/-! ### spec_diCommon: function 61 -/
def spec_diCommon.l0 : Nat → Int → Int → Option (Int)
 | 0, _, _ => none
 | k + 1, x0, x1 => if x1 > 0 then (if x1 = 0 then (none) else (spec_diCommon.l0 k x1 (Int.tmod x0 x1))) else (some x0)
def spec_diCommon.f (k : Nat) (a0 : Int) (a1 : Int) : Option (Int) := spec_diCommon.l0 k a0 a1
theorem spec_diCommon.mono_l : ∀ k, (∀ y0 y1, LeO (spec_diCommon.l0 k y0 y1) (spec_diCommon.l0 (k + 1) y0 y1))
 | 0 => fun _ _ r h => by simp [spec_diCommon.l0] at h
 | k + 1 => by
  have ih0 := spec_diCommon.mono_l k
  ·intro y0 y1
   unfold spec_diCommon.l0
   repeat' first
   | (with_reducible apply ih0)
   | (with_reducible exact LeO.refl _)
   | (with_reducible exact LeO.none _)
   | (with_reducible refine LeO.ite ?_ ?_)
   | (with_reducible refine LeO.bind ?_ (fun _ => ?_))
   | apply ih0
   | exact LeO.none _
   | refine LeO.ite ?_ ?_
   | refine LeO.bind ?_ (fun _ => ?_)
theorem spec_diCommon.mono : ∀ a0 a1 k, LeO (spec_diCommon.f k a0 a1) (spec_diCommon.f (k + 1) a0 a1) := by
 intro a0 a1 k
 have ih0 := spec_diCommon.mono_l k
 unfold spec_diCommon.f
 repeat' first
   | (with_reducible apply ih0)
   | (with_reducible exact LeO.refl _)
   | (with_reducible exact LeO.none _)
   | (with_reducible refine LeO.ite ?_ ?_)
   | (with_reducible refine LeO.bind ?_ (fun _ => ?_))
   | apply ih0
   | exact LeO.none _
   | refine LeO.ite ?_ ?_
   | refine LeO.bind ?_ (fun _ => ?_)
set_option maxHeartbeats 8000000 in
set_option maxRecDepth 100000 in
theorem spec_diCommon.calls (k : Nat) (a0 : Int) (a1 : Int) (r : Int) (w : World) (h : spec_diCommon.f k a0 a1 = some r) :
  Calls Try.prog 61 #[.int .i64 a0, .int .i64 a1] w fun e w' => e = .returned (.int .i64 r) ∧ Drawn0 w w' := by
 have H : (spec_diCommon.l0 k a0 a1) = some r := h
 clear h
 have H' := Am H
 clear H
 go_enter Try.func61, Try.ntmps61
 go_wp2
 repeat (go_quiet (fail); try go_wp2)
 go_loopg [0, 1] k (fun kq v0 v1 w' => ∃ (x0_1 : Int) (x1_1 : Int), v0 = .int .i64 x0_1 ∧ v1 = .int .i64 x1_1 ∧ Aside0 (spec_diCommon.l0 kq x0_1 x1_1 = some r) ∧ Aside0 (kq ≤ k) ∧ Drawn0 w w')
 case atStart => exact ⟨(a0), (a1), (by first | rfl | (simp; done) | (simp [*]; done)), (by first | rfl | (simp; done) | (simp [*]; done)), H', ⟨Nat.le_refl _⟩, by repeat (first | exact Drawn0.refl _ | apply Drawn0.step)⟩
 case round =>
  clear H'
  obtain ⟨x0_1, x1_1, rfl, rfl, HA, HK1, ⟨m1, rfl⟩⟩ := hrel
  cases gk with
  | zero => exact absurd HA.out (by simp [spec_diCommon.l0])
  | succ k1 =>
   have H := HA.out
   clear HA
   simp only [spec_diCommon.l0] at H
   by_cases c3 : x1_1 > 0
   ·rw [if_pos c3] at H
    have c3b0 : decide (0 < x1_1) = true := decide_eq_true c3
    clear c3
    by_cases c4 : x1_1 = 0
    ·rw [if_pos c4] at H
     exact absurd H (by simp)
    rw [if_neg c4] at H
    have c4b0 : (x1_1 == 0) = false := beq_eq_false_iff_ne.mpr c4
    have c4b1 : (x1_1 != 0) = true := bne_iff_ne.mpr c4
    focus
     have H' := Am H
     clear H
     go_wp2
     repeat (go_quiet (fail); try go_wp2)
     go_roundg k1
     case measure => have := HK1.out; omega
     case rel => exact ⟨(x1_1), (Int.tmod x0_1 x1_1), (by first | rfl | (simp; done) | (simp [*]; done)), (by first | rfl | (simp; done) | (simp [*]; done)), H', ⟨by have := HK1.out; omega⟩, by repeat (first | exact Drawn0.refl _ | apply Drawn0.step)⟩
   rw [if_neg c3] at H
   have c3b0 : decide (0 < x1_1) = false := decide_eq_false c3
   clear c3
   focus
    obtain rfl := Option.some.inj H
    go_wp2
    repeat (go_quiet (fail); try go_wp2)
    go_ret
    exact ⟨by first | rfl | (simp; done) | (simp [*]; done), by repeat (first | exact Drawn0.refl _ | apply Drawn0.step)⟩
/-! ### spec_diGood: function 40 -/
def spec_diGood.f (k : Nat) (a0_0 : Int) (a0_1 : Int) : Option (Bool) := (spec_l1In.f a0_1 1 1000000).bind fun t191 => (if t191 = true then ((spec_l1In.f a0_0 0 (wrap64 (a0_1 - 1))).bind fun t192 => (if t192 = true then ((spec_diCommon.f k a0_0 a0_1).bind fun t193 => (some (t193 == 1))) else (some false))) else (some false))
theorem spec_diGood.mono : ∀ a0 a1 k, LeO (spec_diGood.f k a0 a1) (spec_diGood.f (k + 1) a0 a1) := by
 intro a0 a1 k
 unfold spec_diGood.f
 repeat' first
   | (with_reducible exact spec_diCommon.mono _ _ _)
   | (with_reducible exact LeO.refl _)
   | (with_reducible exact LeO.none _)
   | (with_reducible refine LeO.ite ?_ ?_)
   | (with_reducible refine LeO.bind ?_ (fun _ => ?_))
   | exact spec_diCommon.mono _ _ _
   | exact LeO.none _
   | refine LeO.ite ?_ ?_
   | refine LeO.bind ?_ (fun _ => ?_)
set_option maxHeartbeats 8000000 in
set_option maxRecDepth 100000 in
theorem spec_diGood.calls (k : Nat) (a0_0 : Int) (a0_1 : Int) (r : Bool) (w : World) (h : spec_diGood.f k a0_0 a0_1 = some r) :
  Calls Try.prog 40 #[.agg #[.int .i64 a0_0, .int .i64 a0_1]] w fun e w' => e = .returned (.bool r) ∧ Below w.heap.size w w' := by
 have hu23 := Try.underlying23
 have HB := Am (Below.refl w.heap.size w)
 have H : ((spec_l1In.f a0_1 1 1000000).bind fun t191 => (if t191 = true then ((spec_l1In.f a0_0 0 (wrap64 (a0_1 - 1))).bind fun t192 => (if t192 = true then ((spec_diCommon.f k a0_0 a0_1).bind fun t193 => (some (t193 == 1))) else (some false))) else (some false))) = some r := h
 clear h
 replace H := Option.bind_eq_some_iff.mp H
 obtain ⟨t191, A20, H⟩ := H
 try dsimp only at H
 have A2 := Am A20
 clear A20
 by_cases c3 : t191 = true
 ·subst c3
  have H1 : ((spec_l1In.f a0_0 0 (wrap64 (a0_1 - 1))).bind fun t192 => (if t192 = true then ((spec_diCommon.f k a0_0 a0_1).bind fun t193 => (some (t193 == 1))) else (some false))) = some r := by rw [if_pos rfl] at H; exact H
  clear H
  have H := H1
  clear H1
  replace H := Option.bind_eq_some_iff.mp H
  obtain ⟨t192, A40, H⟩ := H
  try dsimp only at H
  have A4 := Am A40
  clear A40
  by_cases c5 : t192 = true
  ·subst c5
   have H1 : ((spec_diCommon.f k a0_0 a0_1).bind fun t193 => (some (t193 == 1))) = some r := by rw [if_pos rfl] at H; exact H
   clear H
   have H := H1
   clear H1
   replace H := Option.bind_eq_some_iff.mp H
   obtain ⟨t193, A60, H⟩ := H
   try dsimp only at H
   have A6 := Am A60
   clear A60
   focus
    obtain rfl := Option.some.inj H
    go_enter Try.func40, Try.ntmps40
    go_wp2_with (first | ((with_reducible refine gate_dst (N := 1) rfl ?_); refine bE 1 #[.int .i64 a0_0, .int .i64 a0_1] 23 ?_; intro gb190 hg w7 hbox hb; have hv := vK HB hb; have n0_ := Am (bT hv hb); have n1_ := Am (hbox); have GE190 := kG hg hv; clear HB; have HB := n0_; have BK190 := n1_; clear n0_ n1_ hv; clear hb hbox hg; have hcz8_0 : w7.cell? ⟨gb190, 0, none⟩ = some (.int .i64 a0_0) := (kC BK190.out 0).trans rfl; have hcz8_1 : w7.cell? ⟨gb190, 1, none⟩ = some (.int .i64 a0_1) := (kC BK190.out 1).trans rfl; have hfz8_0 := kF BK190.out 0; have hfz8_1 := kF BK190.out 1) | ((with_reducible refine gate_callee (f := 58) rfl ?_); refine gL (some 5) Try.func58 #[.int .i64 a0_1, .int .i64 1, .int .i64 1000000] rfl ?_; (with_reducible refine (spec_l1In.calls a0_1 1 1000000 true _ A2.out).mono ?_); rintro e w' ⟨rfl, ⟨nd, rfl⟩⟩; refine ⟨_, rfl, ?_⟩) | (go_at_call 58; (with_reducible refine (spec_l1In.calls a0_0 0 (wrap64 (a0_1 - 1)) true _ A4.out).mono ?_); rintro e w' ⟨rfl, ⟨nd, rfl⟩⟩) | (go_at_call 61; (with_reducible refine (spec_diCommon.calls k a0_0 a0_1 t193 _ A6.out).mono ?_); rintro e w' ⟨rfl, ⟨nd, rfl⟩⟩))
    go_ret
    exact ⟨by first | rfl | (simp [errW_none, errW_some] <;> rfl) | (simp [*, errW_none, errW_some] <;> rfl), by repeat (first | (with_reducible first | exact HB.out | apply bA | apply bN | apply bD | refine bX ?_ (by assumption)) | exact HB.out)⟩
  replace c5 := Bool.eq_false_iff.mpr c5
  subst c5
  have H1 : (some false) = some r := by rw [if_neg (show ¬ (false = true) by decide)] at H; exact H
  clear H
  have H := H1
  clear H1
  focus
   obtain rfl := Option.some.inj H
   go_enter Try.func40, Try.ntmps40
   go_wp2_with (first | ((with_reducible refine gate_dst (N := 1) rfl ?_); refine bE 1 #[.int .i64 a0_0, .int .i64 a0_1] 23 ?_; intro gb190 hg w9 hbox hb; have hv := vK HB hb; have n0_ := Am (bT hv hb); have n1_ := Am (hbox); have GE190 := kG hg hv; clear HB; have HB := n0_; have BK190 := n1_; clear n0_ n1_ hv; clear hb hbox hg; have hcz10_0 : w9.cell? ⟨gb190, 0, none⟩ = some (.int .i64 a0_0) := (kC BK190.out 0).trans rfl; have hcz10_1 : w9.cell? ⟨gb190, 1, none⟩ = some (.int .i64 a0_1) := (kC BK190.out 1).trans rfl; have hfz10_0 := kF BK190.out 0; have hfz10_1 := kF BK190.out 1) | ((with_reducible refine gate_callee (f := 58) rfl ?_); refine gL (some 5) Try.func58 #[.int .i64 a0_1, .int .i64 1, .int .i64 1000000] rfl ?_; (with_reducible refine (spec_l1In.calls a0_1 1 1000000 true _ A2.out).mono ?_); rintro e w' ⟨rfl, ⟨nd, rfl⟩⟩; refine ⟨_, rfl, ?_⟩) | (go_at_call 58; (with_reducible refine (spec_l1In.calls a0_0 0 (wrap64 (a0_1 - 1)) false _ A4.out).mono ?_); rintro e w' ⟨rfl, ⟨nd, rfl⟩⟩))
   go_ret
   exact ⟨by first | rfl | (simp [errW_none, errW_some] <;> rfl) | (simp [*, errW_none, errW_some] <;> rfl), by repeat (first | (with_reducible first | exact HB.out | apply bA | apply bN | apply bD | refine bX ?_ (by assumption)) | exact HB.out)⟩
 replace c3 := Bool.eq_false_iff.mpr c3
 subst c3
 have H1 : (some false) = some r := by rw [if_neg (show ¬ (false = true) by decide)] at H; exact H
 clear H
 have H := H1
 clear H1
 focus
  obtain rfl := Option.some.inj H
  go_enter Try.func40, Try.ntmps40
  go_wp2_with (first | ((with_reducible refine gate_dst (N := 1) rfl ?_); refine bE 1 #[.int .i64 a0_0, .int .i64 a0_1] 23 ?_; intro gb190 hg w11 hbox hb; have hv := vK HB hb; have n0_ := Am (bT hv hb); have n1_ := Am (hbox); have GE190 := kG hg hv; clear HB; have HB := n0_; have BK190 := n1_; clear n0_ n1_ hv; clear hb hbox hg; have hcz12_0 : w11.cell? ⟨gb190, 0, none⟩ = some (.int .i64 a0_0) := (kC BK190.out 0).trans rfl; have hcz12_1 : w11.cell? ⟨gb190, 1, none⟩ = some (.int .i64 a0_1) := (kC BK190.out 1).trans rfl; have hfz12_0 := kF BK190.out 0; have hfz12_1 := kF BK190.out 1) | ((with_reducible refine gate_callee (f := 58) rfl ?_); refine gL (some 5) Try.func58 #[.int .i64 a0_1, .int .i64 1, .int .i64 1000000] rfl ?_; (with_reducible refine (spec_l1In.calls a0_1 1 1000000 false _ A2.out).mono ?_); rintro e w' ⟨rfl, ⟨nd, rfl⟩⟩; refine ⟨_, rfl, ?_⟩))
  go_ret
  exact ⟨by first | rfl | (simp [errW_none, errW_some] <;> rfl) | (simp [*, errW_none, errW_some] <;> rfl), by repeat (first | (with_reducible first | exact HB.out | apply bA | apply bN | apply bD | refine bX ?_ (by assumption)) | exact HB.out)⟩
/-! ### spec_meGood: function 34 -/
def spec_meGood.f (k : Nat) (a0_0 : Int) (a0_1 : Int) (a0_2 : Int) : Option (Bool) := (spec_diGood.f k a0_0 a0_1).bind fun t195 => (if t195 = true then (if a0_1 ≤ 1000 then ((spec_l1In.f a0_2 (-400) 400).bind fun t196 => (some t196)) else (some false)) else (some false))
theorem spec_meGood.mono : ∀ a0 a1 a2 k, LeO (spec_meGood.f k a0 a1 a2) (spec_meGood.f (k + 1) a0 a1 a2) := by
 intro a0 a1 a2 k
 unfold spec_meGood.f
 repeat' first
   | (with_reducible exact spec_diGood.mono _ _ _)
   | (with_reducible exact LeO.refl _)
   | (with_reducible exact LeO.none _)
   | (with_reducible refine LeO.ite ?_ ?_)
   | (with_reducible refine LeO.bind ?_ (fun _ => ?_))
   | exact spec_diGood.mono _ _ _
   | exact LeO.none _
   | refine LeO.ite ?_ ?_
   | refine LeO.bind ?_ (fun _ => ?_)
set_option maxHeartbeats 8000000 in
set_option maxRecDepth 100000 in
theorem spec_meGood.calls (k : Nat) (a0_0 : Int) (a0_1 : Int) (a0_2 : Int) (r : Bool) (w : World) (h : spec_meGood.f k a0_0 a0_1 a0_2 = some r) :
  Calls Try.prog 34 #[.agg #[.int .i64 a0_0, .int .i64 a0_1, .int .i64 a0_2]] w fun e w' => e = .returned (.bool r) ∧ Below w.heap.size w w' := by
 have hu25 := Try.underlying25; have hu23 := Try.underlying23
 have HB := Am (Below.refl w.heap.size w)
 have H : ((spec_diGood.f k a0_0 a0_1).bind fun t195 => (if t195 = true then (if a0_1 ≤ 1000 then ((spec_l1In.f a0_2 (-400) 400).bind fun t196 => (some t196)) else (some false)) else (some false))) = some r := h
 clear h
 replace H := Option.bind_eq_some_iff.mp H
 obtain ⟨t195, A20, H⟩ := H
 try dsimp only at H
 have A2 := Am A20
 clear A20
 by_cases c3 : t195 = true
 ·subst c3
  have H1 : (if a0_1 ≤ 1000 then ((spec_l1In.f a0_2 (-400) 400).bind fun t196 => (some t196)) else (some false)) = some r := by rw [if_pos rfl] at H; exact H
  clear H
  have H := H1
  clear H1
  by_cases c4 : a0_1 ≤ 1000
  ·rw [if_pos c4] at H
   have c4b0 : decide (a0_1 ≤ 1000) = true := decide_eq_true c4
   clear c4
   replace H := Option.bind_eq_some_iff.mp H
   obtain ⟨t196, A50, H⟩ := H
   try dsimp only at H
   have A5 := Am A50
   clear A50
   focus
    obtain rfl := Option.some.inj H
    go_enter Try.func34, Try.ntmps34
    go_wp2_with (first | ((with_reducible refine gate_dst (N := 1) rfl ?_); refine bE 1 #[.int .i64 a0_0, .int .i64 a0_1, .int .i64 a0_2] 25 ?_; intro gb194 hg w6 hbox hb; have hv := vK HB hb; have n0_ := Am (bT hv hb); have n1_ := Am (hbox); have GE194 := kG hg hv; clear HB; have HB := n0_; have BK194 := n1_; clear n0_ n1_ hv; clear hb hbox hg; have zq7 := c3 BK194) | ((with_reducible refine gate_callee (f := 40) rfl ?_); refine gL (some 5) Try.func40 #[.agg #[.int .i64 a0_0, .int .i64 a0_1]] rfl ?_; (with_reducible refine (spec_diGood.calls k a0_0 a0_1 true _ A2.out).mono ?_); rintro e w8 ⟨rfl, hb⟩; refine ⟨_, rfl, ?_⟩; have hp0 := pA BK194 hb; have hv := vK HB hb; have n1_ := Am (bT hv hb); clear HB; replace BK194 := hp0 BK194; have HB := n1_; clear n1_ hp0 hv; (try clear hb); have zq9 := c3 BK194) | (go_at_call 58; (with_reducible refine (spec_l1In.calls a0_2 (-400) 400 t196 _ A5.out).mono ?_); rintro e w' ⟨rfl, ⟨nd, rfl⟩⟩))
    go_ret
    exact ⟨by first | rfl | (simp [errW_none, errW_some] <;> rfl) | (simp [*, errW_none, errW_some] <;> rfl), by repeat (first | (with_reducible first | exact HB.out | apply bA | apply bN | apply bD | refine bX ?_ (by assumption)) | exact HB.out)⟩
  rw [if_neg c4] at H
  have c4b0 : decide (a0_1 ≤ 1000) = false := decide_eq_false c4
  clear c4
  focus
   obtain rfl := Option.some.inj H
   go_enter Try.func34, Try.ntmps34
   go_wp2_with (first | ((with_reducible refine gate_dst (N := 1) rfl ?_); refine bE 1 #[.int .i64 a0_0, .int .i64 a0_1, .int .i64 a0_2] 25 ?_; intro gb194 hg w10 hbox hb; have hv := vK HB hb; have n0_ := Am (bT hv hb); have n1_ := Am (hbox); have GE194 := kG hg hv; clear HB; have HB := n0_; have BK194 := n1_; clear n0_ n1_ hv; clear hb hbox hg; have zq11 := c3 BK194) | ((with_reducible refine gate_callee (f := 40) rfl ?_); refine gL (some 5) Try.func40 #[.agg #[.int .i64 a0_0, .int .i64 a0_1]] rfl ?_; (with_reducible refine (spec_diGood.calls k a0_0 a0_1 true _ A2.out).mono ?_); rintro e w12 ⟨rfl, hb⟩; refine ⟨_, rfl, ?_⟩; have hp0 := pA BK194 hb; have hv := vK HB hb; have n1_ := Am (bT hv hb); clear HB; replace BK194 := hp0 BK194; have HB := n1_; clear n1_ hp0 hv; (try clear hb); have zq13 := c3 BK194))
   go_ret
   exact ⟨by first | rfl | (simp [errW_none, errW_some] <;> rfl) | (simp [*, errW_none, errW_some] <;> rfl), by repeat (first | (with_reducible first | exact HB.out | apply bA | apply bN | apply bD | refine bX ?_ (by assumption)) | exact HB.out)⟩
 replace c3 := Bool.eq_false_iff.mpr c3
 subst c3
 have H1 : (some false) = some r := by rw [if_neg (show ¬ (false = true) by decide)] at H; exact H
 clear H
 have H := H1
 clear H1
 focus
  obtain rfl := Option.some.inj H
  go_enter Try.func34, Try.ntmps34
  go_wp2_with (first | ((with_reducible refine gate_dst (N := 1) rfl ?_); refine bE 1 #[.int .i64 a0_0, .int .i64 a0_1, .int .i64 a0_2] 25 ?_; intro gb194 hg w14 hbox hb; have hv := vK HB hb; have n0_ := Am (bT hv hb); have n1_ := Am (hbox); have GE194 := kG hg hv; clear HB; have HB := n0_; have BK194 := n1_; clear n0_ n1_ hv; clear hb hbox hg; have zq15 := c3 BK194) | ((with_reducible refine gate_callee (f := 40) rfl ?_); refine gL (some 5) Try.func40 #[.agg #[.int .i64 a0_0, .int .i64 a0_1]] rfl ?_; (with_reducible refine (spec_diGood.calls k a0_0 a0_1 false _ A2.out).mono ?_); rintro e w16 ⟨rfl, hb⟩; refine ⟨_, rfl, ?_⟩; have hp0 := pA BK194 hb; have hv := vK HB hb; have n1_ := Am (bT hv hb); clear HB; replace BK194 := hp0 BK194; have HB := n1_; clear n1_ hp0 hv; (try clear hb)))
  go_ret
  exact ⟨by first | rfl | (simp [errW_none, errW_some] <;> rfl) | (simp [*, errW_none, errW_some] <;> rfl), by repeat (first | (with_reducible first | exact HB.out | apply bA | apply bN | apply bD | refine bX ?_ (by assumption)) | exact HB.out)⟩
/-! ### spec_meTwo: function 44 -/
def spec_meTwo.f (k : Nat) (a0_0 : Int) (a0_1 : Int) (a0_2 : Int) (a1_0 : Int) (a1_1 : Int) (a1_2 : Int) : Option (Bool) := (spec_meGood.f k a0_0 a0_1 a0_2).bind fun t199 => (if t199 = true then ((spec_meGood.f k a1_0 a1_1 a1_2).bind fun t200 => (some t200)) else (some false))
theorem spec_meTwo.mono : ∀ a0 a1 a2 a3 a4 a5 k, LeO (spec_meTwo.f k a0 a1 a2 a3 a4 a5) (spec_meTwo.f (k + 1) a0 a1 a2 a3 a4 a5) := by
 intro a0 a1 a2 a3 a4 a5 k
 unfold spec_meTwo.f
 repeat' first
   | (with_reducible exact spec_meGood.mono _ _ _ _)
   | (with_reducible exact LeO.refl _)
   | (with_reducible exact LeO.none _)
   | (with_reducible refine LeO.ite ?_ ?_)
   | (with_reducible refine LeO.bind ?_ (fun _ => ?_))
   | exact spec_meGood.mono _ _ _ _
   | exact LeO.none _
   | refine LeO.ite ?_ ?_
   | refine LeO.bind ?_ (fun _ => ?_)
set_option maxHeartbeats 8000000 in
set_option maxRecDepth 100000 in
theorem spec_meTwo.calls (k : Nat) (a0_0 : Int) (a0_1 : Int) (a0_2 : Int) (a1_0 : Int) (a1_1 : Int) (a1_2 : Int) (r : Bool) (w : World) (h : spec_meTwo.f k a0_0 a0_1 a0_2 a1_0 a1_1 a1_2 = some r) :
  Calls Try.prog 44 #[.agg #[.int .i64 a0_0, .int .i64 a0_1, .int .i64 a0_2], .agg #[.int .i64 a1_0, .int .i64 a1_1, .int .i64 a1_2]] w fun e w' => e = .returned (.bool r) ∧ Below w.heap.size w w' := by
 have hu25 := Try.underlying25
 have HB := Am (Below.refl w.heap.size w)
 have H : ((spec_meGood.f k a0_0 a0_1 a0_2).bind fun t199 => (if t199 = true then ((spec_meGood.f k a1_0 a1_1 a1_2).bind fun t200 => (some t200)) else (some false))) = some r := h
 clear h
 replace H := Option.bind_eq_some_iff.mp H
 obtain ⟨t199, A30, H⟩ := H
 try dsimp only at H
 have A3 := Am A30
 clear A30
 by_cases c4 : t199 = true
 ·subst c4
  have H1 : ((spec_meGood.f k a1_0 a1_1 a1_2).bind fun t200 => (some t200)) = some r := by rw [if_pos rfl] at H; exact H
  clear H
  have H := H1
  clear H1
  replace H := Option.bind_eq_some_iff.mp H
  obtain ⟨t200, A50, H⟩ := H
  try dsimp only at H
  have A5 := Am A50
  clear A50
  focus
   obtain rfl := Option.some.inj H
   go_enter Try.func44, Try.ntmps44
   go_wp2_with (first | ((with_reducible refine gate_dst (N := 2) rfl ?_); refine bE 2 #[.int .i64 a0_0, .int .i64 a0_1, .int .i64 a0_2] 25 ?_; intro gb197 hg w6 hbox hb; have hv := vK HB hb; have n0_ := Am (bT hv hb); have n1_ := Am (hbox); have GE197 := kG hg hv; clear HB; have HB := n0_; have BK197 := n1_; clear n0_ n1_ hv; clear hb hbox hg) | ((with_reducible refine gate_dst (N := 3) rfl ?_); refine bE 3 #[.int .i64 a1_0, .int .i64 a1_1, .int .i64 a1_2] 25 ?_; intro gb198 hg w7 hbox hb; have hp0 := pA BK197 hb; have hv := vK HB hb; have n1_ := Am (bT hv hb); have n2_ := Am (hbox); have GE198 := kG hg hv; have hp1 := pK BK197 hb; obtain ⟨NB197_198, NB198_197⟩ := kXY hg hp1 BK197; clear HB; replace BK197 := hp0 BK197; have HB := n1_; have BK198 := n2_; clear n1_ n2_ hp0 hp1 hv; clear hb hbox hg; have nq8 := kO NB197_198; have zq9 := c3 BK197) | ((with_reducible refine gate_callee (f := 34) rfl ?_); refine gL (some 6) Try.func34 #[.agg #[.int .i64 a0_0, .int .i64 a0_1, .int .i64 a0_2]] rfl ?_; (with_reducible refine (spec_meGood.calls k a0_0 a0_1 a0_2 true _ A3.out).mono ?_); rintro e w10 ⟨rfl, hb⟩; refine ⟨_, rfl, ?_⟩; have hp0 := pA BK197 hb; have hv := vK HB hb; have n2_ := Am (bT hv hb); clear HB; replace BK197 := hp0 BK197; replace BK198 := hp0 BK198; have HB := n2_; clear n2_ hp0 hv; (try clear hb); have zq11 := c3 BK198) | (go_at_call 34; (with_reducible refine (spec_meGood.calls k a1_0 a1_1 a1_2 t200 _ A5.out).mono ?_); rintro e w12 ⟨rfl, hb⟩; have hp0 := pA BK197 hb; have hv := vK HB hb; have n2_ := Am (bT hv hb); clear HB; replace BK197 := hp0 BK197; replace BK198 := hp0 BK198; have HB := n2_; clear n2_ hp0 hv; (try clear hb)))
   go_ret
   exact ⟨by first | rfl | (simp [errW_none, errW_some] <;> rfl) | (simp [*, errW_none, errW_some] <;> rfl), by repeat (first | (with_reducible first | exact HB.out | apply bA | apply bN | apply bD | refine bX ?_ (by assumption)) | exact HB.out)⟩
 replace c4 := Bool.eq_false_iff.mpr c4
 subst c4
 have H1 : (some false) = some r := by rw [if_neg (show ¬ (false = true) by decide)] at H; exact H
 clear H
 have H := H1
 clear H1
 focus
  obtain rfl := Option.some.inj H
  go_enter Try.func44, Try.ntmps44
  go_wp2_with (first | ((with_reducible refine gate_dst (N := 2) rfl ?_); refine bE 2 #[.int .i64 a0_0, .int .i64 a0_1, .int .i64 a0_2] 25 ?_; intro gb197 hg w13 hbox hb; have hv := vK HB hb; have n0_ := Am (bT hv hb); have n1_ := Am (hbox); have GE197 := kG hg hv; clear HB; have HB := n0_; have BK197 := n1_; clear n0_ n1_ hv; clear hb hbox hg) | ((with_reducible refine gate_dst (N := 3) rfl ?_); refine bE 3 #[.int .i64 a1_0, .int .i64 a1_1, .int .i64 a1_2] 25 ?_; intro gb198 hg w14 hbox hb; have hp0 := pA BK197 hb; have hv := vK HB hb; have n1_ := Am (bT hv hb); have n2_ := Am (hbox); have GE198 := kG hg hv; have hp1 := pK BK197 hb; obtain ⟨NB197_198, NB198_197⟩ := kXY hg hp1 BK197; clear HB; replace BK197 := hp0 BK197; have HB := n1_; have BK198 := n2_; clear n1_ n2_ hp0 hp1 hv; clear hb hbox hg; have nq15 := kO NB197_198; have zq16 := c3 BK197) | ((with_reducible refine gate_callee (f := 34) rfl ?_); refine gL (some 6) Try.func34 #[.agg #[.int .i64 a0_0, .int .i64 a0_1, .int .i64 a0_2]] rfl ?_; (with_reducible refine (spec_meGood.calls k a0_0 a0_1 a0_2 false _ A3.out).mono ?_); rintro e w17 ⟨rfl, hb⟩; refine ⟨_, rfl, ?_⟩; have hp0 := pA BK197 hb; have hv := vK HB hb; have n2_ := Am (bT hv hb); clear HB; replace BK197 := hp0 BK197; replace BK198 := hp0 BK198; have HB := n2_; clear n2_ hp0 hv; (try clear hb)))
  go_ret
  exact ⟨by first | rfl | (simp [errW_none, errW_some] <;> rfl) | (simp [*, errW_none, errW_some] <;> rfl), by repeat (first | (with_reducible first | exact HB.out | apply bA | apply bN | apply bD | refine bX ?_ (by assumption)) | exact HB.out)⟩
/-! ### spec_meAsked: function 22 -/
def spec_meAsked.f (k : Nat) (a0_0 : Int) (a0_1 : Int) (a0_2 : Int) (a1_0 : Int) (a1_1 : Int) (a1_2 : Int) : Option (Bool) := (spec_meTwo.f k a0_0 a0_1 a0_2 a1_0 a1_1 a1_2).bind fun t203 => (if t203 = true then (some (a0_2 != a1_2)) else (some false))
theorem spec_meAsked.mono : ∀ a0 a1 a2 a3 a4 a5 k, LeO (spec_meAsked.f k a0 a1 a2 a3 a4 a5) (spec_meAsked.f (k + 1) a0 a1 a2 a3 a4 a5) := by
 intro a0 a1 a2 a3 a4 a5 k
 unfold spec_meAsked.f
 repeat' first
   | (with_reducible exact spec_meTwo.mono _ _ _ _ _ _ _)
   | (with_reducible exact LeO.refl _)
   | (with_reducible exact LeO.none _)
   | (with_reducible refine LeO.ite ?_ ?_)
   | (with_reducible refine LeO.bind ?_ (fun _ => ?_))
   | exact spec_meTwo.mono _ _ _ _ _ _ _
   | exact LeO.none _
   | refine LeO.ite ?_ ?_
   | refine LeO.bind ?_ (fun _ => ?_)
set_option maxHeartbeats 8000000 in
set_option maxRecDepth 100000 in
theorem spec_meAsked.calls (k : Nat) (a0_0 : Int) (a0_1 : Int) (a0_2 : Int) (a1_0 : Int) (a1_1 : Int) (a1_2 : Int) (r : Bool) (w : World) (h : spec_meAsked.f k a0_0 a0_1 a0_2 a1_0 a1_1 a1_2 = some r) :
  Calls Try.prog 22 #[.agg #[.int .i64 a0_0, .int .i64 a0_1, .int .i64 a0_2], .agg #[.int .i64 a1_0, .int .i64 a1_1, .int .i64 a1_2]] w fun e w' => e = .returned (.bool r) ∧ Below w.heap.size w w' := by
 have hu25 := Try.underlying25
 have HB := Am (Below.refl w.heap.size w)
 have H : ((spec_meTwo.f k a0_0 a0_1 a0_2 a1_0 a1_1 a1_2).bind fun t203 => (if t203 = true then (some (a0_2 != a1_2)) else (some false))) = some r := h
 clear h
 replace H := Option.bind_eq_some_iff.mp H
 obtain ⟨t203, A30, H⟩ := H
 try dsimp only at H
 have A3 := Am A30
 clear A30
 by_cases c4 : t203 = true
 ·subst c4
  have H1 : (some (a0_2 != a1_2)) = some r := by rw [if_pos rfl] at H; exact H
  clear H
  have H := H1
  clear H1
  focus
   obtain rfl := Option.some.inj H
   go_enter Try.func22, Try.ntmps22
   go_wp2_with (first | ((with_reducible refine gate_dst (N := 2) rfl ?_); refine bE 2 #[.int .i64 a0_0, .int .i64 a0_1, .int .i64 a0_2] 25 ?_; intro gb201 hg w5 hbox hb; have hv := vK HB hb; have n0_ := Am (bT hv hb); have n1_ := Am (hbox); have GE201 := kG hg hv; clear HB; have HB := n0_; have BK201 := n1_; clear n0_ n1_ hv; clear hb hbox hg) | ((with_reducible refine gate_dst (N := 3) rfl ?_); refine bE 3 #[.int .i64 a1_0, .int .i64 a1_1, .int .i64 a1_2] 25 ?_; intro gb202 hg w6 hbox hb; have hp0 := pA BK201 hb; have hv := vK HB hb; have n1_ := Am (bT hv hb); have n2_ := Am (hbox); have GE202 := kG hg hv; have hp1 := pK BK201 hb; obtain ⟨NB201_202, NB202_201⟩ := kXY hg hp1 BK201; clear HB; replace BK201 := hp0 BK201; have HB := n1_; have BK202 := n2_; clear n1_ n2_ hp0 hp1 hv; clear hb hbox hg; have nq7 := kO NB201_202; have zq8 := c3 BK201; have zq9 := c3 BK202) | ((with_reducible refine gate_callee (f := 44) rfl ?_); refine gL (some 7) Try.func44 #[.agg #[.int .i64 a0_0, .int .i64 a0_1, .int .i64 a0_2], .agg #[.int .i64 a1_0, .int .i64 a1_1, .int .i64 a1_2]] rfl ?_; (with_reducible refine (spec_meTwo.calls k a0_0 a0_1 a0_2 a1_0 a1_1 a1_2 true _ A3.out).mono ?_); rintro e w10 ⟨rfl, hb⟩; refine ⟨_, rfl, ?_⟩; have hp0 := pA BK201 hb; have hv := vK HB hb; have n2_ := Am (bT hv hb); clear HB; replace BK201 := hp0 BK201; replace BK202 := hp0 BK202; have HB := n2_; clear n2_ hp0 hv; (try clear hb); have zq11 := c3 BK201; have zq12 := c3 BK202))
   go_ret
   exact ⟨by first | rfl | (simp [errW_none, errW_some] <;> rfl) | (simp [*, errW_none, errW_some] <;> rfl), by repeat (first | (with_reducible first | exact HB.out | apply bA | apply bN | apply bD | refine bX ?_ (by assumption)) | exact HB.out)⟩
 replace c4 := Bool.eq_false_iff.mpr c4
 subst c4
 have H1 : (some false) = some r := by rw [if_neg (show ¬ (false = true) by decide)] at H; exact H
 clear H
 have H := H1
 clear H1
 focus
  obtain rfl := Option.some.inj H
  go_enter Try.func22, Try.ntmps22
  go_wp2_with (first | ((with_reducible refine gate_dst (N := 2) rfl ?_); refine bE 2 #[.int .i64 a0_0, .int .i64 a0_1, .int .i64 a0_2] 25 ?_; intro gb201 hg w13 hbox hb; have hv := vK HB hb; have n0_ := Am (bT hv hb); have n1_ := Am (hbox); have GE201 := kG hg hv; clear HB; have HB := n0_; have BK201 := n1_; clear n0_ n1_ hv; clear hb hbox hg) | ((with_reducible refine gate_dst (N := 3) rfl ?_); refine bE 3 #[.int .i64 a1_0, .int .i64 a1_1, .int .i64 a1_2] 25 ?_; intro gb202 hg w14 hbox hb; have hp0 := pA BK201 hb; have hv := vK HB hb; have n1_ := Am (bT hv hb); have n2_ := Am (hbox); have GE202 := kG hg hv; have hp1 := pK BK201 hb; obtain ⟨NB201_202, NB202_201⟩ := kXY hg hp1 BK201; clear HB; replace BK201 := hp0 BK201; have HB := n1_; have BK202 := n2_; clear n1_ n2_ hp0 hp1 hv; clear hb hbox hg; have nq15 := kO NB201_202; have zq16 := c3 BK201; have zq17 := c3 BK202) | ((with_reducible refine gate_callee (f := 44) rfl ?_); refine gL (some 7) Try.func44 #[.agg #[.int .i64 a0_0, .int .i64 a0_1, .int .i64 a0_2], .agg #[.int .i64 a1_0, .int .i64 a1_1, .int .i64 a1_2]] rfl ?_; (with_reducible refine (spec_meTwo.calls k a0_0 a0_1 a0_2 a1_0 a1_1 a1_2 false _ A3.out).mono ?_); rintro e w18 ⟨rfl, hb⟩; refine ⟨_, rfl, ?_⟩; have hp0 := pA BK201 hb; have hv := vK HB hb; have n2_ := Am (bT hv hb); clear HB; replace BK201 := hp0 BK201; replace BK202 := hp0 BK202; have HB := n2_; clear n2_ hp0 hv; (try clear hb)))
  go_ret
  exact ⟨by first | rfl | (simp [errW_none, errW_some] <;> rfl) | (simp [*, errW_none, errW_some] <;> rfl), by repeat (first | (with_reducible first | exact HB.out | apply bA | apply bN | apply bD | refine bX ?_ (by assumption)) | exact HB.out)⟩
end Go.Proofs.Ytbgklddlcmgakaa.PFnHandsMeetOfAll
