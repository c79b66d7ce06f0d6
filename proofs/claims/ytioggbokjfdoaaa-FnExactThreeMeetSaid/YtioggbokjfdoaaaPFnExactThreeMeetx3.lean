-- WRITTEN BY A PROGRAM OF THIS SESSION (wip/tools): its own text, not the kit's printed one.
import Derived.Test.YtioggbokjfdoaaaPFnExactThreeMeetx0
import Derived.Test.YtioggbokjfdoaaaPFnExactThreeMeetx2
namespace Go.Proofs.Ytioggbokjfdoaaa.PFnExactThreeMeet
open Go.RowKit Go.Proofs.YtioggbokjfdoaaaW.PrintWords Go.Proofs.YtioggbokjfdoaaaW.PrintLast Go.Proofs.YtioggbokjfdoaaaW.PrintMore
attribute [local go_sem] max2_int min2_int max_two min_two max_three min_three max_four min_four   -- for this text's walks alone
set_option linter.unusedVariables false
set_option linter.unusedSimpArgs false

/-! ### spec_meTimes: function 73 -/
mutual
def spec_meTimes.j0 : Nat → Int → Int → Int → Option ((List (S26)) × Bool)
 | 0, _, _, _ => none
 | k + 1, x8, x155000, x155001 => spec_meTimes.l0 k x8 ([] : List (S26)) 0 x155000 x155001
def spec_meTimes.l0 : Nat → Int → List (S26) → Int → Int → Int → Option ((List (S26)) × Bool)
 | 0, _, _, _, _, _ => none
 | k + 1, x8, x9, x10, x155000, x155001 => if x10 < x8 then ((spec_diMake.f k (wrap64 (x155000 + (wrap64 (x10 * x155001)))) (wrap64 (x155001 * x8))).bind fun bt157 => (if bt157.2.2 = true then (if x9.length < 8796093022208 then (spec_meTimes.l0 k x8 (x9 ++ [(⟨bt157.1, bt157.2.1⟩ : S26)]) (wrap64 (x10 + 1)) x155000 x155001) else (none)) else (some (([] : List (S26)), false)))) else (some (x9, true))
end
def spec_meTimes.f (k : Nat) (a0_0 : Int) (a0_1 : Int) (a0_2 : Int) (a1_0 : Int) (a1_1 : Int) : Option ((List (S26)) × Bool) := (spec_diAdd.f k a1_0 a1_1 a0_0 a0_1 (-1)).bind fun bt151 => (if bt151.2.2 = true then (if a0_2 < 0 then ((spec_diMirror.f k bt151.1 bt151.2.1).bind fun bt155 => (spec_meTimes.j0 k (wrap64 (-a0_2)) bt155.1 bt155.2)) else (spec_meTimes.j0 k a0_2 bt151.1 bt151.2.1)) else (some (([] : List (S26)), false)))
theorem spec_meTimes.mono_l : ∀ k, (∀ y0 y1 y2, LeO (spec_meTimes.j0 k y0 y1 y2) (spec_meTimes.j0 (k + 1) y0 y1 y2)) ∧ (∀ y0 y1 y2 y3 y4, LeO (spec_meTimes.l0 k y0 y1 y2 y3 y4) (spec_meTimes.l0 (k + 1) y0 y1 y2 y3 y4))
 | 0 => ⟨fun _ _ _ r h => by simp [spec_meTimes.j0] at h, fun _ _ _ _ _ r h => by simp [spec_meTimes.l0] at h⟩
 | k + 1 => by
  obtain ⟨ih0, ih1⟩ := spec_meTimes.mono_l k
  refine ⟨?_, ?_⟩
  ·intro y0 y1 y2
   unfold spec_meTimes.j0
   repeat' first
   | (with_reducible exact ih0 _ _ _)
   | (with_reducible exact ih1 _ _ _ _ _)
   | (with_reducible exact spec_diAdd.mono _ _ _ _ _ _)
   | (with_reducible exact spec_diMake.mono _ _ _)
   | (with_reducible exact spec_diMirror.mono _ _ _)
   | (with_reducible exact LeO.refl _)
   | (with_reducible exact LeO.none _)
   | (with_reducible refine LeO.ite ?_ ?_)
   | (with_reducible refine LeO.bind ?_ (fun _ => ?_))
   | exact ih0 _ _ _
   | exact ih1 _ _ _ _ _
   | exact spec_diAdd.mono _ _ _ _ _ _
   | exact spec_diMake.mono _ _ _
   | exact spec_diMirror.mono _ _ _
   | exact LeO.none _
   | refine LeO.ite ?_ ?_
   | refine LeO.bind ?_ (fun _ => ?_)
  ·intro y0 y1 y2 y3 y4
   unfold spec_meTimes.l0
   repeat' first
   | (with_reducible exact ih0 _ _ _)
   | (with_reducible exact ih1 _ _ _ _ _)
   | (with_reducible exact spec_diAdd.mono _ _ _ _ _ _)
   | (with_reducible exact spec_diMake.mono _ _ _)
   | (with_reducible exact spec_diMirror.mono _ _ _)
   | (with_reducible exact LeO.refl _)
   | (with_reducible exact LeO.none _)
   | (with_reducible refine LeO.ite ?_ ?_)
   | (with_reducible refine LeO.bind ?_ (fun _ => ?_))
   | exact ih0 _ _ _
   | exact ih1 _ _ _ _ _
   | exact spec_diAdd.mono _ _ _ _ _ _
   | exact spec_diMake.mono _ _ _
   | exact spec_diMirror.mono _ _ _
   | exact LeO.none _
   | refine LeO.ite ?_ ?_
   | refine LeO.bind ?_ (fun _ => ?_)
theorem spec_meTimes.mono : ∀ a0 a1 a2 a3 a4 k, LeO (spec_meTimes.f k a0 a1 a2 a3 a4) (spec_meTimes.f (k + 1) a0 a1 a2 a3 a4) := by
 intro a0 a1 a2 a3 a4 k
 obtain ⟨ih0, ih1⟩ := spec_meTimes.mono_l k
 unfold spec_meTimes.f
 repeat' first
   | (with_reducible exact ih0 _ _ _)
   | (with_reducible exact ih1 _ _ _ _ _)
   | (with_reducible exact spec_diAdd.mono _ _ _ _ _ _)
   | (with_reducible exact spec_diMake.mono _ _ _)
   | (with_reducible exact spec_diMirror.mono _ _ _)
   | (with_reducible exact LeO.refl _)
   | (with_reducible exact LeO.none _)
   | (with_reducible refine LeO.ite ?_ ?_)
   | (with_reducible refine LeO.bind ?_ (fun _ => ?_))
   | exact ih0 _ _ _
   | exact ih1 _ _ _ _ _
   | exact spec_diAdd.mono _ _ _ _ _ _
   | exact spec_diMake.mono _ _ _
   | exact spec_diMirror.mono _ _ _
   | exact LeO.none _
   | refine LeO.ite ?_ ?_
   | refine LeO.bind ?_ (fun _ => ?_)
set_option maxHeartbeats 8000000 in
set_option maxRecDepth 100000 in
theorem spec_meTimes.calls (k : Nat) (a0_0 : Int) (a0_1 : Int) (a0_2 : Int) (a1_0 : Int) (a1_1 : Int) (r1 : List (S26)) (r2 : Bool) (w : World) (h : spec_meTimes.f k a0_0 a0_1 a0_2 a1_0 a1_1 = some (r1, r2)) :
  Calls Try.prog 73 #[.agg #[.int .i64 a0_0, .int .i64 a0_1, .int .i64 a0_2], .agg #[.int .i64 a1_0, .int .i64 a1_1]] w fun e w' => ∃ v0_ : Value, e = .returned (.tuple #[v0_, .bool r2]) ∧ Kd.R k26 26 w' w.heap.size (fun _ => True) v0_ r1 ∧ Below w.heap.size w w' := by
 have hu30 := Try.underlying30; have hu26 := Try.underlying26
 have HB := Am (Below.refl w.heap.size w)
 have H : ((spec_diAdd.f k a1_0 a1_1 a0_0 a0_1 (-1)).bind fun bt151 => (if bt151.2.2 = true then (if a0_2 < 0 then ((spec_diMirror.f k bt151.1 bt151.2.1).bind fun bt155 => (spec_meTimes.j0 k (wrap64 (-a0_2)) bt155.1 bt155.2)) else (spec_meTimes.j0 k a0_2 bt151.1 bt151.2.1)) else (some (([] : List (S26)), false)))) = some (r1, r2) := h
 clear h
 replace H := Option.bind_eq_some_iff.mp H
 obtain ⟨⟨t151, t152, t153⟩, A30, H⟩ := H
 try dsimp only at H
 have A3 := Am A30
 clear A30
 by_cases c4 : t153 = true
 ·subst c4
  have H1 : (if a0_2 < 0 then ((spec_diMirror.f k t151 t152).bind fun bt155 => (spec_meTimes.j0 k (wrap64 (-a0_2)) bt155.1 bt155.2)) else (spec_meTimes.j0 k a0_2 t151 t152)) = some (r1, r2) := by rw [if_pos rfl] at H; exact H
  clear H
  have H := H1
  clear H1
  have HC5 := Am H
  clear H
  go_enter Try.func73, Try.ntmps73
  go_upto_if 25 with (first | ((with_reducible refine gate_dst (N := 2) rfl ?_); refine box_event ?hg (N := 2) ?hd (cs := #[.int .i64 a0_0, .int .i64 a0_1, .int .i64 a0_2]) (t := 30) ?hr ?_; (case hd => rfl); (case hg => rfl); (case hr => first | (go_simp; done) | (go_simp; rfl)); intro gb149 hg w6 hbox hb; have n0_ := Am (bT (by repeat (first | (with_reducible first | exact HB.out | apply bA | apply bN | apply bD) | exact HB.out)) hb); have n1_ := Am (hbox); have n2_ := Am ((by rw [hg]; exact (bZ (by repeat (first | (with_reducible first | exact HB.out | apply bA | apply bN | apply bD) | exact HB.out))) : w.heap.size ≤ gb149)); have n3_ := Am ((by rw [hg]; exact (bZ (by repeat (first | (with_reducible first | exact HB.out | apply bA | apply bN | apply bD) | exact HB.out))) : w.heap.size ≤ gb149)); clear HB; have HB := n0_; have BK149 := n1_; have GW149 := n2_; have GE149 := n3_; clear n0_ n1_ n2_ n3_; clear hb hbox hg) | ((with_reducible refine gate_dst (N := 3) rfl ?_); refine box_event ?hg (N := 3) ?hd (cs := #[.int .i64 a1_0, .int .i64 a1_1]) (t := 26) ?hr ?_; (case hd => rfl); (case hg => rfl); (case hr => first | (go_simp; done) | (go_simp; rfl)); intro gb150 hg w7 hbox hb; have n0_ := Am (kB (g := gb149) (o := .cells #[.int .i64 a0_0, .int .i64 a0_1, .int .i64 a0_2] 30 (0, 0)) (by (with_reducible repeat (first | refine kN ?_ _ | refine kD ?_ | refine kA ?_ _)); exact BK149.out) hb); have n1_ := Am (bT (by repeat (first | (with_reducible first | exact HB.out | apply bA | apply bN | apply bD | refine bX ?_ (by assumption)) | exact HB.out)) hb); have n2_ := Am (hbox); have n3_ := Am ((by rw [hg]; exact (bZ (by repeat (first | (with_reducible first | exact HB.out | apply bA | apply bN | apply bD | refine bX ?_ (by assumption)) | exact HB.out))) : w.heap.size ≤ gb150)); have n4_ := Am ((by rw [hg]; exact (bZ (by repeat (first | (with_reducible first | exact HB.out | apply bA | apply bN | apply bD | refine bX ?_ (by assumption)) | exact HB.out))) : w.heap.size ≤ gb150)); have n5_ := Am ((by rw [hg]; exact Nat.ne_of_lt (kL (g := gb149) (o := .cells #[.int .i64 a0_0, .int .i64 a0_1, .int .i64 a0_2] 30 (0, 0)) (by (with_reducible repeat (first | refine kN ?_ _ | refine kD ?_ | refine kA ?_ _)); exact BK149.out)) : gb149 ≠ gb150)); have n6_ := Am ((by rw [hg]; exact Nat.ne_of_gt (kL (g := gb149) (o := .cells #[.int .i64 a0_0, .int .i64 a0_1, .int .i64 a0_2] 30 (0, 0)) (by (with_reducible repeat (first | refine kN ?_ _ | refine kD ?_ | refine kA ?_ _)); exact BK149.out)) : gb150 ≠ gb149)); clear BK149; clear HB; have BK149 := n0_; have HB := n1_; have BK150 := n2_; have GW150 := n3_; have GE150 := n4_; have NB149_150 := n5_; have NB150_149 := n6_; clear n0_ n1_ n2_ n3_ n4_ n5_ n6_; clear hb hbox hg; have hnb8 := NB150_149.out; have hnc8 := NB149_150.out; have hcz9_0 := c20 BK150.out; have hcz9_1 := c21 BK150.out; have hfz9_0 := kF BK150.out 0; have hfz9_1 := kF BK150.out 1; have hcz10_0 := c30 BK149.out; have hcz10_1 := c31 BK149.out; have hcz10_2 := c32 BK149.out; have hfz10_0 := kF BK149.out 0; have hfz10_1 := kF BK149.out 1; have hfz10_2 := kF BK149.out 2) | ((with_reducible refine gate_callee (f := 99) rfl ?_); refine goesL_ (some 17) rfl rfl Try.func99 (by kernel_rfl) rfl #[.agg #[.int .i64 a1_0, .int .i64 a1_1], .agg #[.int .i64 a0_0, .int .i64 a0_1], .int .i64 (-1)] rfl (by (try simp only [List.map_toArray, List.map_cons, List.map_nil]); first | done | rfl | (simp only [List.length_drop, List.length_take]; rfl)) ?_; (with_reducible refine (spec_diAdd.calls k a1_0 a1_1 a0_0 a0_1 (-1) t151 t152 true _ A3.out).mono ?_); rintro e w11 ⟨rfl, hb⟩; refine ⟨_, rfl, ?_⟩; have n0_ := Am (kB (g := gb149) (o := .cells #[.int .i64 a0_0, .int .i64 a0_1, .int .i64 a0_2] 30 (0, 0)) (by (with_reducible repeat (first | refine kN ?_ _ | refine kD ?_ | refine kA ?_ _)); exact BK149.out) hb); have n1_ := Am (kB (g := gb150) (o := .cells #[.int .i64 a1_0, .int .i64 a1_1] 26 (0, 0)) (by (with_reducible repeat (first | refine kN ?_ _ | refine kD ?_ | refine kA ?_ _)); exact BK150.out) hb); have n2_ := Am (bT (by repeat (first | (with_reducible first | exact HB.out | apply bA | apply bN | apply bD | refine bX ?_ (by assumption)) | exact HB.out)) hb); clear BK149; clear BK150; clear HB; have BK149 := n0_; have BK150 := n1_; have HB := n2_; clear n0_ n1_ n2_; (try clear hb); (try clear hb2); (try clear hk); (try clear hi)) | ((with_reducible refine gate_dst (N := 6) rfl ?_); refine box_event ?hg (N := 6) ?hd (cs := #[.int .i64 0, .int .i64 0]) (t := 26) ?hr ?_; (case hd => rfl); (case hg => rfl); (case hr => first | (go_simp; done) | (go_simp; rfl)); intro gb154 hg w12 hbox hb; have n0_ := Am (kB (g := gb149) (o := .cells #[.int .i64 a0_0, .int .i64 a0_1, .int .i64 a0_2] 30 (0, 0)) (by (with_reducible repeat (first | refine kN ?_ _ | refine kD ?_ | refine kA ?_ _)); exact BK149.out) hb); have n1_ := Am (kB (g := gb150) (o := .cells #[.int .i64 a1_0, .int .i64 a1_1] 26 (0, 0)) (by (with_reducible repeat (first | refine kN ?_ _ | refine kD ?_ | refine kA ?_ _)); exact BK150.out) hb); have n2_ := Am (bT (by repeat (first | (with_reducible first | exact HB.out | apply bA | apply bN | apply bD | refine bX ?_ (by assumption)) | exact HB.out)) hb); have n3_ := Am (hbox); have n4_ := Am ((by rw [hg]; exact (bZ (by repeat (first | (with_reducible first | exact HB.out | apply bA | apply bN | apply bD | refine bX ?_ (by assumption)) | exact HB.out))) : w.heap.size ≤ gb154)); have n5_ := Am ((by rw [hg]; exact (bZ (by repeat (first | (with_reducible first | exact HB.out | apply bA | apply bN | apply bD | refine bX ?_ (by assumption)) | exact HB.out))) : w.heap.size ≤ gb154)); have n6_ := Am ((by rw [hg]; exact Nat.ne_of_lt (kL (g := gb149) (o := .cells #[.int .i64 a0_0, .int .i64 a0_1, .int .i64 a0_2] 30 (0, 0)) (by (with_reducible repeat (first | refine kN ?_ _ | refine kD ?_ | refine kA ?_ _)); exact BK149.out)) : gb149 ≠ gb154)); have n7_ := Am ((by rw [hg]; exact Nat.ne_of_gt (kL (g := gb149) (o := .cells #[.int .i64 a0_0, .int .i64 a0_1, .int .i64 a0_2] 30 (0, 0)) (by (with_reducible repeat (first | refine kN ?_ _ | refine kD ?_ | refine kA ?_ _)); exact BK149.out)) : gb154 ≠ gb149)); have n8_ := Am ((by rw [hg]; exact Nat.ne_of_lt (kL (g := gb150) (o := .cells #[.int .i64 a1_0, .int .i64 a1_1] 26 (0, 0)) (by (with_reducible repeat (first | refine kN ?_ _ | refine kD ?_ | refine kA ?_ _)); exact BK150.out)) : gb150 ≠ gb154)); have n9_ := Am ((by rw [hg]; exact Nat.ne_of_gt (kL (g := gb150) (o := .cells #[.int .i64 a1_0, .int .i64 a1_1] 26 (0, 0)) (by (with_reducible repeat (first | refine kN ?_ _ | refine kD ?_ | refine kA ?_ _)); exact BK150.out)) : gb154 ≠ gb150)); clear BK149; clear BK150; clear HB; have BK149 := n0_; have BK150 := n1_; have HB := n2_; have BK154 := n3_; have GW154 := n4_; have GE154 := n5_; have NB149_154 := n6_; have NB154_149 := n7_; have NB150_154 := n8_; have NB154_150 := n9_; clear n0_ n1_ n2_ n3_ n4_ n5_ n6_ n7_ n8_ n9_; clear hb hbox hg; have hnb13 := NB154_149.out; have hnc13 := NB149_154.out; have hnb14 := NB154_150.out; have hnc14 := NB150_154.out; have hcz15_0 := c20 BK154.out; have hcz15_1 := c21 BK154.out; have hfz15_0 := kF BK154.out 0; have hfz15_1 := kF BK154.out 1; have hcz16_0 := c30 BK149.out; have hcz16_1 := c31 BK149.out; have hcz16_2 := c32 BK149.out; have hfz16_0 := kF BK149.out 0; have hfz16_1 := kF BK149.out 1; have hfz16_2 := kF BK149.out 2))
  (try simp only [Act.put, List.setIfInBounds_toArray, List.set_cons_zero, List.set_cons_succ])
  go_cut [8] (fun v8 wc => ∃ (kq : Nat) (x8_4 : Int) (x155000_4 : Int) (x155001_4 : Int), v8 = .int .i64 x8_4 ∧ Aside0 (spec_meTimes.j0 kq x8_4 x155000_4 x155001_4 = some (r1, r2)) ∧ Aside0 (kq ≤ k) ∧ Aside0 (wc.heap[gb149]? = some (.cells #[.int .i64 a0_0, .int .i64 a0_1, .int .i64 a0_2] 30 (0, 0))) ∧ Aside0 (wc.heap[gb150]? = some (.cells #[.int .i64 a1_0, .int .i64 a1_1] 26 (0, 0))) ∧ Aside0 (wc.heap[gb154]? = some (.cells #[.int .i64 x155000_4, .int .i64 x155001_4] 26 (0, 0))) ∧ Aside0 (Below w.heap.size w wc))
  case first =>
   have H := HC5.out
   clear HC5
   by_cases c17 : a0_2 < 0
   ·rw [if_pos c17] at H
    have c17b0 : decide (a0_2 < 0) = true := decide_eq_true c17
    clear c17
    (first | rw [c17b0] | (simp only [i64_w, i32_w]; rw [c17b0]) | skip)
    replace H := Option.bind_eq_some_iff.mp H
    obtain ⟨⟨t155, t156⟩, A180, H⟩ := H
    try dsimp only at H
    have A18 := Am A180
    clear A180
    have H' := Am H
    clear H
    have hnb19 := NB154_149.out; have hnc19 := NB149_154.out; have hnb20 := NB154_150.out; have hnc20 := NB150_154.out
    have hcz21_0 := c20 BK154.out
    have hcz21_1 := c21 BK154.out
    have hfz21_0 := kF BK154.out 0
    have hfz21_1 := kF BK154.out 1
    go_wp2_with (first | ((with_reducible refine gate_callee (f := 100) rfl ?_); refine goesL_ (some 27) rfl rfl Try.func100 (by kernel_rfl) rfl #[.agg #[.int .i64 t151, .int .i64 t152]] rfl (by (try simp only [List.map_toArray, List.map_cons, List.map_nil]); first | done | rfl | (simp only [List.length_drop, List.length_take]; rfl)) ?_; (with_reducible refine (spec_diMirror.calls k t151 t152 t155 t156 _ A18.out).mono ?_); rintro e w22 ⟨rfl, hb⟩; refine ⟨_, rfl, ?_⟩; have hp0 := hpB gb154 BK149.out hb (fun _ _ q_ h_ => by (with_reducible repeat (first | refine kN ?_ _ | refine kD ?_ | refine kA ?_ _ | refine kZ ?_ q_ _)); exact h_); have n2_ := Am (kB (g := gb154) (o := .cells #[.int .i64 t151, .int .i64 t152] 26 (0, 0)) (by (with_reducible repeat (first | refine kN ?_ _ | refine kD ?_ | refine kA ?_ _)); refine kP (cs := #[.int .i64 t151, .int .i64 0]) ?_ 1 _ rfl; (with_reducible repeat (first | refine kN ?_ _ | refine kD ?_ | refine kA ?_ _)); refine kP (cs := #[.int .i64 0, .int .i64 0]) ?_ 0 _ rfl; (with_reducible repeat (first | refine kN ?_ _ | refine kD ?_ | refine kA ?_ _)); exact BK154.out) hb); have hv := hvK (w := w) hb (by repeat (first | (with_reducible first | exact HB.out | apply bA | apply bN | apply bD | refine bX ?_ (by assumption)) | exact HB.out)); have n3_ := Am (bT hv hb); clear BK154; clear HB; replace BK149 := hp0 NB149_154 BK149; replace BK150 := hp0 NB150_154 BK150; have BK154 := n2_; have HB := n3_; clear n2_ n3_ hp0 hv; (try clear hb); have hcz23_0 := c20 BK154.out; have hcz23_1 := c21 BK154.out; have hfz23_0 := kF BK154.out 0; have hfz23_1 := kF BK154.out 1))
    go_meet
    case rel => exact ⟨_, (wrap64 (-a0_2)), (t155), (t156), (by first | rfl | (simp; done) | (simp [*]; done)), H', ⟨by first | omega | exact Nat.le_refl _⟩, ⟨by (with_reducible repeat (first | refine kN ?_ _ | refine kD ?_ | refine kA ?_ _)); refine kR ?_ NB149_154.out _; (with_reducible repeat (first | refine kN ?_ _ | refine kD ?_ | refine kA ?_ _)); refine kR ?_ NB149_154.out _; (with_reducible repeat (first | refine kN ?_ _ | refine kD ?_ | refine kA ?_ _)); exact BK149.out⟩, ⟨by (with_reducible repeat (first | refine kN ?_ _ | refine kD ?_ | refine kA ?_ _)); refine kR ?_ NB150_154.out _; (with_reducible repeat (first | refine kN ?_ _ | refine kD ?_ | refine kA ?_ _)); refine kR ?_ NB150_154.out _; (with_reducible repeat (first | refine kN ?_ _ | refine kD ?_ | refine kA ?_ _)); exact BK150.out⟩, ⟨by (with_reducible repeat (first | refine kN ?_ _ | refine kD ?_ | refine kA ?_ _)); refine kP (cs := #[.int .i64 t155, .int .i64 t152]) ?_ 1 _ rfl; (with_reducible repeat (first | refine kN ?_ _ | refine kD ?_ | refine kA ?_ _)); refine kP (cs := #[.int .i64 t151, .int .i64 t152]) ?_ 0 _ rfl; (with_reducible repeat (first | refine kN ?_ _ | refine kD ?_ | refine kA ?_ _)); exact BK154.out⟩, ⟨by repeat (first | (with_reducible first | exact HB.out | apply bA | apply bN | apply bD | refine bX ?_ (by assumption)) | exact HB.out)⟩⟩
   rw [if_neg c17] at H
   have c17b0 : decide (a0_2 < 0) = false := decide_eq_false c17
   clear c17
   (first | rw [c17b0] | (simp only [i64_w, i32_w]; rw [c17b0]) | skip)
   have H' := Am H
   clear H
   go_wp2
   go_meet
   case rel => exact ⟨_, (a0_2), (t151), (t152), (by first | rfl | (simp; done) | (simp [*]; done)), H', ⟨by first | omega | exact Nat.le_refl _⟩, ⟨by (with_reducible repeat (first | refine kN ?_ _ | refine kD ?_ | refine kA ?_ _)); refine kR ?_ NB149_154.out _; (with_reducible repeat (first | refine kN ?_ _ | refine kD ?_ | refine kA ?_ _)); refine kR ?_ NB149_154.out _; (with_reducible repeat (first | refine kN ?_ _ | refine kD ?_ | refine kA ?_ _)); exact BK149.out⟩, ⟨by (with_reducible repeat (first | refine kN ?_ _ | refine kD ?_ | refine kA ?_ _)); refine kR ?_ NB150_154.out _; (with_reducible repeat (first | refine kN ?_ _ | refine kD ?_ | refine kA ?_ _)); refine kR ?_ NB150_154.out _; (with_reducible repeat (first | refine kN ?_ _ | refine kD ?_ | refine kA ?_ _)); exact BK150.out⟩, ⟨by (with_reducible repeat (first | refine kN ?_ _ | refine kD ?_ | refine kA ?_ _)); refine kP (cs := #[.int .i64 t151, .int .i64 0]) ?_ 1 _ rfl; (with_reducible repeat (first | refine kN ?_ _ | refine kD ?_ | refine kA ?_ _)); refine kP (cs := #[.int .i64 0, .int .i64 0]) ?_ 0 _ rfl; (with_reducible repeat (first | refine kN ?_ _ | refine kD ?_ | refine kA ?_ _)); exact BK154.out⟩, ⟨by repeat (first | (with_reducible first | exact HB.out | apply bA | apply bN | apply bD | refine bX ?_ (by assumption)) | exact HB.out)⟩⟩
  clear HC5
  (try clear c4); (try clear c20); (try clear hcz10_0); (try clear hcz10_1); (try clear hcz10_2); (try clear hcz15_0); (try clear hcz15_1); (try clear hcz16_0); (try clear hcz16_1); (try clear hcz16_2); (try clear hcz9_0); (try clear hcz9_1); (try clear hfz10_0); (try clear hfz10_1); (try clear hfz10_2); (try clear hfz15_0); (try clear hfz15_1); (try clear hfz16_0); (try clear hfz16_1); (try clear hfz16_2); (try clear hfz9_0); (try clear hfz9_1)
  obtain ⟨kq, x8_4, x155000_4, x155001_4, rfl, HA, HJ4, BK149, BK150, BK154, HB⟩ := hcut
  cases kq with
  | zero => exact absurd HA.out (by simp [spec_meTimes.j0])
  | succ kj4 =>
   have H := HA.out
   clear HA
   simp only [spec_meTimes.j0] at H
   have H' := Am H
   clear H
   go_wp2
   go_loopg [9, 10] kj4 (fun kq v9 v10 w' => ∃ (x9_2 : List (S26)) (x10_2 : Int), v10 = .int .i64 x10_2 ∧ Aside0 (spec_meTimes.l0 kq x8_4 x9_2 x10_2 x155000_4 x155001_4 = some (r1, r2)) ∧ Aside0 (kq ≤ kj4) ∧ Aside0 (Kd.R k26 26 w' w.heap.size (fun k_ => k_ ≠ gb150 ∧ k_ ≠ gb154) v9 x9_2) ∧ Aside0 (w'.heap[gb149]? = some (.cells #[.int .i64 a0_0, .int .i64 a0_1, .int .i64 a0_2] 30 (0, 0))) ∧ Aside0 (w'.heap[gb150]? = some (.cells #[.int .i64 a1_0, .int .i64 a1_1] 26 (0, 0))) ∧ Aside0 (w'.heap[gb154]? = some (.cells #[.int .i64 x155000_4, .int .i64 x155001_4] 26 (0, 0))) ∧ Aside0 (Below w.heap.size w w'))
   case atStart => exact ⟨(([] : List (S26))), (0), (by first | rfl | (simp; done) | (simp [*]; done)), H', ⟨Nat.le_refl _⟩, ⟨by first | exact Kd.R_nil _ _ _ _ _ | exact Kd.N_nil _ _ _ _ _ | exact Kd.V_nil _ _ _ _ _ | exact Kd.Q_nil _ _ _ _ _ | exact Kd.S_nil _ _ _ _ _⟩, ⟨by (with_reducible repeat (first | refine kN ?_ _ | refine kD ?_ | refine kA ?_ _)); exact BK149.out⟩, ⟨by (with_reducible repeat (first | refine kN ?_ _ | refine kD ?_ | refine kA ?_ _)); exact BK150.out⟩, ⟨by (with_reducible repeat (first | refine kN ?_ _ | refine kD ?_ | refine kA ?_ _)); exact BK154.out⟩, ⟨by repeat (first | (with_reducible first | exact HB.out | apply bA | apply bN | apply bD | refine bX ?_ (by assumption)) | exact HB.out)⟩⟩
   case round =>
    clear H'
    (try clear c4); (try clear c20); (try clear hcz10_0); (try clear hcz10_1); (try clear hcz10_2); (try clear hcz15_0); (try clear hcz15_1); (try clear hcz16_0); (try clear hcz16_1); (try clear hcz16_2); (try clear hcz9_0); (try clear hcz9_1); (try clear hfz10_0); (try clear hfz10_1); (try clear hfz10_2); (try clear hfz15_0); (try clear hfz15_1); (try clear hfz16_0); (try clear hfz16_1); (try clear hfz16_2); (try clear hfz9_0); (try clear hfz9_1)
    obtain ⟨x9_2, x10_2, rfl, HA, HK2, HO_9, BK149, BK150, BK154, HB⟩ := hrel
    cases gk with
    | zero => exact absurd HA.out (by simp [spec_meTimes.l0])
    | succ k2 =>
     have H := HA.out
     clear HA
     simp only [spec_meTimes.l0] at H
     by_cases c24 : x10_2 < x8_4
     ·rw [if_pos c24] at H
      have c24b0 : decide (x10_2 < x8_4) = true := decide_eq_true c24
      clear c24
      replace H := Option.bind_eq_some_iff.mp H
      obtain ⟨⟨t157, t158, t159⟩, A250, H⟩ := H
      try dsimp only at H
      have A25 := Am A250
      clear A250
      by_cases c26 : t159 = true
      ·subst c26
       have H1 : (if x9_2.length < 8796093022208 then (spec_meTimes.l0 k2 x8_4 (x9_2 ++ [(⟨t157, t158⟩ : S26)]) (wrap64 (x10_2 + 1)) x155000_4 x155001_4) else (none)) = some (r1, r2) := by rw [if_pos rfl] at H; exact H
       clear H
       have H := H1
       clear H1
       by_cases c27 : x9_2.length < 8796093022208
       ·rw [if_pos c27] at H
        have LMc27 := Am c27
        clear c27
        obtain ⟨y161, hy161⟩ : ∃ y_ : List (S26), y_ = (x9_2 ++ [(⟨t157, t158⟩ : S26)]) := ⟨_, rfl⟩
        replace H : (spec_meTimes.l0 k2 x8_4 y161 (wrap64 (x10_2 + 1)) x155000_4 x155001_4) = some (r1, r2) := by first | (rw [hy161]; with_reducible exact H) | (have H2_ := (Option.bind_some _ _).symm.trans H; rw [hy161]; with_reducible exact H2_) | (have H2_ := (Option.bind_some _ _).symm.trans H; with_reducible exact H2_) | with_reducible exact H | (rw [hy161]; exact H) | exact H
        have Ny161 := Am hy161
        clear hy161
        have H' := Am H
        clear H
        have hnb28 := NB154_149.out; have hnc28 := NB149_154.out; have hnb29 := NB154_150.out; have hnc29 := NB150_154.out
        have hcz30_0 := c20 BK154.out
        have hcz30_1 := c21 BK154.out
        have hfz30_0 := kF BK154.out 0
        have hfz30_1 := kF BK154.out 1
        go_wp2_with (first | ((with_reducible refine gate_callee (f := 101) rfl ?_); refine goesL_ (some 47) rfl rfl Try.func101 (by kernel_rfl) rfl #[.int .i64 (wrap64 (x155000_4 + (wrap64 (x10_2 * x155001_4)))), .int .i64 (wrap64 (x155001_4 * x8_4))] rfl (by (try simp only [List.map_toArray, List.map_cons, List.map_nil]); first | done | rfl | (simp only [List.length_drop, List.length_take]; rfl)) ?_; (with_reducible refine (spec_diMake.calls k2 (wrap64 (x155000_4 + (wrap64 (x10_2 * x155001_4)))) (wrap64 (x155001_4 * x8_4)) t157 t158 true _ A25.out).mono ?_); rintro e w31 ⟨rfl, hb⟩; refine ⟨_, rfl, ?_⟩; have n0_ := Am (Kd.R_below (by (with_reducible repeat (first | apply Kd.R_alloc | apply Kd.R_drewN | apply Kd.R_drew)); exact HO_9.out) hb); have hp0 := hpA BK149.out hb (fun _ _ h_ => by (with_reducible repeat (first | refine kN ?_ _ | refine kD ?_ | refine kA ?_ _)); exact h_); have hv := hvK (w := w) hb (by repeat (first | (with_reducible first | exact HB.out | apply bA | apply bN | apply bD | refine bX ?_ (by assumption)) | exact HB.out)); have n4_ := Am (bT hv hb); clear HO_9; clear HB; have HO_9 := n0_; replace BK149 := hp0 BK149; replace BK150 := hp0 BK150; replace BK154 := hp0 BK154; have HB := n4_; clear n0_ n4_ hp0 hv; (try clear hb)) | ((with_reducible refine gate_dst (N := 11) rfl ?_); refine box_event ?hg (N := 11) ?hd (cs := #[.int .i64 0, .int .i64 0]) (t := 26) ?hr ?_; (case hd => rfl); (case hg => rfl); (case hr => first | (go_simp; done) | (go_simp; rfl)); intro gb160 hg w32 hbox hb; have n0_ := Am (Kd.R_below (Kd.R_elderB (by (with_reducible repeat (first | apply Kd.R_alloc | apply Kd.R_drewN | apply Kd.R_drew)); exact HO_9.out) gb160 (Nat.le_of_eq hg.symm)) hb); have hp0 := hpA BK149.out hb (fun _ _ h_ => by (with_reducible repeat (first | refine kN ?_ _ | refine kD ?_ | refine kA ?_ _)); exact h_); have hv := hvK (w := w) hb (by repeat (first | (with_reducible first | exact HB.out | apply bA | apply bN | apply bD | refine bX ?_ (by assumption)) | exact HB.out)); have n4_ := Am (bT hv hb); have n5_ := Am (hbox); have GW160 := kG hg hv; have GE160 := kG hg hv; have hp1 := hpK BK149.out hb (fun _ _ h_ => by (with_reducible repeat (first | refine kN ?_ _ | refine kD ?_ | refine kA ?_ _)); exact h_); have NB149_160 := kX hg (hp1 BK149.out); have NB160_149 := kY hg (hp1 BK149.out); have NB150_160 := kX hg (hp1 BK150.out); have NB160_150 := kY hg (hp1 BK150.out); have NB154_160 := kX hg (hp1 BK154.out); have NB160_154 := kY hg (hp1 BK154.out); clear HO_9; clear HB; have HO_9 := n0_; replace BK149 := hp0 BK149; replace BK150 := hp0 BK150; replace BK154 := hp0 BK154; have HB := n4_; have BK160 := n5_; clear n0_ n4_ n5_ hp0 hp1 hv; clear hb hbox hg; have hnb33 := NB160_149.out; have hnc33 := NB149_160.out; have hnb34 := NB160_150.out; have hnc34 := NB150_160.out; have hnb35 := NB160_154.out; have hnc35 := NB154_160.out; have hcz36_0 := c20 BK160.out; have hcz36_1 := c21 BK160.out; have hfz36_0 := kF BK160.out 0; have hfz36_1 := kF BK160.out 1) | ((with_reducible refine gate_builtin (b := .append) (xs := #[.tmp 52, .tmp 54]) rfl ?_); at_builtin; refine Kd.R_append k26 (w0 := w) w.heap.size rfl (.tmp 52) (.tmp 54) 35 26 (.agg #[(.int .i64 0), (.int .i64 0)]) 16 rfl Try.underlying35 info26 rfl (by decide) (by omega) u9 x9_2 (⟨t157, t158⟩ : S26) [.int .i64 t157, .int .i64 t158] (fun k_ => k_ ≠ gb150 ∧ k_ ≠ gb154 ∧ k_ ≠ gb160) (fun _ => False) rfl (by first | (go_simp; done) | (go_simp; rfl)) ?aP (fun _ hk => hk.elim) ?aF ?aO ?aB ?aS ?aL ?_; (case aP => exact k26_mkM _ _ _ (⟨t157, t158⟩ : S26)); (case aB => exact (by repeat (first | (with_reducible first | exact HB.out | apply bA | apply bN | apply bD | refine bX ?_ (by assumption)) | exact HB.out))); (case aF => exact (fun k_ hk => ⟨Kd.freshB (g := gb150) (o := .cells #[.int .i64 a1_0, .int .i64 a1_1] 26 (0, 0)) (by (with_reducible repeat (first | refine kN ?_ _ | refine kD ?_ | refine kA ?_ _)); refine kR ?_ NB150_160.out _; (with_reducible repeat (first | refine kN ?_ _ | refine kD ?_ | refine kA ?_ _)); refine kR ?_ NB150_160.out _; (with_reducible repeat (first | refine kN ?_ _ | refine kD ?_ | refine kA ?_ _)); exact BK150.out) k_ hk, Kd.freshB (g := gb154) (o := .cells #[.int .i64 x155000_4, .int .i64 x155001_4] 26 (0, 0)) (by (with_reducible repeat (first | refine kN ?_ _ | refine kD ?_ | refine kA ?_ _)); refine kR ?_ NB154_160.out _; (with_reducible repeat (first | refine kN ?_ _ | refine kD ?_ | refine kA ?_ _)); refine kR ?_ NB154_160.out _; (with_reducible repeat (first | refine kN ?_ _ | refine kD ?_ | refine kA ?_ _)); exact BK154.out) k_ hk, Kd.freshB (g := gb160) (o := .cells #[.int .i64 t157, .int .i64 t158] 26 (0, 0)) (by (with_reducible repeat (first | refine kN ?_ _ | refine kD ?_ | refine kA ?_ _)); refine kP (cs := #[.int .i64 t157, .int .i64 0]) ?_ 1 _ rfl; (with_reducible repeat (first | refine kN ?_ _ | refine kD ?_ | refine kA ?_ _)); refine kP (cs := #[.int .i64 0, .int .i64 0]) ?_ 0 _ rfl; (with_reducible repeat (first | refine kN ?_ _ | refine kD ?_ | refine kA ?_ _)); exact BK160.out) k_ hk⟩)); (case aO => exact (by (with_reducible repeat (first | apply Kd.R_alloc | apply Kd.R_drewN | apply Kd.R_drew)); exact Kd.R_mono (Kd.R_far (p := ⟨gb160, 1, none⟩) (Kd.R_far (p := ⟨gb160, 0, none⟩) (Kd.R_mono HO_9.out (fun k_ hk => (⟨hk, hk.2⟩ : _ ∧ k_ ≠ gb160))) (fun _ hk => hk.2) (.int .i64 t157)) (fun _ hk => hk.2) (.int .i64 t158)) (fun _ hk => ⟨hk.1.1.1, ⟨hk.1.1.2, hk.1.2⟩⟩))); (case aS => exact (bZ (by repeat (first | (with_reducible first | exact HB.out | apply bA | apply bN | apply bD | refine bX ?_ (by assumption)) | exact HB.out)))); (case aL => have := LMc27.out; omega); intro v162 w37 ho hb hg hat; rw [← Ny161.out] at ho; have n0_ := Am (blk_grown (g := gb149) (o := .cells #[.int .i64 a0_0, .int .i64 a0_1, .int .i64 a0_2] 30 (0, 0)) (by (with_reducible repeat (first | refine kN ?_ _ | refine kD ?_ | refine kA ?_ _)); refine kR ?_ NB149_160.out _; (with_reducible repeat (first | refine kN ?_ _ | refine kD ?_ | refine kA ?_ _)); refine kR ?_ NB149_160.out _; (with_reducible repeat (first | refine kN ?_ _ | refine kD ?_ | refine kA ?_ _)); exact BK149.out) hg (Kd.R_ne HO_9.out BK149.out (by decide))); have n1_ := Am (blk_grown (g := gb150) (o := .cells #[.int .i64 a1_0, .int .i64 a1_1] 26 (0, 0)) (by (with_reducible repeat (first | refine kN ?_ _ | refine kD ?_ | refine kA ?_ _)); refine kR ?_ NB150_160.out _; (with_reducible repeat (first | refine kN ?_ _ | refine kD ?_ | refine kA ?_ _)); refine kR ?_ NB150_160.out _; (with_reducible repeat (first | refine kN ?_ _ | refine kD ?_ | refine kA ?_ _)); exact BK150.out) hg (Kd.R_away HO_9.out (fun _ hk => hk.1.1))); have n2_ := Am (blk_grown (g := gb154) (o := .cells #[.int .i64 x155000_4, .int .i64 x155001_4] 26 (0, 0)) (by (with_reducible repeat (first | refine kN ?_ _ | refine kD ?_ | refine kA ?_ _)); refine kR ?_ NB154_160.out _; (with_reducible repeat (first | refine kN ?_ _ | refine kD ?_ | refine kA ?_ _)); refine kR ?_ NB154_160.out _; (with_reducible repeat (first | refine kN ?_ _ | refine kD ?_ | refine kA ?_ _)); exact BK154.out) hg (Kd.R_away HO_9.out (fun _ hk => hk.1.2))); have n3_ := Am (blk_grown (g := gb160) (o := .cells #[.int .i64 t157, .int .i64 t158] 26 (0, 0)) (by (with_reducible repeat (first | refine kN ?_ _ | refine kD ?_ | refine kA ?_ _)); refine kP (cs := #[.int .i64 t157, .int .i64 0]) ?_ 1 _ rfl; (with_reducible repeat (first | refine kN ?_ _ | refine kD ?_ | refine kA ?_ _)); refine kP (cs := #[.int .i64 0, .int .i64 0]) ?_ 0 _ rfl; (with_reducible repeat (first | refine kN ?_ _ | refine kD ?_ | refine kA ?_ _)); exact BK160.out) hg (Kd.R_away HO_9.out (fun _ hk => hk.2))); have n4_ := Am (hb); have n5_ := Am (ho); clear BK149; clear BK150; clear BK154; clear BK160; clear HB; clear HO_9; have BK149 := n0_; have BK150 := n1_; have BK154 := n2_; have BK160 := n3_; have HB := n4_; have HO163 := n5_; clear n0_ n1_ n2_ n3_ n4_ n5_; clear ho hb hg hat))
        go_roundg k2
        case measure => have := HJ4.out; have := HK2.out; omega
        case rel =>
         refine ⟨(y161), (wrap64 (x10_2 + 1)), (by first | rfl | (simp; done) | (simp [*]; done)), H', ⟨by have := HJ4.out; have := HK2.out; omega⟩, ⟨by (with_reducible repeat (first | apply Kd.R_alloc | apply Kd.R_drewN | apply Kd.R_drew)); exact Kd.R_mono HO163.out (fun _ hk => ⟨hk.1, hk.2.1⟩)⟩, ⟨?_⟩, ⟨?_⟩, ⟨?_⟩, ⟨by repeat (first | (with_reducible first | exact HB.out | apply bA | apply bN | apply bD | refine bX ?_ (by assumption)) | exact HB.out)⟩⟩
         all_goals ((with_reducible repeat (first | refine kN ?_ _ | refine kD ?_ | refine kA ?_ _)); exact Aside0.out (by assumption))
       rw [if_neg c27] at H
       exact absurd H (by simp)
      replace c26 := Bool.eq_false_iff.mpr c26
      subst c26
      have H1 : (some (([] : List (S26)), false)) = some (r1, r2) := by rw [if_neg (show ¬ (false = true) by decide)] at H; exact H
      clear H
      have H := H1
      clear H1
      simp only [Option.some.injEq, Prod.mk.injEq] at H
      obtain ⟨rfl, rfl⟩ := H
      have hnb38 := NB154_149.out; have hnc38 := NB149_154.out; have hnb39 := NB154_150.out; have hnc39 := NB150_154.out
      have hcz40_0 := c20 BK154.out
      have hcz40_1 := c21 BK154.out
      have hfz40_0 := kF BK154.out 0
      have hfz40_1 := kF BK154.out 1
      go_wp2_with (first | ((with_reducible refine gate_callee (f := 101) rfl ?_); refine goesL_ (some 47) rfl rfl Try.func101 (by kernel_rfl) rfl #[.int .i64 (wrap64 (x155000_4 + (wrap64 (x10_2 * x155001_4)))), .int .i64 (wrap64 (x155001_4 * x8_4))] rfl (by (try simp only [List.map_toArray, List.map_cons, List.map_nil]); first | done | rfl | (simp only [List.length_drop, List.length_take]; rfl)) ?_; (with_reducible refine (spec_diMake.calls k2 (wrap64 (x155000_4 + (wrap64 (x10_2 * x155001_4)))) (wrap64 (x155001_4 * x8_4)) t157 t158 false _ A25.out).mono ?_); rintro e w41 ⟨rfl, hb⟩; refine ⟨_, rfl, ?_⟩; have n0_ := Am (Kd.R_below (by (with_reducible repeat (first | apply Kd.R_alloc | apply Kd.R_drewN | apply Kd.R_drew)); exact HO_9.out) hb); have hp0 := hpA BK149.out hb (fun _ _ h_ => by (with_reducible repeat (first | refine kN ?_ _ | refine kD ?_ | refine kA ?_ _)); exact h_); have hv := hvK (w := w) hb (by repeat (first | (with_reducible first | exact HB.out | apply bA | apply bN | apply bD | refine bX ?_ (by assumption)) | exact HB.out)); have n4_ := Am (bT hv hb); clear HO_9; clear HB; have HO_9 := n0_; replace BK149 := hp0 BK149; replace BK150 := hp0 BK150; replace BK154 := hp0 BK154; have HB := n4_; clear n0_ n4_ hp0 hv; (try clear hb)) | ((with_reducible refine gate_dst (N := 11) rfl ?_); refine box_event ?hg (N := 11) ?hd (cs := #[.int .i64 0, .int .i64 0]) (t := 26) ?hr ?_; (case hd => rfl); (case hg => rfl); (case hr => first | (go_simp; done) | (go_simp; rfl)); intro gb160 hg w42 hbox hb; have n0_ := Am (Kd.R_below (Kd.R_elderB (by (with_reducible repeat (first | apply Kd.R_alloc | apply Kd.R_drewN | apply Kd.R_drew)); exact HO_9.out) gb160 (Nat.le_of_eq hg.symm)) hb); have hp0 := hpA BK149.out hb (fun _ _ h_ => by (with_reducible repeat (first | refine kN ?_ _ | refine kD ?_ | refine kA ?_ _)); exact h_); have hv := hvK (w := w) hb (by repeat (first | (with_reducible first | exact HB.out | apply bA | apply bN | apply bD | refine bX ?_ (by assumption)) | exact HB.out)); have n4_ := Am (bT hv hb); have n5_ := Am (hbox); have GW160 := kG hg hv; have GE160 := kG hg hv; have hp1 := hpK BK149.out hb (fun _ _ h_ => by (with_reducible repeat (first | refine kN ?_ _ | refine kD ?_ | refine kA ?_ _)); exact h_); have NB149_160 := kX hg (hp1 BK149.out); have NB160_149 := kY hg (hp1 BK149.out); have NB150_160 := kX hg (hp1 BK150.out); have NB160_150 := kY hg (hp1 BK150.out); have NB154_160 := kX hg (hp1 BK154.out); have NB160_154 := kY hg (hp1 BK154.out); clear HO_9; clear HB; have HO_9 := n0_; replace BK149 := hp0 BK149; replace BK150 := hp0 BK150; replace BK154 := hp0 BK154; have HB := n4_; have BK160 := n5_; clear n0_ n4_ n5_ hp0 hp1 hv; clear hb hbox hg; have hnb43 := NB160_149.out; have hnc43 := NB149_160.out; have hnb44 := NB160_150.out; have hnc44 := NB150_160.out; have hnb45 := NB160_154.out; have hnc45 := NB154_160.out; have hcz46_0 := c20 BK160.out; have hcz46_1 := c21 BK160.out; have hfz46_0 := kF BK160.out 0; have hfz46_1 := kF BK160.out 1))
      go_ret2
      exact ⟨_, by first | rfl | (simp [errW_none, errW_some] <;> rfl) | (simp [*, errW_none, errW_some] <;> rfl), by first | exact Kd.R_nil _ _ _ _ _ | exact Kd.N_nil _ _ _ _ _ | exact Kd.V_nil _ _ _ _ _ | exact Kd.Q_nil _ _ _ _ _ | exact Kd.S_nil _ _ _ _ _, by repeat (first | (with_reducible first | exact HB.out | apply bA | apply bN | apply bD | refine bX ?_ (by assumption)) | exact HB.out)⟩
     rw [if_neg c24] at H
     have c24b0 : decide (x10_2 < x8_4) = false := decide_eq_false c24
     clear c24
     simp only [Option.some.injEq, Prod.mk.injEq] at H
     obtain ⟨rfl, rfl⟩ := H
     go_wp2
     go_ret2
     exact ⟨_, by first | rfl | (simp [errW_none, errW_some] <;> rfl) | (simp [*, errW_none, errW_some] <;> rfl), by (with_reducible repeat (first | apply Kd.R_alloc | apply Kd.R_drewN | apply Kd.R_drew)); exact Kd.R_mono HO_9.out (fun _ hk => trivial), by repeat (first | (with_reducible first | exact HB.out | apply bA | apply bN | apply bD | refine bX ?_ (by assumption)) | exact HB.out)⟩
 replace c4 := Bool.eq_false_iff.mpr c4
 subst c4
 have H1 : (some (([] : List (S26)), false)) = some (r1, r2) := by rw [if_neg (show ¬ (false = true) by decide)] at H; exact H
 clear H
 have H := H1
 clear H1
 simp only [Option.some.injEq, Prod.mk.injEq] at H
 obtain ⟨rfl, rfl⟩ := H
 go_enter Try.func73, Try.ntmps73
 go_wp2_with (first | ((with_reducible refine gate_dst (N := 2) rfl ?_); refine box_event ?hg (N := 2) ?hd (cs := #[.int .i64 a0_0, .int .i64 a0_1, .int .i64 a0_2]) (t := 30) ?hr ?_; (case hd => rfl); (case hg => rfl); (case hr => first | (go_simp; done) | (go_simp; rfl)); intro gb149 hg w47 hbox hb; have hv := hvK (w := w) hb (by repeat (first | (with_reducible first | exact HB.out | apply bA | apply bN | apply bD) | exact HB.out)); have n0_ := Am (bT hv hb); have n1_ := Am (hbox); have GW149 := kG hg hv; have GE149 := kG hg hv; clear HB; have HB := n0_; have BK149 := n1_; clear n0_ n1_ hv; clear hb hbox hg) | ((with_reducible refine gate_dst (N := 3) rfl ?_); refine box_event ?hg (N := 3) ?hd (cs := #[.int .i64 a1_0, .int .i64 a1_1]) (t := 26) ?hr ?_; (case hd => rfl); (case hg => rfl); (case hr => first | (go_simp; done) | (go_simp; rfl)); intro gb150 hg w48 hbox hb; have hp0 := hpA BK149.out hb (fun _ _ h_ => by (with_reducible repeat (first | refine kN ?_ _ | refine kD ?_ | refine kA ?_ _)); exact h_); have hv := hvK (w := w) hb (by repeat (first | (with_reducible first | exact HB.out | apply bA | apply bN | apply bD | refine bX ?_ (by assumption)) | exact HB.out)); have n1_ := Am (bT hv hb); have n2_ := Am (hbox); have GW150 := kG hg hv; have GE150 := kG hg hv; have hp1 := hpK BK149.out hb (fun _ _ h_ => by (with_reducible repeat (first | refine kN ?_ _ | refine kD ?_ | refine kA ?_ _)); exact h_); have NB149_150 := kX hg (hp1 BK149.out); have NB150_149 := kY hg (hp1 BK149.out); clear HB; replace BK149 := hp0 BK149; have HB := n1_; have BK150 := n2_; clear n1_ n2_ hp0 hp1 hv; clear hb hbox hg; have hnb49 := NB150_149.out; have hnc49 := NB149_150.out; have hcz50_0 := c20 BK150.out; have hcz50_1 := c21 BK150.out; have hfz50_0 := kF BK150.out 0; have hfz50_1 := kF BK150.out 1; have hcz51_0 := c30 BK149.out; have hcz51_1 := c31 BK149.out; have hcz51_2 := c32 BK149.out; have hfz51_0 := kF BK149.out 0; have hfz51_1 := kF BK149.out 1; have hfz51_2 := kF BK149.out 2) | ((with_reducible refine gate_callee (f := 99) rfl ?_); refine goesL_ (some 17) rfl rfl Try.func99 (by kernel_rfl) rfl #[.agg #[.int .i64 a1_0, .int .i64 a1_1], .agg #[.int .i64 a0_0, .int .i64 a0_1], .int .i64 (-1)] rfl (by (try simp only [List.map_toArray, List.map_cons, List.map_nil]); first | done | rfl | (simp only [List.length_drop, List.length_take]; rfl)) ?_; (with_reducible refine (spec_diAdd.calls k a1_0 a1_1 a0_0 a0_1 (-1) t151 t152 false _ A3.out).mono ?_); rintro e w52 ⟨rfl, hb⟩; refine ⟨_, rfl, ?_⟩; have hp0 := hpA BK149.out hb (fun _ _ h_ => by (with_reducible repeat (first | refine kN ?_ _ | refine kD ?_ | refine kA ?_ _)); exact h_); have hv := hvK (w := w) hb (by repeat (first | (with_reducible first | exact HB.out | apply bA | apply bN | apply bD | refine bX ?_ (by assumption)) | exact HB.out)); have n2_ := Am (bT hv hb); clear HB; replace BK149 := hp0 BK149; replace BK150 := hp0 BK150; have HB := n2_; clear n2_ hp0 hv; (try clear hb)) | ((with_reducible refine gate_dst (N := 6) rfl ?_); refine box_event ?hg (N := 6) ?hd (cs := #[.int .i64 0, .int .i64 0]) (t := 26) ?hr ?_; (case hd => rfl); (case hg => rfl); (case hr => first | (go_simp; done) | (go_simp; rfl)); intro gb154 hg w53 hbox hb; have hp0 := hpA BK149.out hb (fun _ _ h_ => by (with_reducible repeat (first | refine kN ?_ _ | refine kD ?_ | refine kA ?_ _)); exact h_); have hv := hvK (w := w) hb (by repeat (first | (with_reducible first | exact HB.out | apply bA | apply bN | apply bD | refine bX ?_ (by assumption)) | exact HB.out)); have n2_ := Am (bT hv hb); have n3_ := Am (hbox); have GW154 := kG hg hv; have GE154 := kG hg hv; have hp1 := hpK BK149.out hb (fun _ _ h_ => by (with_reducible repeat (first | refine kN ?_ _ | refine kD ?_ | refine kA ?_ _)); exact h_); have NB149_154 := kX hg (hp1 BK149.out); have NB154_149 := kY hg (hp1 BK149.out); have NB150_154 := kX hg (hp1 BK150.out); have NB154_150 := kY hg (hp1 BK150.out); clear HB; replace BK149 := hp0 BK149; replace BK150 := hp0 BK150; have HB := n2_; have BK154 := n3_; clear n2_ n3_ hp0 hp1 hv; clear hb hbox hg; have hnb54 := NB154_149.out; have hnc54 := NB149_154.out; have hnb55 := NB154_150.out; have hnc55 := NB150_154.out; have hcz56_0 := c20 BK154.out; have hcz56_1 := c21 BK154.out; have hfz56_0 := kF BK154.out 0; have hfz56_1 := kF BK154.out 1))
 go_ret2
 exact ⟨_, by first | rfl | (simp [errW_none, errW_some] <;> rfl) | (simp [*, errW_none, errW_some] <;> rfl), by first | exact Kd.R_nil _ _ _ _ _ | exact Kd.N_nil _ _ _ _ _ | exact Kd.V_nil _ _ _ _ _ | exact Kd.Q_nil _ _ _ _ _ | exact Kd.S_nil _ _ _ _ _, by repeat (first | (with_reducible first | exact HB.out | apply bA | apply bN | apply bD | refine bX ?_ (by assumption)) | exact HB.out)⟩
/-! ### spec_MeetTimes: function 56 -/
def spec_MeetTimes.f (k : Nat) (a0_0 : Int) (a0_1 : Int) (a0_2 : Int) (a1_0 : Int) (a1_1 : Int) (a1_2 : Int) : Option ((List (S26)) × Bool) := (spec_meAsked.f k a0_0 a0_1 a0_2 a1_0 a1_1 a1_2).bind fun t166 => (if t166 = true then ((spec_meRelative.f k a0_0 a0_1 a0_2 a1_0 a1_1 a1_2).bind fun bt167 => ((spec_meTimes.f k bt167.1 bt167.2.1 bt167.2.2 0 1).bind fun bt170 => (some (bt170.1, bt170.2)))) else (some (([] : List (S26)), false)))
theorem spec_MeetTimes.mono : ∀ a0 a1 a2 a3 a4 a5 k, LeO (spec_MeetTimes.f k a0 a1 a2 a3 a4 a5) (spec_MeetTimes.f (k + 1) a0 a1 a2 a3 a4 a5) := by
 intro a0 a1 a2 a3 a4 a5 k
 unfold spec_MeetTimes.f
 repeat' first
   | (with_reducible exact spec_meAsked.mono _ _ _ _ _ _ _)
   | (with_reducible exact spec_meRelative.mono _ _ _ _ _ _ _)
   | (with_reducible exact spec_meTimes.mono _ _ _ _ _ _)
   | (with_reducible exact LeO.refl _)
   | (with_reducible exact LeO.none _)
   | (with_reducible refine LeO.ite ?_ ?_)
   | (with_reducible refine LeO.bind ?_ (fun _ => ?_))
   | exact spec_meAsked.mono _ _ _ _ _ _ _
   | exact spec_meRelative.mono _ _ _ _ _ _ _
   | exact spec_meTimes.mono _ _ _ _ _ _
   | exact LeO.none _
   | refine LeO.ite ?_ ?_
   | refine LeO.bind ?_ (fun _ => ?_)
set_option maxHeartbeats 8000000 in
set_option maxRecDepth 100000 in
theorem spec_MeetTimes.calls (k : Nat) (a0_0 : Int) (a0_1 : Int) (a0_2 : Int) (a1_0 : Int) (a1_1 : Int) (a1_2 : Int) (r1 : List (S26)) (r2 : Bool) (w : World) (h : spec_MeetTimes.f k a0_0 a0_1 a0_2 a1_0 a1_1 a1_2 = some (r1, r2)) :
  Calls Try.prog 56 #[.agg #[.int .i64 a0_0, .int .i64 a0_1, .int .i64 a0_2], .agg #[.int .i64 a1_0, .int .i64 a1_1, .int .i64 a1_2]] w fun e w' => ∃ v0_ : Value, e = .returned (.tuple #[v0_, .bool r2]) ∧ Kd.R k26 26 w' w.heap.size (fun _ => True) v0_ r1 ∧ Below w.heap.size w w' := by
 have hu30 := Try.underlying30; have hu26 := Try.underlying26
 have HB := Am (Below.refl w.heap.size w)
 have H : ((spec_meAsked.f k a0_0 a0_1 a0_2 a1_0 a1_1 a1_2).bind fun t166 => (if t166 = true then ((spec_meRelative.f k a0_0 a0_1 a0_2 a1_0 a1_1 a1_2).bind fun bt167 => ((spec_meTimes.f k bt167.1 bt167.2.1 bt167.2.2 0 1).bind fun bt170 => (some (bt170.1, bt170.2)))) else (some (([] : List (S26)), false)))) = some (r1, r2) := h
 clear h
 replace H := Option.bind_eq_some_iff.mp H
 obtain ⟨t166, A30, H⟩ := H
 try dsimp only at H
 have A3 := Am A30
 clear A30
 by_cases c4 : t166 = true
 ·subst c4
  have H1 : ((spec_meRelative.f k a0_0 a0_1 a0_2 a1_0 a1_1 a1_2).bind fun bt167 => ((spec_meTimes.f k bt167.1 bt167.2.1 bt167.2.2 0 1).bind fun bt170 => (some (bt170.1, bt170.2)))) = some (r1, r2) := by rw [if_pos rfl] at H; exact H
  clear H
  have H := H1
  clear H1
  replace H := Option.bind_eq_some_iff.mp H
  obtain ⟨⟨t167, t168, t169⟩, A50, H⟩ := H
  try dsimp only at H
  have A5 := Am A50
  clear A50
  replace H := Option.bind_eq_some_iff.mp H
  obtain ⟨⟨t170, t173⟩, A60, H⟩ := H
  try dsimp only at H
  have A6 := Am A60
  clear A60
  simp only [Option.some.injEq, Prod.mk.injEq] at H
  obtain ⟨rfl, rfl⟩ := H
  go_enter Try.func56, Try.ntmps56
  go_wp2_with (first | ((with_reducible refine gate_dst (N := 2) rfl ?_); refine box_event ?hg (N := 2) ?hd (cs := #[.int .i64 a0_0, .int .i64 a0_1, .int .i64 a0_2]) (t := 30) ?hr ?_; (case hd => rfl); (case hg => rfl); (case hr => first | (go_simp; done) | (go_simp; rfl)); intro gb164 hg w7 hbox hb; have hv := hvK (w := w) hb (by repeat (first | (with_reducible first | exact HB.out | apply bA | apply bN | apply bD) | exact HB.out)); have n0_ := Am (bT hv hb); have n1_ := Am (hbox); have GW164 := kG hg hv; have GE164 := kG hg hv; clear HB; have HB := n0_; have BK164 := n1_; clear n0_ n1_ hv; clear hb hbox hg) | ((with_reducible refine gate_dst (N := 3) rfl ?_); refine box_event ?hg (N := 3) ?hd (cs := #[.int .i64 a1_0, .int .i64 a1_1, .int .i64 a1_2]) (t := 30) ?hr ?_; (case hd => rfl); (case hg => rfl); (case hr => first | (go_simp; done) | (go_simp; rfl)); intro gb165 hg w8 hbox hb; have hp0 := hpA BK164.out hb (fun _ _ h_ => by (with_reducible repeat (first | refine kN ?_ _ | refine kD ?_ | refine kA ?_ _)); exact h_); have hv := hvK (w := w) hb (by repeat (first | (with_reducible first | exact HB.out | apply bA | apply bN | apply bD | refine bX ?_ (by assumption)) | exact HB.out)); have n1_ := Am (bT hv hb); have n2_ := Am (hbox); have GW165 := kG hg hv; have GE165 := kG hg hv; have hp1 := hpK BK164.out hb (fun _ _ h_ => by (with_reducible repeat (first | refine kN ?_ _ | refine kD ?_ | refine kA ?_ _)); exact h_); have NB164_165 := kX hg (hp1 BK164.out); have NB165_164 := kY hg (hp1 BK164.out); clear HB; replace BK164 := hp0 BK164; have HB := n1_; have BK165 := n2_; clear n1_ n2_ hp0 hp1 hv; clear hb hbox hg; have hnb9 := NB164_165.out; have hnc9 := NB165_164.out; have hcz10_0 := c30 BK164.out; have hcz10_1 := c31 BK164.out; have hcz10_2 := c32 BK164.out; have hfz10_0 := kF BK164.out 0; have hfz10_1 := kF BK164.out 1; have hfz10_2 := kF BK164.out 2; have hcz11_0 := c30 BK165.out; have hcz11_1 := c31 BK165.out; have hcz11_2 := c32 BK165.out; have hfz11_0 := kF BK165.out 0; have hfz11_1 := kF BK165.out 1; have hfz11_2 := kF BK165.out 2) | ((with_reducible refine gate_callee (f := 71) rfl ?_); refine goesL_ (some 8) rfl rfl Try.func71 (by kernel_rfl) rfl #[.agg #[.int .i64 a0_0, .int .i64 a0_1, .int .i64 a0_2], .agg #[.int .i64 a1_0, .int .i64 a1_1, .int .i64 a1_2]] rfl (by (try simp only [List.map_toArray, List.map_cons, List.map_nil]); first | done | rfl | (simp only [List.length_drop, List.length_take]; rfl)) ?_; (with_reducible refine (spec_meAsked.calls k a0_0 a0_1 a0_2 a1_0 a1_1 a1_2 true _ A3.out).mono ?_); rintro e w12 ⟨rfl, hb⟩; refine ⟨_, rfl, ?_⟩; have hp0 := hpA BK164.out hb (fun _ _ h_ => by (with_reducible repeat (first | refine kN ?_ _ | refine kD ?_ | refine kA ?_ _)); exact h_); have hv := hvK (w := w) hb (by repeat (first | (with_reducible first | exact HB.out | apply bA | apply bN | apply bD | refine bX ?_ (by assumption)) | exact HB.out)); have n2_ := Am (bT hv hb); clear HB; replace BK164 := hp0 BK164; replace BK165 := hp0 BK165; have HB := n2_; clear n2_ hp0 hv; (try clear hb); have hcz13_0 := c30 BK164.out; have hcz13_1 := c31 BK164.out; have hcz13_2 := c32 BK164.out; have hfz13_0 := kF BK164.out 0; have hfz13_1 := kF BK164.out 1; have hfz13_2 := kF BK164.out 2; have hcz14_0 := c30 BK165.out; have hcz14_1 := c31 BK165.out; have hcz14_2 := c32 BK165.out; have hfz14_0 := kF BK165.out 0; have hfz14_1 := kF BK165.out 1; have hfz14_2 := kF BK165.out 2) | ((with_reducible refine gate_callee (f := 65) rfl ?_); refine goesL_ (some 12) rfl rfl Try.func65 (by kernel_rfl) rfl #[.agg #[.int .i64 a0_0, .int .i64 a0_1, .int .i64 a0_2], .agg #[.int .i64 a1_0, .int .i64 a1_1, .int .i64 a1_2]] rfl (by (try simp only [List.map_toArray, List.map_cons, List.map_nil]); first | done | rfl | (simp only [List.length_drop, List.length_take]; rfl)) ?_; (with_reducible refine (spec_meRelative.calls k a0_0 a0_1 a0_2 a1_0 a1_1 a1_2 t167 t168 t169 _ A5.out).mono ?_); rintro e w15 ⟨rfl, hb⟩; refine ⟨_, rfl, ?_⟩; have hp0 := hpA BK164.out hb (fun _ _ h_ => by (with_reducible repeat (first | refine kN ?_ _ | refine kD ?_ | refine kA ?_ _)); exact h_); have hv := hvK (w := w) hb (by repeat (first | (with_reducible first | exact HB.out | apply bA | apply bN | apply bD | refine bX ?_ (by assumption)) | exact HB.out)); have n2_ := Am (bT hv hb); clear HB; replace BK164 := hp0 BK164; replace BK165 := hp0 BK165; have HB := n2_; clear n2_ hp0 hv; (try clear hb)) | ((with_reducible refine gate_callee (f := 73) rfl ?_); refine goesL_ (some 14) rfl rfl Try.func73 (by kernel_rfl) rfl #[.agg #[.int .i64 t167, .int .i64 t168, .int .i64 t169], .agg #[.int .i64 0, .int .i64 1]] rfl (by (try simp only [List.map_toArray, List.map_cons, List.map_nil]); first | done | rfl | (simp only [List.length_drop, List.length_take]; rfl)) ?_; (with_reducible refine (spec_meTimes.calls k t167 t168 t169 0 1 t170 t173 _ A6.out).mono ?_); rintro e w16 ⟨v171, rfl, ho0, hb⟩; refine ⟨_, rfl, ?_⟩; have n0_ := Am (Kd.R_lower ho0 (bZ (by repeat (first | (with_reducible first | exact HB.out | apply bA | apply bN | apply bD | refine bX ?_ (by assumption)) | exact HB.out)))); have hp0 := hpA BK164.out hb (fun _ _ h_ => by (with_reducible repeat (first | refine kN ?_ _ | refine kD ?_ | refine kA ?_ _)); exact h_); have hv := hvK (w := w) hb (by repeat (first | (with_reducible first | exact HB.out | apply bA | apply bN | apply bD | refine bX ?_ (by assumption)) | exact HB.out)); have n3_ := Am (bT hv hb); clear HB; have HO172 := n0_; replace BK164 := hp0 BK164; replace BK165 := hp0 BK165; have HB := n3_; clear n0_ n3_ hp0 hv; (try clear hb); (try clear ho0)))
  go_ret2
  exact ⟨_, by first | rfl | (simp [errW_none, errW_some] <;> rfl) | (simp [*, errW_none, errW_some] <;> rfl), by (with_reducible repeat (first | apply Kd.R_alloc | apply Kd.R_drewN | apply Kd.R_drew)); exact HO172.out, by repeat (first | (with_reducible first | exact HB.out | apply bA | apply bN | apply bD | refine bX ?_ (by assumption)) | exact HB.out)⟩
 replace c4 := Bool.eq_false_iff.mpr c4
 subst c4
 have H1 : (some (([] : List (S26)), false)) = some (r1, r2) := by rw [if_neg (show ¬ (false = true) by decide)] at H; exact H
 clear H
 have H := H1
 clear H1
 simp only [Option.some.injEq, Prod.mk.injEq] at H
 obtain ⟨rfl, rfl⟩ := H
 go_enter Try.func56, Try.ntmps56
 go_wp2_with (first | ((with_reducible refine gate_dst (N := 2) rfl ?_); refine box_event ?hg (N := 2) ?hd (cs := #[.int .i64 a0_0, .int .i64 a0_1, .int .i64 a0_2]) (t := 30) ?hr ?_; (case hd => rfl); (case hg => rfl); (case hr => first | (go_simp; done) | (go_simp; rfl)); intro gb164 hg w17 hbox hb; have hv := hvK (w := w) hb (by repeat (first | (with_reducible first | exact HB.out | apply bA | apply bN | apply bD) | exact HB.out)); have n0_ := Am (bT hv hb); have n1_ := Am (hbox); have GW164 := kG hg hv; have GE164 := kG hg hv; clear HB; have HB := n0_; have BK164 := n1_; clear n0_ n1_ hv; clear hb hbox hg) | ((with_reducible refine gate_dst (N := 3) rfl ?_); refine box_event ?hg (N := 3) ?hd (cs := #[.int .i64 a1_0, .int .i64 a1_1, .int .i64 a1_2]) (t := 30) ?hr ?_; (case hd => rfl); (case hg => rfl); (case hr => first | (go_simp; done) | (go_simp; rfl)); intro gb165 hg w18 hbox hb; have hp0 := hpA BK164.out hb (fun _ _ h_ => by (with_reducible repeat (first | refine kN ?_ _ | refine kD ?_ | refine kA ?_ _)); exact h_); have hv := hvK (w := w) hb (by repeat (first | (with_reducible first | exact HB.out | apply bA | apply bN | apply bD | refine bX ?_ (by assumption)) | exact HB.out)); have n1_ := Am (bT hv hb); have n2_ := Am (hbox); have GW165 := kG hg hv; have GE165 := kG hg hv; have hp1 := hpK BK164.out hb (fun _ _ h_ => by (with_reducible repeat (first | refine kN ?_ _ | refine kD ?_ | refine kA ?_ _)); exact h_); have NB164_165 := kX hg (hp1 BK164.out); have NB165_164 := kY hg (hp1 BK164.out); clear HB; replace BK164 := hp0 BK164; have HB := n1_; have BK165 := n2_; clear n1_ n2_ hp0 hp1 hv; clear hb hbox hg; have hnb19 := NB164_165.out; have hnc19 := NB165_164.out; have hcz20_0 := c30 BK164.out; have hcz20_1 := c31 BK164.out; have hcz20_2 := c32 BK164.out; have hfz20_0 := kF BK164.out 0; have hfz20_1 := kF BK164.out 1; have hfz20_2 := kF BK164.out 2; have hcz21_0 := c30 BK165.out; have hcz21_1 := c31 BK165.out; have hcz21_2 := c32 BK165.out; have hfz21_0 := kF BK165.out 0; have hfz21_1 := kF BK165.out 1; have hfz21_2 := kF BK165.out 2) | ((with_reducible refine gate_callee (f := 71) rfl ?_); refine goesL_ (some 8) rfl rfl Try.func71 (by kernel_rfl) rfl #[.agg #[.int .i64 a0_0, .int .i64 a0_1, .int .i64 a0_2], .agg #[.int .i64 a1_0, .int .i64 a1_1, .int .i64 a1_2]] rfl (by (try simp only [List.map_toArray, List.map_cons, List.map_nil]); first | done | rfl | (simp only [List.length_drop, List.length_take]; rfl)) ?_; (with_reducible refine (spec_meAsked.calls k a0_0 a0_1 a0_2 a1_0 a1_1 a1_2 false _ A3.out).mono ?_); rintro e w22 ⟨rfl, hb⟩; refine ⟨_, rfl, ?_⟩; have hp0 := hpA BK164.out hb (fun _ _ h_ => by (with_reducible repeat (first | refine kN ?_ _ | refine kD ?_ | refine kA ?_ _)); exact h_); have hv := hvK (w := w) hb (by repeat (first | (with_reducible first | exact HB.out | apply bA | apply bN | apply bD | refine bX ?_ (by assumption)) | exact HB.out)); have n2_ := Am (bT hv hb); clear HB; replace BK164 := hp0 BK164; replace BK165 := hp0 BK165; have HB := n2_; clear n2_ hp0 hv; (try clear hb)))
 go_ret2
 exact ⟨_, by first | rfl | (simp [errW_none, errW_some] <;> rfl) | (simp [*, errW_none, errW_some] <;> rfl), by first | exact Kd.R_nil _ _ _ _ _ | exact Kd.N_nil _ _ _ _ _ | exact Kd.V_nil _ _ _ _ _ | exact Kd.Q_nil _ _ _ _ _ | exact Kd.S_nil _ _ _ _ _, by repeat (first | (with_reducible first | exact HB.out | apply bA | apply bN | apply bD | refine bX ?_ (by assumption)) | exact HB.out)⟩
/-! ### spec_meAt: function 64 -/
def spec_meAt.f (k : Nat) (a0_0 : Int) (a0_1 : Int) (a0_2 : Int) (a1_0 : Int) (a1_1 : Int) : Option (Int × Int × Bool) := (spec_diAdd.f k a0_0 a0_1 a1_0 a1_1 a0_2).bind fun bt177 => (some (bt177.1, bt177.2.1, bt177.2.2))
theorem spec_meAt.mono : ∀ a0 a1 a2 a3 a4 k, LeO (spec_meAt.f k a0 a1 a2 a3 a4) (spec_meAt.f (k + 1) a0 a1 a2 a3 a4) := by
 intro a0 a1 a2 a3 a4 k
 unfold spec_meAt.f
 repeat' first
   | (with_reducible exact spec_diAdd.mono _ _ _ _ _ _)
   | (with_reducible exact LeO.refl _)
   | (with_reducible exact LeO.none _)
   | (with_reducible refine LeO.ite ?_ ?_)
   | (with_reducible refine LeO.bind ?_ (fun _ => ?_))
   | exact spec_diAdd.mono _ _ _ _ _ _
   | exact LeO.none _
   | refine LeO.ite ?_ ?_
   | refine LeO.bind ?_ (fun _ => ?_)
set_option maxHeartbeats 8000000 in
set_option maxRecDepth 100000 in
theorem spec_meAt.calls (k : Nat) (a0_0 : Int) (a0_1 : Int) (a0_2 : Int) (a1_0 : Int) (a1_1 : Int) (r1 : Int) (r2 : Int) (r3 : Bool) (w : World) (h : spec_meAt.f k a0_0 a0_1 a0_2 a1_0 a1_1 = some (r1, r2, r3)) :
  Calls Try.prog 64 #[.agg #[.int .i64 a0_0, .int .i64 a0_1, .int .i64 a0_2], .agg #[.int .i64 a1_0, .int .i64 a1_1]] w fun e w' => e = .returned (.tuple #[.agg #[.int .i64 r1, .int .i64 r2], .bool r3]) ∧ Below w.heap.size w w' := by
 have hu30 := Try.underlying30; have hu26 := Try.underlying26
 have HB := Am (Below.refl w.heap.size w)
 have H : ((spec_diAdd.f k a0_0 a0_1 a1_0 a1_1 a0_2).bind fun bt177 => (some (bt177.1, bt177.2.1, bt177.2.2))) = some (r1, r2, r3) := h
 clear h
 replace H := Option.bind_eq_some_iff.mp H
 obtain ⟨⟨t177, t178, t179⟩, A30, H⟩ := H
 try dsimp only at H
 have A3 := Am A30
 clear A30
 simp only [Option.some.injEq, Prod.mk.injEq] at H
 obtain ⟨rfl, rfl, rfl⟩ := H
 go_enter Try.func64, Try.ntmps64
 go_wp2_with (first | ((with_reducible refine gate_dst (N := 2) rfl ?_); refine box_event ?hg (N := 2) ?hd (cs := #[.int .i64 a0_0, .int .i64 a0_1, .int .i64 a0_2]) (t := 30) ?hr ?_; (case hd => rfl); (case hg => rfl); (case hr => first | (go_simp; done) | (go_simp; rfl)); intro gb174 hg w4 hbox hb; have hv := hvK (w := w) hb (by repeat (first | (with_reducible first | exact HB.out | apply bA | apply bN | apply bD) | exact HB.out)); have n0_ := Am (bT hv hb); have n1_ := Am (hbox); have GW174 := kG hg hv; have GE174 := kG hg hv; clear HB; have HB := n0_; have BK174 := n1_; clear n0_ n1_ hv; clear hb hbox hg) | ((with_reducible refine gate_dst (N := 3) rfl ?_); refine box_event ?hg (N := 3) ?hd (cs := #[.int .i64 a1_0, .int .i64 a1_1]) (t := 26) ?hr ?_; (case hd => rfl); (case hg => rfl); (case hr => first | (go_simp; done) | (go_simp; rfl)); intro gb175 hg w5 hbox hb; have hp0 := hpA BK174.out hb (fun _ _ h_ => by (with_reducible repeat (first | refine kN ?_ _ | refine kD ?_ | refine kA ?_ _)); exact h_); have hv := hvK (w := w) hb (by repeat (first | (with_reducible first | exact HB.out | apply bA | apply bN | apply bD | refine bX ?_ (by assumption)) | exact HB.out)); have n1_ := Am (bT hv hb); have n2_ := Am (hbox); have GW175 := kG hg hv; have GE175 := kG hg hv; have hp1 := hpK BK174.out hb (fun _ _ h_ => by (with_reducible repeat (first | refine kN ?_ _ | refine kD ?_ | refine kA ?_ _)); exact h_); have NB174_175 := kX hg (hp1 BK174.out); have NB175_174 := kY hg (hp1 BK174.out); clear HB; replace BK174 := hp0 BK174; have HB := n1_; have BK175 := n2_; clear n1_ n2_ hp0 hp1 hv; clear hb hbox hg) | ((with_reducible refine gate_dst (N := 4) rfl ?_); refine box_event ?hg (N := 4) ?hd (cs := #[.int .i64 0, .int .i64 0]) (t := 26) ?hr ?_; (case hd => rfl); (case hg => rfl); (case hr => first | (go_simp; done) | (go_simp; rfl)); intro gb176 hg w6 hbox hb; have hp0 := hpA BK174.out hb (fun _ _ h_ => by (with_reducible repeat (first | refine kN ?_ _ | refine kD ?_ | refine kA ?_ _)); exact h_); have hv := hvK (w := w) hb (by repeat (first | (with_reducible first | exact HB.out | apply bA | apply bN | apply bD | refine bX ?_ (by assumption)) | exact HB.out)); have n2_ := Am (bT hv hb); have n3_ := Am (hbox); have GW176 := kG hg hv; have GE176 := kG hg hv; have hp1 := hpK BK174.out hb (fun _ _ h_ => by (with_reducible repeat (first | refine kN ?_ _ | refine kD ?_ | refine kA ?_ _)); exact h_); have NB174_176 := kX hg (hp1 BK174.out); have NB176_174 := kY hg (hp1 BK174.out); have NB175_176 := kX hg (hp1 BK175.out); have NB176_175 := kY hg (hp1 BK175.out); clear HB; replace BK174 := hp0 BK174; replace BK175 := hp0 BK175; have HB := n2_; have BK176 := n3_; clear n2_ n3_ hp0 hp1 hv; clear hb hbox hg; have hnb7 := NB174_175.out; have hnc7 := NB175_174.out; have hnb8 := NB174_176.out; have hnc8 := NB176_174.out; have hcz9_0 := c30 BK174.out; have hcz9_1 := c31 BK174.out; have hcz9_2 := c32 BK174.out; have hfz9_0 := kF BK174.out 0; have hfz9_1 := kF BK174.out 1; have hfz9_2 := kF BK174.out 2; have hnb10 := NB175_176.out; have hnc10 := NB176_175.out; have hcz11_0 := c20 BK175.out; have hcz11_1 := c21 BK175.out; have hfz11_0 := kF BK175.out 0; have hfz11_1 := kF BK175.out 1) | ((with_reducible refine gate_callee (f := 99) rfl ?_); refine goesL_ (some 11) rfl rfl Try.func99 (by kernel_rfl) rfl #[.agg #[.int .i64 a0_0, .int .i64 a0_1], .agg #[.int .i64 a1_0, .int .i64 a1_1], .int .i64 a0_2] rfl (by (try simp only [List.map_toArray, List.map_cons, List.map_nil]); first | done | rfl | (simp only [List.length_drop, List.length_take]; rfl)) ?_; (with_reducible refine (spec_diAdd.calls k a0_0 a0_1 a1_0 a1_1 a0_2 t177 t178 t179 _ A3.out).mono ?_); rintro e w12 ⟨rfl, hb⟩; refine ⟨_, rfl, ?_⟩; have hp0 := hpA BK174.out hb (fun _ _ h_ => by (with_reducible repeat (first | refine kN ?_ _ | refine kD ?_ | refine kA ?_ _)); exact h_); have hv := hvK (w := w) hb (by repeat (first | (with_reducible first | exact HB.out | apply bA | apply bN | apply bD | refine bX ?_ (by assumption)) | exact HB.out)); have n3_ := Am (bT hv hb); clear HB; replace BK174 := hp0 BK174; replace BK175 := hp0 BK175; replace BK176 := hp0 BK176; have HB := n3_; clear n3_ hp0 hv; (try clear hb); have hcz13_0 := c20 BK176.out; have hcz13_1 := c21 BK176.out; have hfz13_0 := kF BK176.out 0; have hfz13_1 := kF BK176.out 1))
 refine bodyPost_ret (results_ct rfl _ _ gb176 26 #[.int .i64 t177, .int .i64 t178] (0, 0) _ rfl (by (with_reducible repeat (first | refine kN ?_ _ | refine kD ?_ | refine kA ?_ _)); refine kP (cs := #[.int .i64 t177, .int .i64 0]) ?_ 1 _ rfl; (with_reducible repeat (first | refine kN ?_ _ | refine kD ?_ | refine kA ?_ _)); refine kP (cs := #[.int .i64 0, .int .i64 0]) ?_ 0 _ rfl; (with_reducible repeat (first | refine kN ?_ _ | refine kD ?_ | refine kA ?_ _)); exact BK176.out) Try.underlying26 rfl (by kernel_rfl)) rfl ?_
 exact ⟨by first | rfl | (simp [errW_none, errW_some] <;> rfl) | (simp [*, errW_none, errW_some] <;> rfl), by repeat (first | (with_reducible first | exact HB.out | apply bA | apply bN | apply bD | refine bX ?_ (by assumption)) | exact HB.out)⟩
end Go.Proofs.Ytioggbokjfdoaaa.PFnExactThreeMeet
