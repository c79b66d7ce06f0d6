-- WRITTEN BY A PROGRAM OF THIS SESSION (wip/tools): its own text, not the kit's printed one.
import Derived.Test.YtioggbokjfdoaaaPFnExactGapsAtx0
import Derived.Test.YtioggbokjfdoaaaPFnExactGapsAtx2
import Derived.Test.YtioggbokjfdoaaaPFnExactGapsAtx3
namespace Go.Proofs.Ytioggbokjfdoaaa.PFnExactGapsAt
open Go.RowKit Go.Proofs.YtioggbokjfdoaaaW.PrintWords Go.Proofs.YtioggbokjfdoaaaW.PrintLast Go.Proofs.YtioggbokjfdoaaaW.PrintMore
attribute [local go_sem] max2_int min2_int max_two min_two max_three min_three max_four min_four   -- for this text's walks alone
set_option linter.unusedVariables false
set_option linter.unusedSimpArgs false

/-! ### spec_meGaps: function 79 -/
mutual
def spec_meGaps.j0 : Nat → List (S30) → Bool → Int → Int → Option ((List (S26)) × Bool)
 | 0, _, _, _, _ => none
 | k + 1, x0, x25, x158000, x158001 => if x25 = true then (some (([] : List (S26)), false)) else (spec_meGaps.l0 k ([] : List (S26)) x0 (x0.length : Int) 0 x158000 x158001)
def spec_meGaps.l0 : Nat → List (S26) → List (S30) → Int → Int → Int → Int → Option ((List (S26)) × Bool)
 | 0, _, _, _, _, _, _ => none
 | k + 1, x6, x26, x27, x28, x158000, x158001 => if x28 < x27 then (if 0 ≤ x28 then (if x28 < (x26.length : Int) then ((spec_meGood.f k ((rd_T30 x26 x28).f0.f0) ((rd_T30 x26 x28).f0.f1) ((rd_T30 x26 x28).f1)).bind fun t162 => (if t162 = true then ((spec_meAt.f k ((rd_T30 x26 x28).f0.f0) ((rd_T30 x26 x28).f0.f1) ((rd_T30 x26 x28).f1) x158000 x158001).bind fun bt163 => (if bt163.2.2 = true then (spec_meGaps.l1 k x6 0 x26 x27 x28 x158000 x158001 bt163.1 bt163.2.1) else (some (([] : List (S26)), false)))) else (some (([] : List (S26)), false)))) else (none)) else (none)) else (spec_meGaps.l2 k x6 ([] : List (S26)) (x6.length : Int) 0)
def spec_meGaps.l1 : Nat → List (S26) → Int → List (S30) → Int → Int → Int → Int → Int → Int → Option ((List (S26)) × Bool)
 | 0, _, _, _, _, _, _, _, _, _ => none
 | k + 1, x6, x11, x26, x27, x28, x158000, x158001, x167000, x167001 => if x11 < (x6.length : Int) then (if 0 ≤ x11 then ((spec_diCompare.f ((rd_T26 x6 x11).f0) ((rd_T26 x6 x11).f1) x167000 x167001).bind fun t168 => (if t168 ≤ 0 then (spec_meGaps.l1 k x6 (wrap64 (x11 + 1)) x26 x27 x28 x158000 x158001 x167000 x167001) else ((some (([] : List (S26)) : List (S26))).bind fun y169 => (if x11 ≤ (x6.length : Int) then ((some (x6.take (x11 : Int).toNat : List (S26))).bind fun y172 => (if y169.length + y172.length < 8796093022208 then ((some (y169 ++ y172 : List (S26))).bind fun y176 => ((some (([(⟨x167000, x167001⟩ : S26)] : List (S26)) : List (S26))).bind fun y179 => (if y176.length + y179.length < 8796093022208 then ((some (y176 ++ y179 : List (S26))).bind fun y182 => ((some (x6.drop (x11 : Int).toNat : List (S26))).bind fun y185 => (if y182.length + y185.length < 8796093022208 then (spec_meGaps.l0 k (y182 ++ y185) x26 x27 (wrap64 (x28 + 1)) x158000 x158001) else (none)))) else (none)))) else (none))) else (none))))) else (none)) else ((some (([] : List (S26)) : List (S26))).bind fun y192 => (if 0 ≤ x11 then (if x11 ≤ (x6.length : Int) then ((some (x6.take (x11 : Int).toNat : List (S26))).bind fun y195 => (if y192.length + y195.length < 8796093022208 then ((some (y192 ++ y195 : List (S26))).bind fun y199 => ((some (([(⟨x167000, x167001⟩ : S26)] : List (S26)) : List (S26))).bind fun y202 => (if y199.length + y202.length < 8796093022208 then ((some (y199 ++ y202 : List (S26))).bind fun y205 => ((some (x6.drop (x11 : Int).toNat : List (S26))).bind fun y208 => (if y205.length + y208.length < 8796093022208 then (spec_meGaps.l0 k (y205 ++ y208) x26 x27 (wrap64 (x28 + 1)) x158000 x158001) else (none)))) else (none)))) else (none))) else (none)) else (none)))
def spec_meGaps.l2 : Nat → List (S26) → List (S26) → Int → Int → Option ((List (S26)) × Bool)
 | 0, _, _, _, _ => none
 | k + 1, x6, x13, x73, x74 => if x74 < x73 then (if (x6.length : Int) = 0 then (none) else (if 0 ≤ (Int.tmod (wrap64 (x74 + 1)) (x6.length : Int)) then (if (Int.tmod (wrap64 (x74 + 1)) (x6.length : Int)) < (x6.length : Int) then (if 0 ≤ x74 then (if x74 < (x6.length : Int) then ((spec_diAdd.f k ((rd_T26 x6 (Int.tmod (wrap64 (x74 + 1)) (x6.length : Int))).f0) ((rd_T26 x6 (Int.tmod (wrap64 (x74 + 1)) (x6.length : Int))).f1) ((rd_T26 x6 x74).f0) ((rd_T26 x6 x74).f1) (-1)).bind fun bt217 => (if bt217.2.2 = true then ((some (([(⟨bt217.1, bt217.2.1⟩ : S26)] : List (S26)) : List (S26))).bind fun y221 => (if x13.length + y221.length < 8796093022208 then (spec_meGaps.l2 k x6 (x13 ++ y221) x73 (wrap64 (x74 + 1))) else (none))) else (some (([] : List (S26)), false)))) else (none)) else (none)) else (none)) else (none))) else (some (x13, true))
end
def spec_meGaps.f (k : Nat) (l0 : List (S30)) (a1_0 : Int) (a1_1 : Int) : Option ((List (S26)) × Bool) := (spec_l1In.f (l0.length : Int) 1 12).bind fun t158 => (if t158 = true then ((spec_diGood.f k a1_0 a1_1).bind fun t159 => (spec_meGaps.j0 k l0 (!t159) a1_0 a1_1)) else (spec_meGaps.j0 k l0 true a1_0 a1_1))
theorem spec_meGaps.mono_l : ∀ k, (∀ y0 y1 y2 y3, LeO (spec_meGaps.j0 k y0 y1 y2 y3) (spec_meGaps.j0 (k + 1) y0 y1 y2 y3)) ∧ (∀ y0 y1 y2 y3 y4 y5, LeO (spec_meGaps.l0 k y0 y1 y2 y3 y4 y5) (spec_meGaps.l0 (k + 1) y0 y1 y2 y3 y4 y5)) ∧ (∀ y0 y1 y2 y3 y4 y5 y6 y7 y8, LeO (spec_meGaps.l1 k y0 y1 y2 y3 y4 y5 y6 y7 y8) (spec_meGaps.l1 (k + 1) y0 y1 y2 y3 y4 y5 y6 y7 y8)) ∧ (∀ y0 y1 y2 y3, LeO (spec_meGaps.l2 k y0 y1 y2 y3) (spec_meGaps.l2 (k + 1) y0 y1 y2 y3))
 | 0 => ⟨fun _ _ _ _ r h => by simp [spec_meGaps.j0] at h, fun _ _ _ _ _ _ r h => by simp [spec_meGaps.l0] at h, fun _ _ _ _ _ _ _ _ _ r h => by simp [spec_meGaps.l1] at h, fun _ _ _ _ r h => by simp [spec_meGaps.l2] at h⟩
 | k + 1 => by
  obtain ⟨ih0, ih1, ih2, ih3⟩ := spec_meGaps.mono_l k
  refine ⟨?_, ?_, ?_, ?_⟩
  ·intro y0 y1 y2 y3
   unfold spec_meGaps.j0
   repeat' first
   | (with_reducible exact ih0 _ _ _ _)
   | (with_reducible exact ih1 _ _ _ _ _ _)
   | (with_reducible exact ih2 _ _ _ _ _ _ _ _ _)
   | (with_reducible exact ih3 _ _ _ _)
   | (with_reducible exact spec_diAdd.mono _ _ _ _ _ _)
   | (with_reducible exact spec_diGood.mono _ _ _)
   | (with_reducible exact spec_meAt.mono _ _ _ _ _ _)
   | (with_reducible exact spec_meGood.mono _ _ _ _)
   | (with_reducible exact LeO.refl _)
   | (with_reducible exact LeO.none _)
   | (with_reducible refine LeO.ite ?_ ?_)
   | (with_reducible refine LeO.bind ?_ (fun _ => ?_))
   | exact ih0 _ _ _ _
   | exact ih1 _ _ _ _ _ _
   | exact ih2 _ _ _ _ _ _ _ _ _
   | exact ih3 _ _ _ _
   | exact spec_diAdd.mono _ _ _ _ _ _
   | exact spec_diGood.mono _ _ _
   | exact spec_meAt.mono _ _ _ _ _ _
   | exact spec_meGood.mono _ _ _ _
   | exact LeO.none _
   | refine LeO.ite ?_ ?_
   | refine LeO.bind ?_ (fun _ => ?_)
  ·intro y0 y1 y2 y3 y4 y5
   unfold spec_meGaps.l0
   repeat' first
   | (with_reducible exact ih0 _ _ _ _)
   | (with_reducible exact ih1 _ _ _ _ _ _)
   | (with_reducible exact ih2 _ _ _ _ _ _ _ _ _)
   | (with_reducible exact ih3 _ _ _ _)
   | (with_reducible exact spec_diAdd.mono _ _ _ _ _ _)
   | (with_reducible exact spec_diGood.mono _ _ _)
   | (with_reducible exact spec_meAt.mono _ _ _ _ _ _)
   | (with_reducible exact spec_meGood.mono _ _ _ _)
   | (with_reducible exact LeO.refl _)
   | (with_reducible exact LeO.none _)
   | (with_reducible refine LeO.ite ?_ ?_)
   | (with_reducible refine LeO.bind ?_ (fun _ => ?_))
   | exact ih0 _ _ _ _
   | exact ih1 _ _ _ _ _ _
   | exact ih2 _ _ _ _ _ _ _ _ _
   | exact ih3 _ _ _ _
   | exact spec_diAdd.mono _ _ _ _ _ _
   | exact spec_diGood.mono _ _ _
   | exact spec_meAt.mono _ _ _ _ _ _
   | exact spec_meGood.mono _ _ _ _
   | exact LeO.none _
   | refine LeO.ite ?_ ?_
   | refine LeO.bind ?_ (fun _ => ?_)
  ·intro y0 y1 y2 y3 y4 y5 y6 y7 y8
   unfold spec_meGaps.l1
   repeat' first
   | (with_reducible exact ih0 _ _ _ _)
   | (with_reducible exact ih1 _ _ _ _ _ _)
   | (with_reducible exact ih2 _ _ _ _ _ _ _ _ _)
   | (with_reducible exact ih3 _ _ _ _)
   | (with_reducible exact spec_diAdd.mono _ _ _ _ _ _)
   | (with_reducible exact spec_diGood.mono _ _ _)
   | (with_reducible exact spec_meAt.mono _ _ _ _ _ _)
   | (with_reducible exact spec_meGood.mono _ _ _ _)
   | (with_reducible exact LeO.refl _)
   | (with_reducible exact LeO.none _)
   | (with_reducible refine LeO.ite ?_ ?_)
   | (with_reducible refine LeO.bind ?_ (fun _ => ?_))
   | exact ih0 _ _ _ _
   | exact ih1 _ _ _ _ _ _
   | exact ih2 _ _ _ _ _ _ _ _ _
   | exact ih3 _ _ _ _
   | exact spec_diAdd.mono _ _ _ _ _ _
   | exact spec_diGood.mono _ _ _
   | exact spec_meAt.mono _ _ _ _ _ _
   | exact spec_meGood.mono _ _ _ _
   | exact LeO.none _
   | refine LeO.ite ?_ ?_
   | refine LeO.bind ?_ (fun _ => ?_)
  ·intro y0 y1 y2 y3
   unfold spec_meGaps.l2
   repeat' first
   | (with_reducible exact ih0 _ _ _ _)
   | (with_reducible exact ih1 _ _ _ _ _ _)
   | (with_reducible exact ih2 _ _ _ _ _ _ _ _ _)
   | (with_reducible exact ih3 _ _ _ _)
   | (with_reducible exact spec_diAdd.mono _ _ _ _ _ _)
   | (with_reducible exact spec_diGood.mono _ _ _)
   | (with_reducible exact spec_meAt.mono _ _ _ _ _ _)
   | (with_reducible exact spec_meGood.mono _ _ _ _)
   | (with_reducible exact LeO.refl _)
   | (with_reducible exact LeO.none _)
   | (with_reducible refine LeO.ite ?_ ?_)
   | (with_reducible refine LeO.bind ?_ (fun _ => ?_))
   | exact ih0 _ _ _ _
   | exact ih1 _ _ _ _ _ _
   | exact ih2 _ _ _ _ _ _ _ _ _
   | exact ih3 _ _ _ _
   | exact spec_diAdd.mono _ _ _ _ _ _
   | exact spec_diGood.mono _ _ _
   | exact spec_meAt.mono _ _ _ _ _ _
   | exact spec_meGood.mono _ _ _ _
   | exact LeO.none _
   | refine LeO.ite ?_ ?_
   | refine LeO.bind ?_ (fun _ => ?_)
theorem spec_meGaps.mono : ∀ a0 a1 a2 k, LeO (spec_meGaps.f k a0 a1 a2) (spec_meGaps.f (k + 1) a0 a1 a2) := by
 intro a0 a1 a2 k
 obtain ⟨ih0, ih1, ih2, ih3⟩ := spec_meGaps.mono_l k
 unfold spec_meGaps.f
 repeat' first
   | (with_reducible exact ih0 _ _ _ _)
   | (with_reducible exact ih1 _ _ _ _ _ _)
   | (with_reducible exact ih2 _ _ _ _ _ _ _ _ _)
   | (with_reducible exact ih3 _ _ _ _)
   | (with_reducible exact spec_diAdd.mono _ _ _ _ _ _)
   | (with_reducible exact spec_diGood.mono _ _ _)
   | (with_reducible exact spec_meAt.mono _ _ _ _ _ _)
   | (with_reducible exact spec_meGood.mono _ _ _ _)
   | (with_reducible exact LeO.refl _)
   | (with_reducible exact LeO.none _)
   | (with_reducible refine LeO.ite ?_ ?_)
   | (with_reducible refine LeO.bind ?_ (fun _ => ?_))
   | exact ih0 _ _ _ _
   | exact ih1 _ _ _ _ _ _
   | exact ih2 _ _ _ _ _ _ _ _ _
   | exact ih3 _ _ _ _
   | exact spec_diAdd.mono _ _ _ _ _ _
   | exact spec_diGood.mono _ _ _
   | exact spec_meAt.mono _ _ _ _ _ _
   | exact spec_meGood.mono _ _ _ _
   | exact LeO.none _
   | refine LeO.ite ?_ ?_
   | refine LeO.bind ?_ (fun _ => ?_)
def spec_meGaps.T13 : Bool × List (List Nat × List Nat) := (true, [([], []), ([], []), ([1], [1]), ([0, 2], [0, 2]), ([3], [3]), ([4], [4]), ([4], [4]), ([5, 6, 4], [4, 5, 6]), ([7, 4], [4, 7]), ([4], [4]), ([8, 9, 4, 4], [4, 8, 9]), ([10, 4], [4, 10]), ([4, 11], [4, 11])])
def spec_meGaps.B13 : List Nat := [0, 0, 2, 7, 15, 31, 31, 127, 255, 31, 1023, 2047, 4095]
theorem spec_meGaps.tab13 : rtab .any (opsOf Try.f79 13) = spec_meGaps.T13 := by kernel_rfl
theorem spec_meGaps.bits13 : waitsOk spec_meGaps.T13.2 spec_meGaps.B13 = true := by kernel_rfl
def spec_meGaps.T15 : Bool × List (List Nat × List Nat) := (true, [([], []), ([], []), ([], []), ([1, 2], [1, 2]), ([0, 3], [0, 3]), ([], []), ([5], [5]), ([4, 6, 4], [4, 6]), ([7, 7, 0, 1, 2, 3, 4, 5, 6, 7], [7])])
def spec_meGaps.B15 : List Nat := [0, 0, 0, 6, 15, 0, 32, 127, 255]
theorem spec_meGaps.tab15 : rtab .any (opsOf Try.f79 15) = spec_meGaps.T15 := by kernel_rfl
theorem spec_meGaps.bits15 : waitsOk spec_meGaps.T15.2 spec_meGaps.B15 = true := by kernel_rfl
def spec_meGaps.T22 : Bool × List (List Nat × List Nat) := (true, [([], []), ([], []), ([1], [1]), ([], []), ([3], [3]), ([2, 4], [2, 4]), ([0, 5], [0, 5]), ([6], [6]), ([], []), ([], []), ([8, 9], [8, 9]), ([10], [10]), ([7, 11], [7, 11]), ([12], [12]), ([13], [13]), ([13], [13]), ([], []), ([16, 14, 12, 0, 1, 2, 3, 4, 5, 6, 7, 8, 9, 10, 11, 12, 13, 14, 16], [14, 16]), ([15, 17, 0, 1, 2, 3, 4, 5, 6, 7, 8, 9, 10, 11, 12, 13, 14, 15, 16, 17], [15])])
def spec_meGaps.B22 : List Nat := [0, 0, 2, 0, 8, 30, 63, 127, 0, 0, 768, 1792, 4095, 8191, 16383, 16383, 0, 98303, 262143]
theorem spec_meGaps.tab22 : rtab .any (opsOf Try.f79 22) = spec_meGaps.T22 := by kernel_rfl
theorem spec_meGaps.bits22 : waitsOk spec_meGaps.T22.2 spec_meGaps.B22 = true := by kernel_rfl
set_option maxHeartbeats 8000000 in
set_option maxRecDepth 100000 in
theorem spec_meGaps.calls (k : Nat) (A0 : Option Addr) (c0 : Nat) (l0 : List (S30)) (a1_0 : Int) (a1_1 : Int) (r1 : List (S26)) (r2 : Bool) (w : World) (hr0 : Kd.C k30 w A0 l0.length l0) (hc0 : l0.length ≤ c0) (h : spec_meGaps.f k l0 a1_0 a1_1 = some (r1, r2)) :
  Calls Try.prog 79 #[.slice A0 l0.length c0, .agg #[.int .i64 a1_0, .int .i64 a1_1]] w fun e w' => ∃ v0_ : Value, e = .returned (.tuple #[v0_, .bool r2]) ∧ Kd.R k26 26 w' w.heap.size (fun _ => True) v0_ r1 ∧ Below w.heap.size w w' := by
 have hu26 := Try.underlying26; have hu30 := Try.underlying30
 have HR0 := Am hr0
 have HC0 := Am hc0
 clear hr0 hc0
 have HB := Am (Below.refl w.heap.size w)
 have H : ((spec_l1In.f (l0.length : Int) 1 12).bind fun t158 => (if t158 = true then ((spec_diGood.f k a1_0 a1_1).bind fun t159 => (spec_meGaps.j0 k l0 (!t159) a1_0 a1_1)) else (spec_meGaps.j0 k l0 true a1_0 a1_1))) = some (r1, r2) := h
 clear h
 have HC3 := Am H
 clear H
 go_enter Try.func79, Try.ntmps79
 go_upto_region 1 with (first | ((with_reducible refine gate_dst (N := 3) rfl ?_); refine box_event ?hg (N := 3) ?hd (cs := #[.int .i64 a1_0, .int .i64 a1_1]) (t := 26) ?hr ?_; (case hd => rfl); (case hg => rfl); (case hr => first | (go_simp; done) | (go_simp; rfl)); intro gb157 hg w4 hbox hb; have hv := hvK (w := w) hb (by repeat (first | (with_reducible first | exact HB.out | apply bA | apply bN | apply bD) | exact HB.out)); have n0_ := Am (bT hv hb); have n1_ := Am (hbox); have GW157 := kG hg hv; have GE157 := kG hg hv; clear HB; have HB := n0_; have BK157 := n1_; clear n0_ n1_ hv; clear hb hbox hg))
 (try simp only [Act.put, List.setIfInBounds_toArray, List.set_cons_zero, List.set_cons_succ])
 go_cut [25] (fun v25 wc => ∃ (kq : Nat) (x25_2 : Bool), v25 = .bool x25_2 ∧ Aside0 (spec_meGaps.j0 kq l0 x25_2 a1_0 a1_1 = some (r1, r2)) ∧ Aside0 (kq ≤ k) ∧ Aside0 (wc.heap[gb157]? = some (.cells #[.int .i64 a1_0, .int .i64 a1_1] 26 (0, 0))) ∧ Aside0 (Below w.heap.size w wc))
 case first =>
  have H := HC3.out
  clear HC3
  replace H := Option.bind_eq_some_iff.mp H
  obtain ⟨t158, A50, H⟩ := H
  try dsimp only at H
  have A5 := Am A50
  clear A50
  by_cases c6 : t158 = true
  ·subst c6
   have H1 : ((spec_diGood.f k a1_0 a1_1).bind fun t159 => (spec_meGaps.j0 k l0 (!t159) a1_0 a1_1)) = some (r1, r2) := by rw [if_pos rfl] at H; exact H
   clear H
   have H := H1
   clear H1
   replace H := Option.bind_eq_some_iff.mp H
   obtain ⟨t159, A70, H⟩ := H
   try dsimp only at H
   have A7 := Am A70
   clear A70
   have H' := Am H
   clear H
   go_wp2_with (first | ((with_reducible refine gate_callee (f := 94) rfl ?_); refine goesL_ (some 19) rfl rfl Try.func94 (by kernel_rfl) rfl #[.int .i64 (l0.length : Int), .int .i64 1, .int .i64 12] rfl (by (try simp only [List.map_toArray, List.map_cons, List.map_nil]); first | done | rfl | (simp only [List.length_drop, List.length_take]; rfl)) ?_; (with_reducible refine (spec_l1In.calls (l0.length : Int) 1 12 true _ A5.out).mono ?_); rintro e w' ⟨rfl, ⟨nd, rfl⟩⟩; refine ⟨_, rfl, ?_⟩; have hcz8_0 := c20 BK157.out; have hcz8_1 := c21 BK157.out; have hfz8_0 := kF BK157.out 0; have hfz8_1 := kF BK157.out 1) | (go_at_call 57; (with_reducible refine (spec_diGood.calls k a1_0 a1_1 t159 _ A7.out).mono ?_); rintro e w9 ⟨rfl, hb⟩; have hp0 := hpA BK157.out hb (fun _ _ h_ => by (with_reducible repeat (first | refine kN ?_ _ | refine kD ?_ | refine kA ?_ _)); exact h_); have hv := hvK (w := w) hb (by repeat (first | (with_reducible first | exact HB.out | apply bA | apply bN | apply bD | refine bX ?_ (by assumption)) | exact HB.out)); have n1_ := Am (bT hv hb); clear HB; replace BK157 := hp0 BK157; have HB := n1_; clear n1_ hp0 hv; (try clear hb)))
   go_meet
   case rel => exact ⟨_, (!t159), (by first | rfl | (simp; done) | (simp [*]; done)), H', ⟨by first | omega | exact Nat.le_refl _⟩, ⟨by (with_reducible repeat (first | refine kN ?_ _ | refine kD ?_ | refine kA ?_ _)); exact BK157.out⟩, ⟨by repeat (first | (with_reducible first | exact HB.out | apply bA | apply bN | apply bD | refine bX ?_ (by assumption)) | exact HB.out)⟩⟩
  replace c6 := Bool.eq_false_iff.mpr c6
  subst c6
  have H1 : (spec_meGaps.j0 k l0 true a1_0 a1_1) = some (r1, r2) := by rw [if_neg (show ¬ (false = true) by decide)] at H; exact H
  clear H
  have H := H1
  clear H1
  have H' := Am H
  clear H
  go_wp2_with (first | ((with_reducible refine gate_callee (f := 94) rfl ?_); refine goesL_ (some 19) rfl rfl Try.func94 (by kernel_rfl) rfl #[.int .i64 (l0.length : Int), .int .i64 1, .int .i64 12] rfl (by (try simp only [List.map_toArray, List.map_cons, List.map_nil]); first | done | rfl | (simp only [List.length_drop, List.length_take]; rfl)) ?_; (with_reducible refine (spec_l1In.calls (l0.length : Int) 1 12 false _ A5.out).mono ?_); rintro e w' ⟨rfl, ⟨nd, rfl⟩⟩; refine ⟨_, rfl, ?_⟩))
  go_meet
  case rel => exact ⟨_, (true), (by first | rfl | (simp; done) | (simp [*]; done)), H', ⟨by first | omega | exact Nat.le_refl _⟩, ⟨by (with_reducible repeat (first | refine kN ?_ _ | refine kD ?_ | refine kA ?_ _)); exact BK157.out⟩, ⟨by repeat (first | (with_reducible first | exact HB.out | apply bA | apply bN | apply bD | refine bX ?_ (by assumption)) | exact HB.out)⟩⟩
 clear HC3
 obtain ⟨kq, x25_2, rfl, HA, HJ2, BK157, HB⟩ := hcut
 cases kq with
 | zero => exact absurd HA.out (by simp [spec_meGaps.j0])
 | succ kj2 =>
  have H := HA.out
  clear HA
  simp only [spec_meGaps.j0] at H
  by_cases c10 : x25_2 = true
  ·subst c10
   have H1 : (some (([] : List (S26)), false)) = some (r1, r2) := by rw [if_pos rfl] at H; exact H
   clear H
   have H := H1
   clear H1
   simp only [Option.some.injEq, Prod.mk.injEq] at H
   obtain ⟨rfl, rfl⟩ := H
   go_wp2
   go_ret2
   exact ⟨_, by first | rfl | (simp [errW_none, errW_some] <;> rfl) | (simp [*, errW_none, errW_some] <;> rfl), by first | exact Kd.R_nil _ _ _ _ _ | exact Kd.N_nil _ _ _ _ _ | exact Kd.V_nil _ _ _ _ _ | exact Kd.Q_nil _ _ _ _ _ | exact Kd.S_nil _ _ _ _ _, by repeat (first | (with_reducible first | exact HB.out | apply bA | apply bN | apply bD | refine bX ?_ (by assumption)) | exact HB.out)⟩
  replace c10 := Bool.eq_false_iff.mpr c10
  subst c10
  have H1 : (spec_meGaps.l0 kj2 ([] : List (S26)) l0 (l0.length : Int) 0 a1_0 a1_1) = some (r1, r2) := by rw [if_neg (show ¬ (false = true) by decide)] at H; exact H
  clear H
  have H := H1
  clear H1
  have H' := Am H
  clear H
  go_wp2
  go_loopg [6, 28] kj2 (fun kq v6 v28 w' => ∃ (x6_2 : List (S26)) (x28_2 : Int), v28 = .int .i64 x28_2 ∧ Aside0 (spec_meGaps.l0 kq x6_2 l0 (l0.length : Int) x28_2 a1_0 a1_1 = some (r1, r2)) ∧ Aside0 (kq ≤ kj2) ∧ Aside0 (Kd.R k26 26 w' w.heap.size (fun k_ => k_ ≠ gb157) v6 x6_2) ∧ Aside0 (w'.heap[gb157]? = some (.cells #[.int .i64 a1_0, .int .i64 a1_1] 26 (0, 0))) ∧ Aside0 (Below w.heap.size w w'))
  case atStart => exact ⟨(([] : List (S26))), (0), (by first | rfl | (simp; done) | (simp [*]; done)), H', ⟨Nat.le_refl _⟩, ⟨by first | exact Kd.R_nil _ _ _ _ _ | exact Kd.N_nil _ _ _ _ _ | exact Kd.V_nil _ _ _ _ _ | exact Kd.Q_nil _ _ _ _ _ | exact Kd.S_nil _ _ _ _ _⟩, ⟨by (with_reducible repeat (first | refine kN ?_ _ | refine kD ?_ | refine kA ?_ _)); exact BK157.out⟩, ⟨by repeat (first | (with_reducible first | exact HB.out | apply bA | apply bN | apply bD | refine bX ?_ (by assumption)) | exact HB.out)⟩⟩
  case round =>
   clear H'
   (try clear c10)
   obtain ⟨x6_2, x28_2, rfl, HA, HK2, HO_6, BK157, HB⟩ := hrel
   cases gk with
   | zero => exact absurd HA.out (by simp [spec_meGaps.l0])
   | succ k2 =>
    have H := HA.out
    clear HA
    simp only [spec_meGaps.l0] at H
    by_cases c11 : x28_2 < (l0.length : Int)
    ·rw [if_pos c11] at H
     have c11b0 : decide (x28_2 < (l0.length : Int)) = true := decide_eq_true c11
     clear c11
     by_cases c12 : 0 ≤ x28_2
     ·rw [if_pos c12] at H
      have c12b0 : decide (0 ≤ x28_2) = true := decide_eq_true c12
      clear c12
      by_cases c13 : x28_2 < (l0.length : Int)
      ·rw [if_pos c13] at H
       have c13b0 : decide (x28_2 < (l0.length : Int)) = true := decide_eq_true c13
       clear c13
       replace H := Option.bind_eq_some_iff.mp H
       obtain ⟨t162, A140, H⟩ := H
       try dsimp only at H
       have A14 := Am A140
       clear A140
       by_cases c15 : t162 = true
       ·subst c15
        have H1 : ((spec_meAt.f k2 ((rd_T30 l0 x28_2).f0.f0) ((rd_T30 l0 x28_2).f0.f1) ((rd_T30 l0 x28_2).f1) a1_0 a1_1).bind fun bt163 => (if bt163.2.2 = true then (spec_meGaps.l1 k2 x6_2 0 l0 (l0.length : Int) x28_2 a1_0 a1_1 bt163.1 bt163.2.1) else (some (([] : List (S26)), false)))) = some (r1, r2) := by rw [if_pos rfl] at H; exact H
        clear H
        have H := H1
        clear H1
        replace H := Option.bind_eq_some_iff.mp H
        obtain ⟨⟨t163, t164, t165⟩, A160, H⟩ := H
        try dsimp only at H
        have A16 := Am A160
        clear A160
        by_cases c17 : t165 = true
        ·subst c17
         have H1 : (spec_meGaps.l1 k2 x6_2 0 l0 (l0.length : Int) x28_2 a1_0 a1_1 t163 t164) = some (r1, r2) := by rw [if_pos rfl] at H; exact H
         clear H
         have H := H1
         clear H1
         have H' := Am H
         clear H
         have p160 : 0 ≤ (x28_2 : Int) := of_decide_eq_true (by first | (with_reducible assumption) | assumption)
         have q160 : x28_2 < (l0.length : Int) := of_decide_eq_true (by first | (with_reducible assumption) | assumption)
         obtain ⟨ad160, e160, hx160_0, hx160_1, hx160_2⟩ := at_T30 HR0.out x28_2 p160 q160
         cases e160
         replace hx160_0 := (HB.out.cell (World.block_lt_of_cell? w _ hx160_0)).trans hx160_0
         replace hx160_1 := (HB.out.cell (World.block_lt_of_cell? w _ hx160_1)).trans hx160_1
         replace hx160_2 := (HB.out.cell (World.block_lt_of_cell? w _ hx160_2)).trans hx160_2
         replace p160 := eq_true p160
         replace q160 := eq_true q160
         go_wp2_with (first | ((with_reducible refine gate_dst (N := 8) rfl ?_); refine box_event ?hg (N := 8) ?hd (cs := #[.int .i64 0, .int .i64 0, .int .i64 0]) (t := 30) ?hr ?_; (case hd => rfl); (case hg => rfl); (case hr => first | (go_simp; done) | (go_simp; rfl)); intro gb161 hg w18 hbox hb; have n0_ := Am (Kd.R_below (by (with_reducible repeat (first | apply Kd.R_alloc | apply Kd.R_drewN | apply Kd.R_drew)); exact HO_6.out) hb); have hp0 := hpA BK157.out hb (fun _ _ h_ => by (with_reducible repeat (first | refine kN ?_ _ | refine kD ?_ | refine kA ?_ _)); exact h_); have hv := hvK (w := w) hb (by repeat (first | (with_reducible first | exact HB.out | apply bA | apply bN | apply bD | refine bX ?_ (by assumption)) | exact HB.out)); have n2_ := Am (bT hv hb); have n3_ := Am (hbox); have GW161 := kG hg hv; have GE161 := kG hg hv; have hp1 := hpK BK157.out hb (fun _ _ h_ => by (with_reducible repeat (first | refine kN ?_ _ | refine kD ?_ | refine kA ?_ _)); exact h_); have NB157_161 := kX hg (hp1 BK157.out); have NB161_157 := kY hg (hp1 BK157.out); clear HO_6; clear HB; have HO_6 := n0_; replace BK157 := hp0 BK157; have HB := n2_; have BK161 := n3_; clear n0_ n2_ n3_ hp0 hp1 hv; clear hb hbox hg; have hnb19 := NB161_157.out; have hnc19 := NB157_161.out; have hcz20_0 := c30 BK161.out; have hcz20_1 := c31 BK161.out; have hcz20_2 := c32 BK161.out; have hfz20_0 := kF BK161.out 0; have hfz20_1 := kF BK161.out 1; have hfz20_2 := kF BK161.out 2) | ((with_reducible refine gate_callee (f := 63) rfl ?_); refine goesL_ (some 33) rfl rfl Try.func63 (by kernel_rfl) rfl #[.agg #[.int .i64 ((rd_T30 l0 x28_2).f0.f0), .int .i64 ((rd_T30 l0 x28_2).f0.f1), .int .i64 ((rd_T30 l0 x28_2).f1)]] rfl (by (try simp only [List.map_toArray, List.map_cons, List.map_nil]); first | done | rfl | (simp only [List.length_drop, List.length_take]; rfl)) ?_; (with_reducible refine (spec_meGood.calls k2 ((rd_T30 l0 x28_2).f0.f0) ((rd_T30 l0 x28_2).f0.f1) ((rd_T30 l0 x28_2).f1) true _ A14.out).mono ?_); rintro e w21 ⟨rfl, hb⟩; refine ⟨_, rfl, ?_⟩; have n0_ := Am (Kd.R_below (by (with_reducible repeat (first | apply Kd.R_alloc | apply Kd.R_drewN | apply Kd.R_drew)); exact (Kd.R_mono (Kd.R_far (p := ⟨gb161, 2, none⟩) (Kd.R_far (p := ⟨gb161, 1, none⟩) (Kd.R_far (p := ⟨gb161, 0, none⟩) (Kd.R_types HO_6.out BK161.out (by decide)) (fun _ hk => hk.2) (.int .i64 ((rd_T30 l0 x28_2).f0.f0))) (fun _ hk => hk.2) (.int .i64 ((rd_T30 l0 x28_2).f0.f1))) (fun _ hk => hk.2) (.int .i64 ((rd_T30 l0 x28_2).f1))) (fun _ h_ => h_.1))) hb); have hp0 := hpB gb161 BK157.out hb (fun _ _ q_ h_ => by (with_reducible repeat (first | refine kN ?_ _ | refine kD ?_ | refine kA ?_ _ | refine kZ ?_ q_ _)); exact h_); have n2_ := Am (kB (g := gb161) (o := .cells #[.int .i64 ((rd_T30 l0 x28_2).f0.f0), .int .i64 ((rd_T30 l0 x28_2).f0.f1), .int .i64 ((rd_T30 l0 x28_2).f1)] 30 (0, 0)) (by (with_reducible repeat (first | refine kN ?_ _ | refine kD ?_ | refine kA ?_ _)); refine kP (cs := #[.int .i64 ((rd_T30 l0 x28_2).f0.f0), .int .i64 ((rd_T30 l0 x28_2).f0.f1), .int .i64 0]) ?_ 2 _ rfl; (with_reducible repeat (first | refine kN ?_ _ | refine kD ?_ | refine kA ?_ _)); refine kP (cs := #[.int .i64 ((rd_T30 l0 x28_2).f0.f0), .int .i64 0, .int .i64 0]) ?_ 1 _ rfl; (with_reducible repeat (first | refine kN ?_ _ | refine kD ?_ | refine kA ?_ _)); refine kP (cs := #[.int .i64 0, .int .i64 0, .int .i64 0]) ?_ 0 _ rfl; (with_reducible repeat (first | refine kN ?_ _ | refine kD ?_ | refine kA ?_ _)); exact BK161.out) hb); have hv := hvK (w := w) hb (by repeat (first | (with_reducible first | exact HB.out | apply bA | apply bN | apply bD | refine bX ?_ (by assumption)) | exact HB.out)); have n3_ := Am (bT hv hb); clear HO_6; clear BK161; clear HB; have HO_6 := n0_; replace BK157 := hp0 NB157_161 BK157; have BK161 := n2_; have HB := n3_; clear n0_ n2_ n3_ hp0 hv; (try clear hb); (try clear hk); have hcz22_0 := c30 BK161.out; have hcz22_1 := c31 BK161.out; have hcz22_2 := c32 BK161.out; have hfz22_0 := kF BK161.out 0; have hfz22_1 := kF BK161.out 1; have hfz22_2 := kF BK161.out 2; have hcz23_0 := c20 BK157.out; have hcz23_1 := c21 BK157.out; have hfz23_0 := kF BK157.out 0; have hfz23_1 := kF BK157.out 1) | ((with_reducible refine gate_callee (f := 64) rfl ?_); refine goesL_ (some 38) rfl rfl Try.func64 (by kernel_rfl) rfl #[.agg #[.int .i64 ((rd_T30 l0 x28_2).f0.f0), .int .i64 ((rd_T30 l0 x28_2).f0.f1), .int .i64 ((rd_T30 l0 x28_2).f1)], .agg #[.int .i64 a1_0, .int .i64 a1_1]] rfl (by (try simp only [List.map_toArray, List.map_cons, List.map_nil]); first | done | rfl | (simp only [List.length_drop, List.length_take]; rfl)) ?_; (with_reducible refine (spec_meAt.calls k2 ((rd_T30 l0 x28_2).f0.f0) ((rd_T30 l0 x28_2).f0.f1) ((rd_T30 l0 x28_2).f1) a1_0 a1_1 t163 t164 true _ A16.out).mono ?_); rintro e w24 ⟨rfl, hb⟩; refine ⟨_, rfl, ?_⟩; have n0_ := Am (Kd.R_below (by (with_reducible repeat (first | apply Kd.R_alloc | apply Kd.R_drewN | apply Kd.R_drew)); exact HO_6.out) hb); have hp0 := hpA BK157.out hb (fun _ _ h_ => by (with_reducible repeat (first | refine kN ?_ _ | refine kD ?_ | refine kA ?_ _)); exact h_); have hv := hvK (w := w) hb (by repeat (first | (with_reducible first | exact HB.out | apply bA | apply bN | apply bD | refine bX ?_ (by assumption)) | exact HB.out)); have n3_ := Am (bT hv hb); clear HO_6; clear HB; have HO_6 := n0_; replace BK157 := hp0 BK157; replace BK161 := hp0 BK161; have HB := n3_; clear n0_ n3_ hp0 hv; (try clear hb)) | ((with_reducible refine gate_dst (N := 9) rfl ?_); refine box_event ?hg (N := 9) ?hd (cs := #[.int .i64 0, .int .i64 0]) (t := 26) ?hr ?_; (case hd => rfl); (case hg => rfl); (case hr => first | (go_simp; done) | (go_simp; rfl)); intro gb166 hg w25 hbox hb; have n0_ := Am (Kd.R_below (Kd.R_elderB (by (with_reducible repeat (first | apply Kd.R_alloc | apply Kd.R_drewN | apply Kd.R_drew)); exact HO_6.out) gb166 (Nat.le_of_eq hg.symm)) hb); have hp0 := hpA BK157.out hb (fun _ _ h_ => by (with_reducible repeat (first | refine kN ?_ _ | refine kD ?_ | refine kA ?_ _)); exact h_); have hv := hvK (w := w) hb (by repeat (first | (with_reducible first | exact HB.out | apply bA | apply bN | apply bD | refine bX ?_ (by assumption)) | exact HB.out)); have n3_ := Am (bT hv hb); have n4_ := Am (hbox); have GW166 := kG hg hv; have GE166 := kG hg hv; have hp1 := hpK BK157.out hb (fun _ _ h_ => by (with_reducible repeat (first | refine kN ?_ _ | refine kD ?_ | refine kA ?_ _)); exact h_); have NB157_166 := kX hg (hp1 BK157.out); have NB166_157 := kY hg (hp1 BK157.out); have NB161_166 := kX hg (hp1 BK161.out); have NB166_161 := kY hg (hp1 BK161.out); clear HO_6; clear HB; have HO_6 := n0_; replace BK157 := hp0 BK157; replace BK161 := hp0 BK161; have HB := n3_; have BK166 := n4_; clear n0_ n3_ n4_ hp0 hp1 hv; clear hb hbox hg; have hnb26 := NB166_157.out; have hnc26 := NB157_166.out; have hnb27 := NB166_161.out; have hnc27 := NB161_166.out; have hcz28_0 := c20 BK166.out; have hcz28_1 := c21 BK166.out; have hfz28_0 := kF BK166.out 0; have hfz28_1 := kF BK166.out 1))
         go_loopg [11] k2 (fun kq v11 w' => ∃ (x11_3 : Int), v11 = .int .i64 x11_3 ∧ Aside0 (spec_meGaps.l1 kq x6_2 x11_3 l0 (l0.length : Int) x28_2 a1_0 a1_1 t163 t164 = some (r1, r2)) ∧ Aside0 (kq ≤ k2) ∧ Aside0 (Kd.R k26 26 w' w.heap.size (fun k_ => k_ ≠ gb157 ∧ k_ ≠ gb166) u6 x6_2) ∧ Aside0 (w'.heap[gb157]? = some (.cells #[.int .i64 a1_0, .int .i64 a1_1] 26 (0, 0))) ∧ Aside0 (w'.heap[gb161]? = some (.cells #[.int .i64 ((rd_T30 l0 x28_2).f0.f0), .int .i64 ((rd_T30 l0 x28_2).f0.f1), .int .i64 ((rd_T30 l0 x28_2).f1)] 30 (0, 0))) ∧ Aside0 (w'.heap[gb166]? = some (.cells #[.int .i64 t163, .int .i64 t164] 26 (0, 0))) ∧ Aside0 (Below w.heap.size w w'))
         case atStart => exact ⟨(0), (by first | rfl | (simp; done) | (simp [*]; done)), H', ⟨Nat.le_refl _⟩, ⟨by (with_reducible repeat (first | apply Kd.R_alloc | apply Kd.R_drewN | apply Kd.R_drew)); exact Kd.R_mono (Kd.R_far (p := ⟨gb166, 1, none⟩) (Kd.R_far (p := ⟨gb166, 0, none⟩) (Kd.R_mono HO_6.out (fun k_ hk => (⟨hk, hk.2⟩ : _ ∧ k_ ≠ gb166))) (fun _ hk => hk.2) (.int .i64 t163)) (fun _ hk => hk.2) (.int .i64 t164)) (fun _ hk => ⟨hk.1.1, hk.1.2⟩)⟩, ⟨by (with_reducible repeat (first | refine kN ?_ _ | refine kD ?_ | refine kA ?_ _)); refine kR ?_ NB157_166.out _; (with_reducible repeat (first | refine kN ?_ _ | refine kD ?_ | refine kA ?_ _)); refine kR ?_ NB157_166.out _; (with_reducible repeat (first | refine kN ?_ _ | refine kD ?_ | refine kA ?_ _)); exact BK157.out⟩, ⟨by (with_reducible repeat (first | refine kN ?_ _ | refine kD ?_ | refine kA ?_ _)); refine kR ?_ NB161_166.out _; (with_reducible repeat (first | refine kN ?_ _ | refine kD ?_ | refine kA ?_ _)); refine kR ?_ NB161_166.out _; (with_reducible repeat (first | refine kN ?_ _ | refine kD ?_ | refine kA ?_ _)); exact BK161.out⟩, ⟨by (with_reducible repeat (first | refine kN ?_ _ | refine kD ?_ | refine kA ?_ _)); refine kP (cs := #[.int .i64 t163, .int .i64 0]) ?_ 1 _ rfl; (with_reducible repeat (first | refine kN ?_ _ | refine kD ?_ | refine kA ?_ _)); refine kP (cs := #[.int .i64 0, .int .i64 0]) ?_ 0 _ rfl; (with_reducible repeat (first | refine kN ?_ _ | refine kD ?_ | refine kA ?_ _)); exact BK166.out⟩, ⟨by repeat (first | (with_reducible first | exact HB.out | apply bA | apply bN | apply bD | refine bX ?_ (by assumption)) | exact HB.out)⟩⟩
         case round =>
          clear H'
          (try clear c10); (try clear c11); (try clear c11b0); (try clear c12); (try clear c12b0); (try clear c13); (try clear c13b0); (try clear c15); (try clear c17); (try clear hcz20_0); (try clear hcz20_1); (try clear hcz20_2); (try clear hcz22_0); (try clear hcz22_1); (try clear hcz22_2); (try clear hcz23_0); (try clear hcz23_1); (try clear hcz28_0); (try clear hcz28_1); (try clear hfz20_0); (try clear hfz20_1); (try clear hfz20_2); (try clear hfz22_0); (try clear hfz22_1); (try clear hfz22_2); (try clear hfz23_0); (try clear hfz23_1); (try clear hfz28_0); (try clear hfz28_1); (try clear hx160_0); (try clear hx160_1); (try clear hx160_2); (try clear p160); (try clear q160)
          obtain ⟨x11_3, rfl, HA, HK3, HO_6, BK157, BK161, BK166, HB⟩ := hrel
          cases gk with
          | zero => exact absurd HA.out (by simp [spec_meGaps.l1])
          | succ k3 =>
           have H := HA.out
           clear HA
           simp only [spec_meGaps.l1] at H
           by_cases c29 : x11_3 < (x6_2.length : Int)
           ·rw [if_pos c29] at H
            have c29b0 : decide (x11_3 < (x6_2.length : Int)) = true := decide_eq_true c29
            clear c29
            by_cases c30 : 0 ≤ x11_3
            ·rw [if_pos c30] at H
             have c30b0 : decide (0 ≤ x11_3) = true := decide_eq_true c30
             clear c30
             replace H := Option.bind_eq_some_iff.mp H
             obtain ⟨t168, A310, H⟩ := H
             try dsimp only at H
             have A31 := Am A310
             clear A310
             by_cases c32 : t168 ≤ 0
             ·rw [if_pos c32] at H
              have c32b0 : decide (t168 ≤ 0) = true := decide_eq_true c32
              clear c32
              have H' := Am H
              clear H
              try go_wp2
              have n0_ := Am (Kd.R_drew HO_6.out)
              have n1_ := Am (kD BK157.out)
              have n2_ := Am (kD BK161.out)
              have n3_ := Am (kD BK166.out)
              have n4_ := Am (bD HB.out)
              clear HO_6 BK157 BK161 BK166 HB
              have HO_6 := n0_; have BK157 := n1_; have BK161 := n2_; have BK166 := n3_; have HB := n4_
              clear n0_ n1_ n2_ n3_ n4_
              obtain ⟨Ao34, co34, eo34⟩ := Kd.R_slice HO_6.out
              (first | subst eo34 | (injection eo34 with f1_ f2_ f3_; have f4_ := f1_.symm; have f5_ := f3_.symm; clear f1_ f2_ f3_; subst f4_; subst f5_))
              have p167 : 0 ≤ (x11_3 : Int) := of_decide_eq_true (by first | (with_reducible assumption) | assumption)
              have q167 : x11_3 < (x6_2.length : Int) := of_decide_eq_true (by first | (with_reducible assumption) | assumption)
              obtain ⟨ad167, e167, hx167_0, hx167_1⟩ := at_T26 (Kd.R_reads' HO_6.out).2.2 x11_3 p167 q167
              cases e167
              replace p167 := eq_true p167
              replace q167 := eq_true q167
              refine start_ (n := 13) (S := fun w' => w'.cell? ⟨gb166, 0, none⟩ = some (.int .i64 t163) ∧ w'.cell? ⟨gb166, 1, none⟩ = some (.int .i64 t164) ∧ w'.cell? (ad167.add ((x11_3).toNat * 2)) = some (.int .i64 ((rd_T26 x6_2 x11_3).f0)) ∧ w'.cell? ⟨(ad167.add ((x11_3).toNat * 2)).block, (ad167.add ((x11_3).toNat * 2)).off + 1, none⟩ = some (.int .i64 ((rd_T26 x6_2 x11_3).f1))) (ds := []) (pT 13 0) (by kernel_rfl) rfl rfl ⟨c20 BK166.out, c21 BK166.out, hx167_0, hx167_1⟩ (fun hHeld => ?_); refine with_tabW spec_meGaps.tab13 spec_meGaps.bits13 (fun HT_ HW_ => ?_)
              generalize wr.drew = w33 at HO_6 BK157 BK161 BK166 HB hx167_0 hx167_1 hHeld ⊢
              iterate 10
               first
               | refine pI (v := ?_) (a' := ?_) rfl (any_of HT_.out (by kernel_rfl)) (fun _ _ _ h => h) (Or.inl ⟨by rfl, ?_⟩) ?_ ?_
                 rotate_left
                 ·intro w'
                  go_simp
                  with_reducible rfl
                 rotate_left
                 ·show Act.put _ (some _) _ = _
                  simp only [Act.put, List.setIfInBounds_toArray, List.set_cons_zero, List.set_cons_succ, i64_w, i32_w]
                  rfl
               | refine tI (v := ?_) (a' := ?_) rfl (take_ofW HT_.out HW_.out (by kernel_rfl)) (fun _ _ _ h => h) (Or.inl ⟨by rfl, ?_⟩) hHeld ?_ ?_
                 rotate_left
                 ·rintro w' ⟨s0, s1, s2, s3⟩
                  go_simp
                  with_reducible rfl
                 rotate_left
                 ·show Act.put _ (some _) _ = _
                  simp only [Act.put, List.setIfInBounds_toArray, List.set_cons_zero, List.set_cons_succ, i64_w, i32_w]
                  rfl
              refine one_ (i := 10) (N := some 53) (pT 13 11) rfl rfl (one_of HT_.out (by kernel_rfl)) (by decide) (fun K hK => ?_)
              refine goes_ Try.func58 (by kernel_rfl) rfl #[.agg #[.int .i64 ((rd_T26 x6_2 x11_3).f0), .int .i64 ((rd_T26 x6_2 x11_3).f1)], .agg #[.int .i64 t163, .int .i64 t164]] (by rfl) rfl rfl (by (try simp only [List.map_toArray, List.map_cons, List.map_nil]); first | done | rfl | (simp only [List.length_drop, List.length_take]; rfl)) ?_
              with_reducible refine (spec_diCompare.calls ((rd_T26 x6_2 x11_3).f0) ((rd_T26 x6_2 x11_3).f1) t163 t164 t168 _ A31.out).mono ?_
              rintro e w35 ⟨rfl, hb⟩
              have HS2_ := (hb.cell (World.block_lt_of_cell? _ _ (hHeld.2.2.1))).trans (hHeld.2.2.1)
              have HS3_ := (hb.cell (World.block_lt_of_cell? _ _ (hHeld.2.2.2))).trans (hHeld.2.2.2)
              refine ⟨_, rfl, ?_⟩
              have n0_ := Am (Kd.R_below (by (with_reducible repeat (first | apply Kd.R_alloc | apply Kd.R_drewN | apply Kd.R_drew)); exact HO_6.out) hb)
              have hp0 := hpA BK157.out hb (fun _ _ h_ => by (with_reducible repeat (first | refine kN ?_ _ | refine kD ?_ | refine kA ?_ _)); exact h_)
              have hv := hvK (w := w) hb (by repeat (first | (with_reducible first | exact HB.out | apply bA | apply bN | apply bD | refine bX ?_ (by assumption)) | exact HB.out))
              have n4_ := Am (bT hv hb)
              clear HO_6 HB
              have HO_6 := n0_
              replace BK157 := hp0 BK157; replace BK161 := hp0 BK161; replace BK166 := hp0 BK166
              have HB := n4_
              clear n0_ n4_ hp0 hv
              (try clear hb)
              refine hK.out _ _ ⟨c20 BK166.out, c21 BK166.out, HS2_, HS3_⟩ (fun hHeld => ?_)
              clear hK K
              refine norm_ (a' := ?_) ?_ ?_
              rotate_left
              ·show Act.put _ (some 53) _ = _
               simp only [Act.put, List.setIfInBounds_toArray, List.set_cons_zero, List.set_cons_succ, i64_w, i32_w]
               rfl
              iterate 2
               refine pI (v := ?_) (a' := ?_) rfl (any_of HT_.out (by kernel_rfl)) (fun _ _ _ h => h) (Or.inl ⟨by rfl, ?_⟩) ?_ ?_
               rotate_left
               ·intro w'
                go_simp
                with_reducible rfl
               rotate_left
               ·show Act.put _ (some _) _ = _
                simp only [Act.put, List.setIfInBounds_toArray, List.set_cons_zero, List.set_cons_succ, i64_w, i32_w]
                rfl
              refine done_ (done_of HT_.out (by kernel_rfl)) ?_
              try go_wp2
              go_roundg k3
              case measure => have := HJ2.out; have := HK2.out; have := HK3.out; omega
              case rel =>
               refine ⟨(wrap64 (x11_3 + 1)), (by first | rfl | (simp; done) | (simp [*]; done)), H', ⟨by have := HJ2.out; have := HK2.out; have := HK3.out; omega⟩, ⟨by (with_reducible repeat (first | apply Kd.R_alloc | apply Kd.R_drewN | apply Kd.R_drew)); exact HO_6.out⟩, ⟨?_⟩, ⟨?_⟩, ⟨?_⟩, ⟨by repeat (first | (with_reducible first | exact HB.out | apply bA | apply bN | apply bD | refine bX ?_ (by assumption)) | exact HB.out)⟩⟩
               all_goals ((with_reducible repeat (first | refine kN ?_ _ | refine kD ?_ | refine kA ?_ _)); exact Aside0.out (by assumption))
             rw [if_neg c32] at H
             have c32b0 : decide (t168 ≤ 0) = false := decide_eq_false c32
             clear c32
             obtain ⟨y169, hy169⟩ : ∃ y_ : List (S26), y_ = (([] : List (S26))) := ⟨_, rfl⟩
             replace H : (if x11_3 ≤ (x6_2.length : Int) then ((some (x6_2.take (x11_3 : Int).toNat : List (S26))).bind fun y172 => (if y169.length + y172.length < 8796093022208 then ((some (y169 ++ y172 : List (S26))).bind fun y176 => ((some (([(⟨t163, t164⟩ : S26)] : List (S26)) : List (S26))).bind fun y179 => (if y176.length + y179.length < 8796093022208 then ((some (y176 ++ y179 : List (S26))).bind fun y182 => ((some (x6_2.drop (x11_3 : Int).toNat : List (S26))).bind fun y185 => (if y182.length + y185.length < 8796093022208 then (spec_meGaps.l0 k3 (y182 ++ y185) l0 (l0.length : Int) (wrap64 (x28_2 + 1)) a1_0 a1_1) else (none)))) else (none)))) else (none))) else (none)) = some (r1, r2) := by first | (rw [hy169]; with_reducible exact H) | (have H2_ := (Option.bind_some _ _).symm.trans H; rw [hy169]; with_reducible exact H2_) | (have H2_ := (Option.bind_some _ _).symm.trans H; with_reducible exact H2_) | with_reducible exact H | (rw [hy169]; exact H) | exact H
             have Ny169 := Am hy169
             clear hy169
             have c36b0 := eq_true (of_decide_eq_true (by first | (with_reducible assumption) | assumption) : 0 ≤ x11_3)
             by_cases c37 : x11_3 ≤ (x6_2.length : Int)
             ·rw [if_pos c37] at H
              have c37b0 := eq_true c37
              have c37b1 : decide (x11_3 ≤ (x6_2.length : Int)) = true := decide_eq_true c37
              clear c37
              obtain ⟨y172, hy172⟩ : ∃ y_ : List (S26), y_ = (x6_2.take (x11_3 : Int).toNat) := ⟨_, rfl⟩
              replace H : (if y169.length + y172.length < 8796093022208 then ((some (y169 ++ y172 : List (S26))).bind fun y176 => ((some (([(⟨t163, t164⟩ : S26)] : List (S26)) : List (S26))).bind fun y179 => (if y176.length + y179.length < 8796093022208 then ((some (y176 ++ y179 : List (S26))).bind fun y182 => ((some (x6_2.drop (x11_3 : Int).toNat : List (S26))).bind fun y185 => (if y182.length + y185.length < 8796093022208 then (spec_meGaps.l0 k3 (y182 ++ y185) l0 (l0.length : Int) (wrap64 (x28_2 + 1)) a1_0 a1_1) else (none)))) else (none)))) else (none)) = some (r1, r2) := by first | (rw [hy172]; with_reducible exact H) | (have H2_ := (Option.bind_some _ _).symm.trans H; rw [hy172]; with_reducible exact H2_) | (have H2_ := (Option.bind_some _ _).symm.trans H; with_reducible exact H2_) | with_reducible exact H | (rw [hy172]; exact H) | exact H
              have Ny172 := Am hy172
              clear hy172
              by_cases c38 : y169.length + y172.length < 8796093022208
              ·rw [if_pos c38] at H
               have LMc38 := Am c38
               clear c38
               obtain ⟨y176, hy176⟩ : ∃ y_ : List (S26), y_ = (y169 ++ y172) := ⟨_, rfl⟩
               replace H : ((some (([(⟨t163, t164⟩ : S26)] : List (S26)) : List (S26))).bind fun y179 => (if y176.length + y179.length < 8796093022208 then ((some (y176 ++ y179 : List (S26))).bind fun y182 => ((some (x6_2.drop (x11_3 : Int).toNat : List (S26))).bind fun y185 => (if y182.length + y185.length < 8796093022208 then (spec_meGaps.l0 k3 (y182 ++ y185) l0 (l0.length : Int) (wrap64 (x28_2 + 1)) a1_0 a1_1) else (none)))) else (none))) = some (r1, r2) := by first | (rw [hy176]; with_reducible exact H) | (have H2_ := (Option.bind_some _ _).symm.trans H; rw [hy176]; with_reducible exact H2_) | (have H2_ := (Option.bind_some _ _).symm.trans H; with_reducible exact H2_) | with_reducible exact H | (rw [hy176]; exact H) | exact H
               have Ny176 := Am hy176
               clear hy176
               obtain ⟨y179, hy179⟩ : ∃ y_ : List (S26), y_ = (([(⟨t163, t164⟩ : S26)] : List (S26))) := ⟨_, rfl⟩
               replace H : (if y176.length + y179.length < 8796093022208 then ((some (y176 ++ y179 : List (S26))).bind fun y182 => ((some (x6_2.drop (x11_3 : Int).toNat : List (S26))).bind fun y185 => (if y182.length + y185.length < 8796093022208 then (spec_meGaps.l0 k3 (y182 ++ y185) l0 (l0.length : Int) (wrap64 (x28_2 + 1)) a1_0 a1_1) else (none)))) else (none)) = some (r1, r2) := by first | (rw [hy179]; with_reducible exact H) | (have H2_ := (Option.bind_some _ _).symm.trans H; rw [hy179]; with_reducible exact H2_) | (have H2_ := (Option.bind_some _ _).symm.trans H; with_reducible exact H2_) | with_reducible exact H | (rw [hy179]; exact H) | exact H
               have Ny179 := Am hy179
               clear hy179
               by_cases c39 : y176.length + y179.length < 8796093022208
               ·rw [if_pos c39] at H
                have LMc39 := Am c39
                clear c39
                obtain ⟨y182, hy182⟩ : ∃ y_ : List (S26), y_ = (y176 ++ y179) := ⟨_, rfl⟩
                replace H : ((some (x6_2.drop (x11_3 : Int).toNat : List (S26))).bind fun y185 => (if y182.length + y185.length < 8796093022208 then (spec_meGaps.l0 k3 (y182 ++ y185) l0 (l0.length : Int) (wrap64 (x28_2 + 1)) a1_0 a1_1) else (none))) = some (r1, r2) := by first | (rw [hy182]; with_reducible exact H) | (have H2_ := (Option.bind_some _ _).symm.trans H; rw [hy182]; with_reducible exact H2_) | (have H2_ := (Option.bind_some _ _).symm.trans H; with_reducible exact H2_) | with_reducible exact H | (rw [hy182]; exact H) | exact H
                have Ny182 := Am hy182
                clear hy182
                have c40b0 := eq_true (of_decide_eq_true (by first | (with_reducible assumption) | assumption) : 0 ≤ x11_3)
                have c41b0 := eq_true (of_decide_eq_true (by first | (with_reducible assumption) | assumption) : x11_3 ≤ (x6_2.length : Int))
                obtain ⟨y185, hy185⟩ : ∃ y_ : List (S26), y_ = (x6_2.drop (x11_3 : Int).toNat) := ⟨_, rfl⟩
                replace H : (if y182.length + y185.length < 8796093022208 then (spec_meGaps.l0 k3 (y182 ++ y185) l0 (l0.length : Int) (wrap64 (x28_2 + 1)) a1_0 a1_1) else (none)) = some (r1, r2) := by first | (rw [hy185]; with_reducible exact H) | (have H2_ := (Option.bind_some _ _).symm.trans H; rw [hy185]; with_reducible exact H2_) | (have H2_ := (Option.bind_some _ _).symm.trans H; with_reducible exact H2_) | with_reducible exact H | (rw [hy185]; exact H) | exact H
                have Ny185 := Am hy185
                clear hy185
                by_cases c42 : y182.length + y185.length < 8796093022208
                ·rw [if_pos c42] at H
                 have LMc42 := Am c42
                 clear c42
                 obtain ⟨y189, hy189⟩ : ∃ y_ : List (S26), y_ = (y182 ++ y185) := ⟨_, rfl⟩
                 replace H : (spec_meGaps.l0 k3 y189 l0 (l0.length : Int) (wrap64 (x28_2 + 1)) a1_0 a1_1) = some (r1, r2) := by first | (rw [hy189]; with_reducible exact H) | (have H2_ := (Option.bind_some _ _).symm.trans H; rw [hy189]; with_reducible exact H2_) | (have H2_ := (Option.bind_some _ _).symm.trans H; with_reducible exact H2_) | with_reducible exact H | (rw [hy189]; exact H) | exact H
                 have Ny189 := Am hy189
                 clear hy189
                 have H' := Am H
                 clear H
                 try go_wp2
                 have n0_ := Am (Kd.R_drew HO_6.out)
                 have n1_ := Am (kD BK157.out)
                 have n2_ := Am (kD BK161.out)
                 have n3_ := Am (kD BK166.out)
                 have n4_ := Am (bD HB.out)
                 clear HO_6 BK157 BK161 BK166 HB
                 have HO_6 := n0_; have BK157 := n1_; have BK161 := n2_; have BK166 := n3_; have HB := n4_
                 clear n0_ n1_ n2_ n3_ n4_
                 obtain ⟨Ao44, co44, eo44⟩ := Kd.R_slice HO_6.out
                 (first | subst eo44 | (injection eo44 with f1_ f2_ f3_; have f4_ := f1_.symm; have f5_ := f3_.symm; clear f1_ f2_ f3_; subst f4_; subst f5_))
                 have p167 : 0 ≤ (x11_3 : Int) := of_decide_eq_true (by first | (with_reducible assumption) | assumption)
                 have q167 : x11_3 < (x6_2.length : Int) := of_decide_eq_true (by first | (with_reducible assumption) | assumption)
                 obtain ⟨ad167, e167, hx167_0, hx167_1⟩ := at_T26 (Kd.R_reads' HO_6.out).2.2 x11_3 p167 q167
                 cases e167
                 replace p167 := eq_true p167
                 replace q167 := eq_true q167
                 refine start_ (n := 13) (S := fun w' => w'.cell? ⟨gb166, 0, none⟩ = some (.int .i64 t163) ∧ w'.cell? ⟨gb166, 1, none⟩ = some (.int .i64 t164) ∧ w'.cell? (ad167.add ((x11_3).toNat * 2)) = some (.int .i64 ((rd_T26 x6_2 x11_3).f0)) ∧ w'.cell? ⟨(ad167.add ((x11_3).toNat * 2)).block, (ad167.add ((x11_3).toNat * 2)).off + 1, none⟩ = some (.int .i64 ((rd_T26 x6_2 x11_3).f1))) (ds := []) (pT 13 0) (by kernel_rfl) rfl rfl ⟨c20 BK166.out, c21 BK166.out, hx167_0, hx167_1⟩ (fun hHeld => ?_); refine with_tabW spec_meGaps.tab13 spec_meGaps.bits13 (fun HT_ HW_ => ?_)
                 generalize wr.drew = w43 at HO_6 BK157 BK161 BK166 HB hx167_0 hx167_1 hHeld ⊢
                 iterate 10
                  first
                  | refine pI (v := ?_) (a' := ?_) rfl (any_of HT_.out (by kernel_rfl)) (fun _ _ _ h => h) (Or.inl ⟨by rfl, ?_⟩) ?_ ?_
                    rotate_left
                    ·intro w'
                     go_simp
                     with_reducible rfl
                    rotate_left
                    ·show Act.put _ (some _) _ = _
                     simp only [Act.put, List.setIfInBounds_toArray, List.set_cons_zero, List.set_cons_succ, i64_w, i32_w]
                     rfl
                  | refine tI (v := ?_) (a' := ?_) rfl (take_ofW HT_.out HW_.out (by kernel_rfl)) (fun _ _ _ h => h) (Or.inl ⟨by rfl, ?_⟩) hHeld ?_ ?_
                    rotate_left
                    ·rintro w' ⟨s0, s1, s2, s3⟩
                     go_simp
                     with_reducible rfl
                    rotate_left
                    ·show Act.put _ (some _) _ = _
                     simp only [Act.put, List.setIfInBounds_toArray, List.set_cons_zero, List.set_cons_succ, i64_w, i32_w]
                     rfl
                 refine one_ (i := 10) (N := some 53) (pT 13 11) rfl rfl (one_of HT_.out (by kernel_rfl)) (by decide) (fun K hK => ?_)
                 refine goes_ Try.func58 (by kernel_rfl) rfl #[.agg #[.int .i64 ((rd_T26 x6_2 x11_3).f0), .int .i64 ((rd_T26 x6_2 x11_3).f1)], .agg #[.int .i64 t163, .int .i64 t164]] (by rfl) rfl rfl (by (try simp only [List.map_toArray, List.map_cons, List.map_nil]); first | done | rfl | (simp only [List.length_drop, List.length_take]; rfl)) ?_
                 with_reducible refine (spec_diCompare.calls ((rd_T26 x6_2 x11_3).f0) ((rd_T26 x6_2 x11_3).f1) t163 t164 t168 _ A31.out).mono ?_
                 rintro e w45 ⟨rfl, hb⟩
                 have HS2_ := (hb.cell (World.block_lt_of_cell? _ _ (hHeld.2.2.1))).trans (hHeld.2.2.1)
                 have HS3_ := (hb.cell (World.block_lt_of_cell? _ _ (hHeld.2.2.2))).trans (hHeld.2.2.2)
                 refine ⟨_, rfl, ?_⟩
                 have n0_ := Am (Kd.R_below (by (with_reducible repeat (first | apply Kd.R_alloc | apply Kd.R_drewN | apply Kd.R_drew)); exact HO_6.out) hb)
                 have hp0 := hpA BK157.out hb (fun _ _ h_ => by (with_reducible repeat (first | refine kN ?_ _ | refine kD ?_ | refine kA ?_ _)); exact h_)
                 have hv := hvK (w := w) hb (by repeat (first | (with_reducible first | exact HB.out | apply bA | apply bN | apply bD | refine bX ?_ (by assumption)) | exact HB.out))
                 have n4_ := Am (bT hv hb)
                 clear HO_6 HB
                 have HO_6 := n0_
                 replace BK157 := hp0 BK157; replace BK161 := hp0 BK161; replace BK166 := hp0 BK166
                 have HB := n4_
                 clear n0_ n4_ hp0 hv
                 (try clear hb)
                 refine hK.out _ _ ⟨c20 BK166.out, c21 BK166.out, HS2_, HS3_⟩ (fun hHeld => ?_)
                 clear hK K
                 refine norm_ (a' := ?_) ?_ ?_
                 rotate_left
                 ·show Act.put _ (some 53) _ = _
                  simp only [Act.put, List.setIfInBounds_toArray, List.set_cons_zero, List.set_cons_succ, i64_w, i32_w]
                  rfl
                 iterate 2
                  refine pI (v := ?_) (a' := ?_) rfl (any_of HT_.out (by kernel_rfl)) (fun _ _ _ h => h) (Or.inl ⟨by rfl, ?_⟩) ?_ ?_
                  rotate_left
                  ·intro w'
                   go_simp
                   with_reducible rfl
                  rotate_left
                  ·show Act.put _ (some _) _ = _
                   simp only [Act.put, List.setIfInBounds_toArray, List.set_cons_zero, List.set_cons_succ, i64_w, i32_w]
                   rfl
                 refine done_ (done_of HT_.out (by kernel_rfl)) ?_
                 try go_wp2
                 have n0_ := Am (Kd.R_drew HO_6.out)
                 have n1_ := Am (kD BK157.out)
                 have n2_ := Am (kD BK161.out)
                 have n3_ := Am (kD BK166.out)
                 have n4_ := Am (bD HB.out)
                 clear HO_6 BK157 BK161 BK166 HB
                 have HO_6 := n0_; have BK157 := n1_; have BK161 := n2_; have BK166 := n3_; have HB := n4_
                 clear n0_ n1_ n2_ n3_ n4_
                 have q47 : (x11_3 : Int) ≤ ((x6_2.length : Int) : Int) := of_decide_eq_true (by first | (with_reducible assumption) | assumption)
                 obtain ⟨i047, hi047, _, hsz47, _⟩ := info_parts info26
                 have hroom47 : x6_2.length ≤ co44 := (Kd.R_reads' HO_6.out).2.1
                 have hC47 : Kd.C k26 _ (some ad167) x6_2.length x6_2 := (Kd.R_reads' HO_6.out).2.2
                 have hcut47 := cut_to (P := Try.prog) 35 26 .i64 Try.underlying35 hi047 (some ad167) x6_2.length co44 x11_3 (of_decide_eq_true (by first | (with_reducible assumption) | assumption)) q47 hroom47
                 have hr47 := Kd.C_take (m := (x11_3 : Int).toNat) hC47 (by omega)
                 have hy47 : y172.length = (x11_3 : Int).toNat := (by rw [Ny172.out, List.length_take]; omega)
                 rw [← Ny172.out] at hr47
                 rw [← hy47] at hcut47
                 have HR175 := Am hr47
                 have HC175 := Am (show y172.length ≤ co44 from by omega)
                 clear hr47 hC47 hroom47 hi047 hsz47
                 have KY47 := Am hy47
                 clear hy47
                 have KL47 := Am (show (x11_3 : Int).toNat ≤ x6_2.length from by omega)
                 replace q47 := eq_true q47
                 refine start_ (n := 9) (S := fun w' => w'.cell? ⟨gb166, 0, none⟩ = some (.int .i64 t163) ∧ w'.cell? ⟨gb166, 1, none⟩ = some (.int .i64 t164)) (ds := []) (pT 9 0) (by kernel_rfl) rfl rfl ⟨c20 BK166.out, c21 BK166.out⟩ (fun hHeld => ?_); refine with_tabW spec_meGaps.tab15 spec_meGaps.bits15 (fun HT_ HW_ => ?_)
                 generalize w45.drew = w46 at HO_6 BK157 BK161 BK166 HB HR175 hHeld ⊢
                 refine pure_ (i := 1) (N := some 59) (v := ?_) (a' := ?_) #[false, true, false, false, false, false, false, false, false] rfl rfl (any_of HT_.out (by kernel_rfl)) (fun _ _ _ h => h) (Or.inl ⟨by rfl, ?_⟩) ?_ ?_
                 rotate_left
                 ·intro w'
                  go_simp
                  with_reducible rfl
                 rotate_left
                 ·simp only [Act.put, List.setIfInBounds_toArray, List.set_cons_zero, List.set_cons_succ, i64_w, i32_w]
                  rfl
                 refine pure_ (i := 2) (N := some 60) (v := ?_) (a' := ?_) #[false, true, true, false, false, false, false, false, false] rfl rfl (any_of HT_.out (by kernel_rfl)) (fun _ _ _ h => h) (Or.inl ⟨by rfl, ?_⟩) ?_ ?_
                 rotate_left
                 ·intro w'
                  go_simp
                  with_reducible rfl
                 rotate_left
                 ·simp only [Act.put, List.setIfInBounds_toArray, List.set_cons_zero, List.set_cons_succ, i64_w, i32_w]
                  rfl
                 refine pure_ (i := 3) (N := some 61) (v := ?_) (a' := ?_) #[false, true, true, true, false, false, false, false, false] rfl rfl (any_of HT_.out (by kernel_rfl)) (fun _ _ _ h => h) (Or.inl ⟨by rfl, ?_⟩) ?_ ?_
                 rotate_left
                 ·intro w'
                  go_simp
                  with_reducible rfl
                 rotate_left
                 ·simp only [Act.put, List.setIfInBounds_toArray, List.set_cons_zero, List.set_cons_succ, i64_w, i32_w]
                  rfl
                 refine take_ (i := 5) (N := some 63) (v := ?_) (a' := ?_) #[false, true, true, true, false, true, false, false, false] rfl rfl (take_ofW HT_.out HW_.out (by kernel_rfl)) (fun _ _ _ h => h) (Or.inl ⟨by rfl, ?_⟩) hHeld ?_ ?_
                 rotate_left
                 ·rintro w' ⟨s0, s1⟩
                  go_simp
                  with_reducible rfl
                 rotate_left
                 ·simp only [Act.put, List.setIfInBounds_toArray, List.set_cons_zero, List.set_cons_succ, i64_w, i32_w]
                  rfl
                 refine join_ (σ := Value × Value × Value) 2 (pT 9 7) (fun s_ => [(58, s_.1), (62, s_.2.1), (64, s_.2.2)]) (fun s_ w' => (w'.cell? ⟨gb166, 0, none⟩ = some (.int .i64 t163) ∧ w'.cell? ⟨gb166, 1, none⟩ = some (.int .i64 t164)) ∧ (Kd.R k26 26 w' w.heap.size (fun k_ => some k_ ≠ (s_.2.2 : Value).ownBlock ∧ some k_ ≠ (.slice (some ad167) x6_2.length co44 : Value).ownBlock ∧ k_ ≠ gb157 ∧ k_ ≠ gb166) s_.2.1 y176) ∧ (Kd.R k26 26 w' w.heap.size (fun k_ => some k_ ≠ (s_.2.1 : Value).ownBlock ∧ some k_ ≠ (.slice (some ad167) x6_2.length co44 : Value).ownBlock ∧ k_ ≠ gb157 ∧ k_ ≠ gb166) s_.2.2 y179) ∧ (Kd.R k26 26 w' w.heap.size (fun k_ => some k_ ≠ (s_.2.1 : Value).ownBlock ∧ some k_ ≠ (s_.2.2 : Value).ownBlock ∧ k_ ≠ gb157 ∧ k_ ≠ gb166) (.slice (some ad167) x6_2.length co44) x6_2) ∧ (w'.heap[gb157]? = some (.cells #[.int .i64 a1_0, .int .i64 a1_1] 26 (0, 0))) ∧ (w'.heap[gb161]? = some (.cells #[.int .i64 ((rd_T30 l0 x28_2).f0.f0), .int .i64 ((rd_T30 l0 x28_2).f0.f1), .int .i64 ((rd_T30 l0 x28_2).f1)] 30 (0, 0))) ∧ (w'.heap[gb166]? = some (.cells #[.int .i64 t163, .int .i64 t164] 26 (0, 0))) ∧ (Below w.heap.size w w')) ?_ ?_
                 rotate_left
                 ·intro hCont
                  refine two_ (i := 0) (j := 6) (Ni := some 58) (Nj := some 64) #[true, true, true, true, false, true, false, false, false] #[false, true, true, true, false, true, true, false, false] rfl rfl rfl rfl (two_of HT_.out (by kernel_rfl)) (by decide) (by decide) (fun K hK => ?_) (fun K hK => ?_)
                  ·skip
                   refine Kd.R_lit_step k26 _ 26 ?hg (N := 58) ?hd (xs := ([] : List (S26))) (inner := []) (ok := fun _ => True) (okp := fun _ => True) ?hr ?hp (fun _ hk => hk) trivial (Below.refl _ _) (Nat.le_refl _) (by simp) ?_; (case hd => rfl); (case hg => rfl); (case hr => first | (go_simp; done) | (go_simp; rfl)); (case hp => exact (Reps.none _ _))
                   intro v170 w48 ho49 hb hg_ hnew_
                   clear hg_ hnew_
                   (first | rw [← Ny169.out] at ho49 | (simp only [Int.reduceToNat] at ho49; rw [← Ny169.out] at ho49))
                   have n0_ := Am (Kd.R_elder' (by (with_reducible repeat (first | apply Kd.R_alloc | apply Kd.R_drewN | apply Kd.R_drew)); exact HO_6.out) (Kd.R_base ho49) hb)
                   have n1_ := Am (Kd.R_lower (Kd.R_newB (Kd.R_newB (Kd.R_new' ho49 (Kd.R_lt (by (with_reducible repeat (first | apply Kd.R_alloc | apply Kd.R_drewN | apply Kd.R_drew)); exact HO_6.out))) (g := gb157) (o := .cells #[.int .i64 a1_0, .int .i64 a1_1] 26 (0, 0)) (by (with_reducible repeat (first | refine kN ?_ _ | refine kD ?_ | refine kA ?_ _)); exact BK157.out)) (g := gb166) (o := .cells #[.int .i64 t163, .int .i64 t164] 26 (0, 0)) (by (with_reducible repeat (first | refine kN ?_ _ | refine kD ?_ | refine kA ?_ _)); exact BK166.out)) (bZ (by repeat (first | (with_reducible first | exact HB.out | apply bA | apply bN | apply bD | refine bX ?_ (by assumption)) | exact HB.out))))
                   have hp0 := hpA BK157.out hb (fun _ _ h_ => by (with_reducible repeat (first | refine kN ?_ _ | refine kD ?_ | refine kA ?_ _)); exact h_)
                   have n5_ := Am (Kd.C_below (by repeat (first | (with_reducible exact HR175.out) | (with_reducible refine Kd.C_alloc ?_ _) | (with_reducible refine Kd.C_drewN ?_ _) | (with_reducible refine Kd.C_drew ?_) | exact HR175.out)) hb)
                   have hv := hvK (w := w) hb (by repeat (first | (with_reducible first | exact HB.out | apply bA | apply bN | apply bD | refine bX ?_ (by assumption)) | exact HB.out))
                   have n6_ := Am (bT hv hb)
                   clear HO_6 HR175 HB
                   have HO_6 := n0_; have HO171 := n1_
                   replace BK157 := hp0 BK157; replace BK161 := hp0 BK161; replace BK166 := hp0 BK166
                   have HR175 := n5_; have HB := n6_
                   clear n0_ n1_ n5_ n6_ hp0 hv hb ho49
                   refine hK.out _ _ ⟨c20 BK166.out, c21 BK166.out⟩ (fun hHeld => ?_)
                   clear hK K
                   refine norm_ (a' := ?_) ?_ ?_
                   rotate_left
                   ·show Act.put _ (some 58) _ = _
                    simp only [Act.put, List.setIfInBounds_toArray, List.set_cons_zero, List.set_cons_succ, i64_w, i32_w]
                    rfl
                   refine two_ (i := 4) (j := 6) (Ni := some 62) (Nj := some 64) (pT 9 6) #[true, true, true, true, false, true, true, false, false] rfl rfl rfl rfl (two_of HT_.out (by kernel_rfl)) (by decide) (by decide) (fun K hK => ?_) (fun K hK => ?_)
                   ·skip
                    refine Kd.R_append_rows_step k26 (w0 := w) w.heap.size (by rfl) (.tmp 58) (.tmp 61) 35 26 (.agg #[(.int .i64 0), (.int .i64 0)]) 16 rfl Try.underlying35 info26 rfl (by decide) (by omega) v170 y169 y172 _ _ _ (fun k_ => some k_ ≠ (.slice (some ad167) x6_2.length co44 : Value).ownBlock ∧ k_ ≠ gb157 ∧ k_ ≠ gb166) (fun _ => False) rfl rfl ?aO ?aR (fun _ _ h => h) (fun _ h => h.elim) ?aF ?aB ?aS ?aL ?_
                    (case aR => repeat (first | exact (by repeat (first | (with_reducible exact HR175.out) | (with_reducible refine Kd.C_alloc ?_ _) | (with_reducible refine Kd.C_drewN ?_ _) | (with_reducible refine Kd.C_drew ?_) | exact HR175.out)) | (with_reducible refine Kd.C_alloc ?_ _) | (with_reducible refine Kd.C_drewN ?_ _) | (with_reducible refine Kd.C_drew ?_)))
                    (case aB => exact (by repeat (first | (with_reducible first | exact HB.out | apply bA | apply bN | apply bD | refine bX ?_ (by assumption)) | exact HB.out)))
                    (case aF => exact (fun k_ hk => ⟨Kd.fresh' (Kd.R_lt (by (with_reducible repeat (first | apply Kd.R_alloc | apply Kd.R_drewN | apply Kd.R_drew)); exact HO_6.out)) k_ hk, Kd.freshB (g := gb157) (o := .cells #[.int .i64 a1_0, .int .i64 a1_1] 26 (0, 0)) (by (with_reducible repeat (first | refine kN ?_ _ | refine kD ?_ | refine kA ?_ _)); exact BK157.out) k_ hk, Kd.freshB (g := gb166) (o := .cells #[.int .i64 t163, .int .i64 t164] 26 (0, 0)) (by (with_reducible repeat (first | refine kN ?_ _ | refine kD ?_ | refine kA ?_ _)); exact BK166.out) k_ hk⟩))
                    (case aO => exact (by (with_reducible repeat (first | apply Kd.R_alloc | apply Kd.R_drewN | apply Kd.R_drew)); exact Kd.R_mono HO171.out (fun _ hk => ⟨hk.1.1.2, ⟨hk.1.2, hk.2⟩⟩)))
                    (case aS => exact (bZ (by repeat (first | (with_reducible first | exact HB.out | apply bA | apply bN | apply bD | refine bX ?_ (by assumption)) | exact HB.out))))
                    (case aL => have := LMc38.out; omega)
                    intro v177 w50 ho hb hg hat
                    rw [← Ny176.out] at ho
                    have n0_ := Am (Kd.R_after (ok := (fun k_ => k_ ≠ gb157 ∧ k_ ≠ gb166)) (by (with_reducible repeat (first | apply Kd.R_alloc | apply Kd.R_drewN | apply Kd.R_drew)); exact HO_6.out) hg hat)
                    have n1_ := Am (blk_grown (g := gb157) (o := .cells #[.int .i64 a1_0, .int .i64 a1_1] 26 (0, 0)) (by (with_reducible repeat (first | refine kN ?_ _ | refine kD ?_ | refine kA ?_ _)); exact BK157.out) hg (Kd.R_away HO171.out (fun _ hk => hk.1.2)))
                    have n2_ := Am (blk_grown (g := gb161) (o := .cells #[.int .i64 ((rd_T30 l0 x28_2).f0.f0), .int .i64 ((rd_T30 l0 x28_2).f0.f1), .int .i64 ((rd_T30 l0 x28_2).f1)] 30 (0, 0)) (by (with_reducible repeat (first | refine kN ?_ _ | refine kD ?_ | refine kA ?_ _)); exact BK161.out) hg (Kd.R_ne HO171.out BK161.out (by decide)))
                    have n3_ := Am (blk_grown (g := gb166) (o := .cells #[.int .i64 t163, .int .i64 t164] 26 (0, 0)) (by (with_reducible repeat (first | refine kN ?_ _ | refine kD ?_ | refine kA ?_ _)); exact BK166.out) hg (Kd.R_away HO171.out (fun _ hk => hk.2)))
                    have n4_ := Am (hb)
                    have n5_ := Am ((show Kd.C k26 w50 (some ad167) y172.length y172 from by rw [Ny172.out]; exact Kd.C_take (m := (x11_3 : Int).toNat) ((Kd.R_reads' (Kd.R_after (ok := (fun k_ => k_ ≠ gb157 ∧ k_ ≠ gb166)) (by (with_reducible repeat (first | apply Kd.R_alloc | apply Kd.R_drewN | apply Kd.R_drew)); exact HO_6.out) hg hat)).2.2) KL47.out))
                    have n6_ := Am (ho)
                    clear HO_6 BK157 BK161 BK166 HB HR175 HO171
                    have HO_6 := n0_; have BK157 := n1_; have BK161 := n2_; have BK166 := n3_; have HB := n4_; have HR175 := n5_; have HO178 := n6_
                    clear n0_ n1_ n2_ n3_ n4_ n5_ n6_ ho hb hg hat
                    refine hK.out _ _ ⟨c20 BK166.out, c21 BK166.out⟩ (fun hHeld => ?_)
                    clear hK K
                    refine norm_ (a' := ?_) ?_ ?_
                    rotate_left
                    ·show Act.put _ (some 62) _ = _
                     simp only [Act.put, List.setIfInBounds_toArray, List.set_cons_zero, List.set_cons_succ, i64_w, i32_w]
                     rfl
                    refine one_ (i := 6) (N := some 64) (pT 9 7) rfl rfl (one_of HT_.out (by kernel_rfl)) (by decide) (fun K hK => ?_)
                    refine Kd.R_lit_step k26 _ 26 ?hg (N := 64) ?hd (xs := ([(⟨t163, t164⟩ : S26)] : List (S26))) (inner := [.int .i64 t163, .int .i64 t164]) (ok := fun _ => True) (okp := fun _ => True) ?hr ?hp (fun _ hk => hk) trivial (Below.refl _ _) (Nat.le_refl _) (by simp) ?_; (case hd => rfl); (case hg => rfl); (case hr => first | (go_simp; done) | (go_simp; rfl)); (case hp => exact (Reps.c2 (show Kd.M k26 _ _ _ (⟨t163, t164⟩ : S26) [.int .i64 t163, .int .i64 t164] from (k26_mkM _ _ _ (⟨t163, t164⟩ : S26) )) (Reps.none _ _)))
                    intro v180 w51 ho52 hb hg_ hnew_
                    clear hg_ hnew_
                    (first | rw [← Ny179.out] at ho52 | (simp only [Int.reduceToNat] at ho52; rw [← Ny179.out] at ho52))
                    have n0_ := Am (Kd.R_elder' (by (with_reducible repeat (first | apply Kd.R_alloc | apply Kd.R_drewN | apply Kd.R_drew)); exact HO_6.out) (Kd.R_base ho52) hb)
                    have n1_ := Am (Kd.R_elder' (by (with_reducible repeat (first | apply Kd.R_alloc | apply Kd.R_drewN | apply Kd.R_drew)); exact HO178.out) (Kd.R_base ho52) hb)
                    have n2_ := Am (Kd.R_lower (Kd.R_newB (Kd.R_newB (Kd.R_new' (Kd.R_new' ho52 (Kd.R_lt (by (with_reducible repeat (first | apply Kd.R_alloc | apply Kd.R_drewN | apply Kd.R_drew)); exact HO_6.out))) (Kd.R_lt (by (with_reducible repeat (first | apply Kd.R_alloc | apply Kd.R_drewN | apply Kd.R_drew)); exact HO178.out))) (g := gb157) (o := .cells #[.int .i64 a1_0, .int .i64 a1_1] 26 (0, 0)) (by (with_reducible repeat (first | refine kN ?_ _ | refine kD ?_ | refine kA ?_ _)); exact BK157.out)) (g := gb166) (o := .cells #[.int .i64 t163, .int .i64 t164] 26 (0, 0)) (by (with_reducible repeat (first | refine kN ?_ _ | refine kD ?_ | refine kA ?_ _)); exact BK166.out)) (bZ (by repeat (first | (with_reducible first | exact HB.out | apply bA | apply bN | apply bD | refine bX ?_ (by assumption)) | exact HB.out))))
                    have hp0 := hpA BK157.out hb (fun _ _ h_ => by (with_reducible repeat (first | refine kN ?_ _ | refine kD ?_ | refine kA ?_ _)); exact h_)
                    have n6_ := Am (Kd.C_below (by repeat (first | (with_reducible exact HR175.out) | (with_reducible refine Kd.C_alloc ?_ _) | (with_reducible refine Kd.C_drewN ?_ _) | (with_reducible refine Kd.C_drew ?_) | exact HR175.out)) hb)
                    have hv := hvK (w := w) hb (by repeat (first | (with_reducible first | exact HB.out | apply bA | apply bN | apply bD | refine bX ?_ (by assumption)) | exact HB.out))
                    have n7_ := Am (bT hv hb)
                    clear HO_6 HO178 HR175 HB
                    have HO_6 := n0_; have HO178 := n1_; have HO181 := n2_
                    replace BK157 := hp0 BK157; replace BK161 := hp0 BK161; replace BK166 := hp0 BK166
                    have HR175 := n6_; have HB := n7_
                    clear n0_ n1_ n2_ n6_ n7_ hp0 hv hb ho52
                    refine hK.out _ _ ⟨c20 BK166.out, c21 BK166.out⟩ (fun hHeld => ?_)
                    clear hK K
                    refine norm_ (a' := ?_) ?_ ?_
                    rotate_left
                    ·show Act.put _ (some 64) _ = _
                     simp only [Act.put, List.setIfInBounds_toArray, List.set_cons_zero, List.set_cons_succ, i64_w, i32_w]
                     rfl
                    exact norm_ (by simp only [putAll, Act.put, List.setIfInBounds_toArray, List.set_cons_zero, List.set_cons_succ]) (hCont (v170, v177, v180) _ ⟨hHeld, (by (with_reducible repeat (first | apply Kd.R_alloc | apply Kd.R_drewN | apply Kd.R_drew)); exact Kd.R_mono HO178.out (fun _ hk => ⟨hk.2, ⟨hk.1.1, ⟨hk.1.2.1, hk.1.2.2⟩⟩⟩)), (by (with_reducible repeat (first | apply Kd.R_alloc | apply Kd.R_drewN | apply Kd.R_drew)); exact Kd.R_mono HO181.out (fun _ hk => ⟨hk.1.1.2, ⟨hk.1.1.1.2, ⟨hk.1.2, hk.2⟩⟩⟩)), (by (with_reducible repeat (first | apply Kd.R_alloc | apply Kd.R_drewN | apply Kd.R_drew)); exact Kd.R_mono HO_6.out (fun _ hk => ⟨hk.1.2, ⟨hk.2, ⟨hk.1.1.1, hk.1.1.2⟩⟩⟩)), (by (with_reducible repeat (first | refine kN ?_ _ | refine kD ?_ | refine kA ?_ _)); exact BK157.out), (by (with_reducible repeat (first | refine kN ?_ _ | refine kD ?_ | refine kA ?_ _)); exact BK161.out), (by (with_reducible repeat (first | refine kN ?_ _ | refine kD ?_ | refine kA ?_ _)); exact BK166.out), (by repeat (first | (with_reducible first | exact HB.out | apply bA | apply bN | apply bD | refine bX ?_ (by assumption)) | exact HB.out))⟩)
                   skip
                   refine Kd.R_lit_step k26 _ 26 ?hg (N := 64) ?hd (xs := ([(⟨t163, t164⟩ : S26)] : List (S26))) (inner := [.int .i64 t163, .int .i64 t164]) (ok := fun _ => True) (okp := fun _ => True) ?hr ?hp (fun _ hk => hk) trivial (Below.refl _ _) (Nat.le_refl _) (by simp) ?_; (case hd => rfl); (case hg => rfl); (case hr => first | (go_simp; done) | (go_simp; rfl)); (case hp => exact (Reps.c2 (show Kd.M k26 _ _ _ (⟨t163, t164⟩ : S26) [.int .i64 t163, .int .i64 t164] from (k26_mkM _ _ _ (⟨t163, t164⟩ : S26) )) (Reps.none _ _)))
                   intro v180 w50 ho51 hb hg_ hnew_
                   clear hg_ hnew_
                   (first | rw [← Ny179.out] at ho51 | (simp only [Int.reduceToNat] at ho51; rw [← Ny179.out] at ho51))
                   have n0_ := Am (Kd.R_elder' (by (with_reducible repeat (first | apply Kd.R_alloc | apply Kd.R_drewN | apply Kd.R_drew)); exact HO_6.out) (Kd.R_base ho51) hb)
                   have n1_ := Am (Kd.R_elder' (by (with_reducible repeat (first | apply Kd.R_alloc | apply Kd.R_drewN | apply Kd.R_drew)); exact HO171.out) (Kd.R_base ho51) hb)
                   have n2_ := Am (Kd.R_lower (Kd.R_newB (Kd.R_newB (Kd.R_new' (Kd.R_new' ho51 (Kd.R_lt (by (with_reducible repeat (first | apply Kd.R_alloc | apply Kd.R_drewN | apply Kd.R_drew)); exact HO_6.out))) (Kd.R_lt (by (with_reducible repeat (first | apply Kd.R_alloc | apply Kd.R_drewN | apply Kd.R_drew)); exact HO171.out))) (g := gb157) (o := .cells #[.int .i64 a1_0, .int .i64 a1_1] 26 (0, 0)) (by (with_reducible repeat (first | refine kN ?_ _ | refine kD ?_ | refine kA ?_ _)); exact BK157.out)) (g := gb166) (o := .cells #[.int .i64 t163, .int .i64 t164] 26 (0, 0)) (by (with_reducible repeat (first | refine kN ?_ _ | refine kD ?_ | refine kA ?_ _)); exact BK166.out)) (bZ (by repeat (first | (with_reducible first | exact HB.out | apply bA | apply bN | apply bD | refine bX ?_ (by assumption)) | exact HB.out))))
                   have hp0 := hpA BK157.out hb (fun _ _ h_ => by (with_reducible repeat (first | refine kN ?_ _ | refine kD ?_ | refine kA ?_ _)); exact h_)
                   have n6_ := Am (Kd.C_below (by repeat (first | (with_reducible exact HR175.out) | (with_reducible refine Kd.C_alloc ?_ _) | (with_reducible refine Kd.C_drewN ?_ _) | (with_reducible refine Kd.C_drew ?_) | exact HR175.out)) hb)
                   have hv := hvK (w := w) hb (by repeat (first | (with_reducible first | exact HB.out | apply bA | apply bN | apply bD | refine bX ?_ (by assumption)) | exact HB.out))
                   have n7_ := Am (bT hv hb)
                   clear HO_6 HO171 HR175 HB
                   have HO_6 := n0_; have HO171 := n1_; have HO181 := n2_
                   replace BK157 := hp0 BK157; replace BK161 := hp0 BK161; replace BK166 := hp0 BK166
                   have HR175 := n6_; have HB := n7_
                   clear n0_ n1_ n2_ n6_ n7_ hp0 hv hb ho51
                   refine hK.out _ _ ⟨c20 BK166.out, c21 BK166.out⟩ (fun hHeld => ?_)
                   clear hK K
                   refine norm_ (a' := ?_) ?_ ?_
                   rotate_left
                   ·show Act.put _ (some 64) _ = _
                    simp only [Act.put, List.setIfInBounds_toArray, List.set_cons_zero, List.set_cons_succ, i64_w, i32_w]
                    rfl
                   refine one_ (i := 4) (N := some 62) (pT 9 7) rfl rfl (one_of HT_.out (by kernel_rfl)) (by decide) (fun K hK => ?_)
                   refine Kd.R_append_rows_step k26 (w0 := w) w.heap.size (by rfl) (.tmp 58) (.tmp 61) 35 26 (.agg #[(.int .i64 0), (.int .i64 0)]) 16 rfl Try.underlying35 info26 rfl (by decide) (by omega) v170 y169 y172 _ _ _ (fun k_ => some k_ ≠ (.slice (some ad167) x6_2.length co44 : Value).ownBlock ∧ some k_ ≠ (v180 : Value).ownBlock ∧ k_ ≠ gb157 ∧ k_ ≠ gb166) (fun _ => False) rfl rfl ?aO ?aR (fun _ _ h => h) (fun _ h => h.elim) ?aF ?aB ?aS ?aL ?_
                   (case aR => repeat (first | exact (by repeat (first | (with_reducible exact HR175.out) | (with_reducible refine Kd.C_alloc ?_ _) | (with_reducible refine Kd.C_drewN ?_ _) | (with_reducible refine Kd.C_drew ?_) | exact HR175.out)) | (with_reducible refine Kd.C_alloc ?_ _) | (with_reducible refine Kd.C_drewN ?_ _) | (with_reducible refine Kd.C_drew ?_)))
                   (case aB => exact (by repeat (first | (with_reducible first | exact HB.out | apply bA | apply bN | apply bD | refine bX ?_ (by assumption)) | exact HB.out)))
                   (case aF => exact (fun k_ hk => ⟨Kd.fresh' (Kd.R_lt (by (with_reducible repeat (first | apply Kd.R_alloc | apply Kd.R_drewN | apply Kd.R_drew)); exact HO_6.out)) k_ hk, Kd.fresh' (Kd.R_lt (by (with_reducible repeat (first | apply Kd.R_alloc | apply Kd.R_drewN | apply Kd.R_drew)); exact HO181.out)) k_ hk, Kd.freshB (g := gb157) (o := .cells #[.int .i64 a1_0, .int .i64 a1_1] 26 (0, 0)) (by (with_reducible repeat (first | refine kN ?_ _ | refine kD ?_ | refine kA ?_ _)); exact BK157.out) k_ hk, Kd.freshB (g := gb166) (o := .cells #[.int .i64 t163, .int .i64 t164] 26 (0, 0)) (by (with_reducible repeat (first | refine kN ?_ _ | refine kD ?_ | refine kA ?_ _)); exact BK166.out) k_ hk⟩))
                   (case aO => exact (by (with_reducible repeat (first | apply Kd.R_alloc | apply Kd.R_drewN | apply Kd.R_drew)); exact Kd.R_mono HO171.out (fun _ hk => ⟨hk.1.1.1.2, ⟨hk.2, ⟨hk.1.1.2, hk.1.2⟩⟩⟩)))
                   (case aS => exact (bZ (by repeat (first | (with_reducible first | exact HB.out | apply bA | apply bN | apply bD | refine bX ?_ (by assumption)) | exact HB.out))))
                   (case aL => have := LMc38.out; omega)
                   intro v177 w52 ho hb hg hat
                   rw [← Ny176.out] at ho
                   have n0_ := Am (Kd.R_after (ok := (fun k_ => some k_ ≠ (v180 : Value).ownBlock ∧ k_ ≠ gb157 ∧ k_ ≠ gb166)) (by (with_reducible repeat (first | apply Kd.R_alloc | apply Kd.R_drewN | apply Kd.R_drew)); exact Kd.R_mono HO_6.out (fun _ hk => ⟨⟨hk.2, ⟨hk.1.1.1, hk.1.1.2⟩⟩, hk.1.2⟩)) hg hat)
                   have n1_ := Am (blk_grown (g := gb157) (o := .cells #[.int .i64 a1_0, .int .i64 a1_1] 26 (0, 0)) (by (with_reducible repeat (first | refine kN ?_ _ | refine kD ?_ | refine kA ?_ _)); exact BK157.out) hg (Kd.R_away HO171.out (fun _ hk => hk.1.1.2)))
                   have n2_ := Am (blk_grown (g := gb161) (o := .cells #[.int .i64 ((rd_T30 l0 x28_2).f0.f0), .int .i64 ((rd_T30 l0 x28_2).f0.f1), .int .i64 ((rd_T30 l0 x28_2).f1)] 30 (0, 0)) (by (with_reducible repeat (first | refine kN ?_ _ | refine kD ?_ | refine kA ?_ _)); exact BK161.out) hg (Kd.R_ne HO171.out BK161.out (by decide)))
                   have n3_ := Am (blk_grown (g := gb166) (o := .cells #[.int .i64 t163, .int .i64 t164] 26 (0, 0)) (by (with_reducible repeat (first | refine kN ?_ _ | refine kD ?_ | refine kA ?_ _)); exact BK166.out) hg (Kd.R_away HO171.out (fun _ hk => hk.1.2)))
                   have n4_ := Am (Kd.R_after (ok := (fun k_ => some k_ ≠ (.slice (some ad167) x6_2.length co44 : Value).ownBlock ∧ k_ ≠ gb157 ∧ k_ ≠ gb166)) (by (with_reducible repeat (first | apply Kd.R_alloc | apply Kd.R_drewN | apply Kd.R_drew)); exact Kd.R_mono HO181.out (fun _ hk => ⟨⟨hk.1.1.1.2, ⟨hk.1.2, hk.2⟩⟩, hk.1.1.2⟩)) hg hat)
                   have n5_ := Am (hb)
                   have n6_ := Am ((show Kd.C k26 w52 (some ad167) y172.length y172 from by rw [Ny172.out]; exact Kd.C_take (m := (x11_3 : Int).toNat) ((Kd.R_reads' (Kd.R_after (ok := (fun k_ => some k_ ≠ (v180 : Value).ownBlock ∧ k_ ≠ gb157 ∧ k_ ≠ gb166)) (by (with_reducible repeat (first | apply Kd.R_alloc | apply Kd.R_drewN | apply Kd.R_drew)); exact Kd.R_mono HO_6.out (fun _ hk => ⟨⟨hk.2, ⟨hk.1.1.1, hk.1.1.2⟩⟩, hk.1.2⟩)) hg hat)).2.2) KL47.out))
                   have n7_ := Am (ho)
                   clear HO_6 BK157 BK161 BK166 HO181 HB HR175 HO171
                   have HO_6 := n0_; have BK157 := n1_; have BK161 := n2_; have BK166 := n3_; have HO181 := n4_; have HB := n5_; have HR175 := n6_; have HO178 := n7_
                   clear n0_ n1_ n2_ n3_ n4_ n5_ n6_ n7_ ho hb hg hat
                   refine hK.out _ _ ⟨c20 BK166.out, c21 BK166.out⟩ (fun hHeld => ?_)
                   clear hK K
                   refine norm_ (a' := ?_) ?_ ?_
                   rotate_left
                   ·show Act.put _ (some 62) _ = _
                    simp only [Act.put, List.setIfInBounds_toArray, List.set_cons_zero, List.set_cons_succ, i64_w, i32_w]
                    rfl
                   exact norm_ (by simp only [putAll, Act.put, List.setIfInBounds_toArray, List.set_cons_zero, List.set_cons_succ]) (hCont (v170, v177, v180) _ ⟨hHeld, (by (with_reducible repeat (first | apply Kd.R_alloc | apply Kd.R_drewN | apply Kd.R_drew)); exact Kd.R_mono HO178.out (fun _ hk => ⟨hk.2.1, ⟨hk.1, ⟨hk.2.2.1, hk.2.2.2⟩⟩⟩)), (by (with_reducible repeat (first | apply Kd.R_alloc | apply Kd.R_drewN | apply Kd.R_drew)); exact Kd.R_mono HO181.out (fun _ hk => ⟨hk.2, ⟨hk.1.1, ⟨hk.1.2.1, hk.1.2.2⟩⟩⟩)), (by (with_reducible repeat (first | apply Kd.R_alloc | apply Kd.R_drewN | apply Kd.R_drew)); exact Kd.R_mono HO_6.out (fun _ hk => ⟨hk.2, ⟨hk.1.1, ⟨hk.1.2.1, hk.1.2.2⟩⟩⟩)), (by (with_reducible repeat (first | refine kN ?_ _ | refine kD ?_ | refine kA ?_ _)); exact BK157.out), (by (with_reducible repeat (first | refine kN ?_ _ | refine kD ?_ | refine kA ?_ _)); exact BK161.out), (by (with_reducible repeat (first | refine kN ?_ _ | refine kD ?_ | refine kA ?_ _)); exact BK166.out), (by repeat (first | (with_reducible first | exact HB.out | apply bA | apply bN | apply bD | refine bX ?_ (by assumption)) | exact HB.out))⟩)
                  skip
                  refine Kd.R_lit_step k26 _ 26 ?hg (N := 64) ?hd (xs := ([(⟨t163, t164⟩ : S26)] : List (S26))) (inner := [.int .i64 t163, .int .i64 t164]) (ok := fun _ => True) (okp := fun _ => True) ?hr ?hp (fun _ hk => hk) trivial (Below.refl _ _) (Nat.le_refl _) (by simp) ?_; (case hd => rfl); (case hg => rfl); (case hr => first | (go_simp; done) | (go_simp; rfl)); (case hp => exact (Reps.c2 (show Kd.M k26 _ _ _ (⟨t163, t164⟩ : S26) [.int .i64 t163, .int .i64 t164] from (k26_mkM _ _ _ (⟨t163, t164⟩ : S26) )) (Reps.none _ _)))
                  intro v180 w48 ho49 hb hg_ hnew_
                  clear hg_ hnew_
                  (first | rw [← Ny179.out] at ho49 | (simp only [Int.reduceToNat] at ho49; rw [← Ny179.out] at ho49))
                  have n0_ := Am (Kd.R_elder' (by (with_reducible repeat (first | apply Kd.R_alloc | apply Kd.R_drewN | apply Kd.R_drew)); exact HO_6.out) (Kd.R_base ho49) hb)
                  have n1_ := Am (Kd.R_lower (Kd.R_newB (Kd.R_newB (Kd.R_new' ho49 (Kd.R_lt (by (with_reducible repeat (first | apply Kd.R_alloc | apply Kd.R_drewN | apply Kd.R_drew)); exact HO_6.out))) (g := gb157) (o := .cells #[.int .i64 a1_0, .int .i64 a1_1] 26 (0, 0)) (by (with_reducible repeat (first | refine kN ?_ _ | refine kD ?_ | refine kA ?_ _)); exact BK157.out)) (g := gb166) (o := .cells #[.int .i64 t163, .int .i64 t164] 26 (0, 0)) (by (with_reducible repeat (first | refine kN ?_ _ | refine kD ?_ | refine kA ?_ _)); exact BK166.out)) (bZ (by repeat (first | (with_reducible first | exact HB.out | apply bA | apply bN | apply bD | refine bX ?_ (by assumption)) | exact HB.out))))
                  have hp0 := hpA BK157.out hb (fun _ _ h_ => by (with_reducible repeat (first | refine kN ?_ _ | refine kD ?_ | refine kA ?_ _)); exact h_)
                  have n5_ := Am (Kd.C_below (by repeat (first | (with_reducible exact HR175.out) | (with_reducible refine Kd.C_alloc ?_ _) | (with_reducible refine Kd.C_drewN ?_ _) | (with_reducible refine Kd.C_drew ?_) | exact HR175.out)) hb)
                  have hv := hvK (w := w) hb (by repeat (first | (with_reducible first | exact HB.out | apply bA | apply bN | apply bD | refine bX ?_ (by assumption)) | exact HB.out))
                  have n6_ := Am (bT hv hb)
                  clear HO_6 HR175 HB
                  have HO_6 := n0_; have HO181 := n1_
                  replace BK157 := hp0 BK157; replace BK161 := hp0 BK161; replace BK166 := hp0 BK166
                  have HR175 := n5_; have HB := n6_
                  clear n0_ n1_ n5_ n6_ hp0 hv hb ho49
                  refine hK.out _ _ ⟨c20 BK166.out, c21 BK166.out⟩ (fun hHeld => ?_)
                  clear hK K
                  refine norm_ (a' := ?_) ?_ ?_
                  rotate_left
                  ·show Act.put _ (some 64) _ = _
                   simp only [Act.put, List.setIfInBounds_toArray, List.set_cons_zero, List.set_cons_succ, i64_w, i32_w]
                   rfl
                  refine one_ (i := 0) (N := some 58) #[true, true, true, true, false, true, true, false, false] rfl rfl (one_of HT_.out (by kernel_rfl)) (by decide) (fun K hK => ?_)
                  refine Kd.R_lit_step k26 _ 26 ?hg (N := 58) ?hd (xs := ([] : List (S26))) (inner := []) (ok := fun _ => True) (okp := fun _ => True) ?hr ?hp (fun _ hk => hk) trivial (Below.refl _ _) (Nat.le_refl _) (by simp) ?_; (case hd => rfl); (case hg => rfl); (case hr => first | (go_simp; done) | (go_simp; rfl)); (case hp => exact (Reps.none _ _))
                  intro v170 w50 ho51 hb hg_ hnew_
                  clear hg_ hnew_
                  (first | rw [← Ny169.out] at ho51 | (simp only [Int.reduceToNat] at ho51; rw [← Ny169.out] at ho51))
                  have n0_ := Am (Kd.R_elder' (by (with_reducible repeat (first | apply Kd.R_alloc | apply Kd.R_drewN | apply Kd.R_drew)); exact HO_6.out) (Kd.R_base ho51) hb)
                  have n1_ := Am (Kd.R_elder' (by (with_reducible repeat (first | apply Kd.R_alloc | apply Kd.R_drewN | apply Kd.R_drew)); exact HO181.out) (Kd.R_base ho51) hb)
                  have n2_ := Am (Kd.R_lower (Kd.R_newB (Kd.R_newB (Kd.R_new' (Kd.R_new' ho51 (Kd.R_lt (by (with_reducible repeat (first | apply Kd.R_alloc | apply Kd.R_drewN | apply Kd.R_drew)); exact HO_6.out))) (Kd.R_lt (by (with_reducible repeat (first | apply Kd.R_alloc | apply Kd.R_drewN | apply Kd.R_drew)); exact HO181.out))) (g := gb157) (o := .cells #[.int .i64 a1_0, .int .i64 a1_1] 26 (0, 0)) (by (with_reducible repeat (first | refine kN ?_ _ | refine kD ?_ | refine kA ?_ _)); exact BK157.out)) (g := gb166) (o := .cells #[.int .i64 t163, .int .i64 t164] 26 (0, 0)) (by (with_reducible repeat (first | refine kN ?_ _ | refine kD ?_ | refine kA ?_ _)); exact BK166.out)) (bZ (by repeat (first | (with_reducible first | exact HB.out | apply bA | apply bN | apply bD | refine bX ?_ (by assumption)) | exact HB.out))))
                  have hp0 := hpA BK157.out hb (fun _ _ h_ => by (with_reducible repeat (first | refine kN ?_ _ | refine kD ?_ | refine kA ?_ _)); exact h_)
                  have n6_ := Am (Kd.C_below (by repeat (first | (with_reducible exact HR175.out) | (with_reducible refine Kd.C_alloc ?_ _) | (with_reducible refine Kd.C_drewN ?_ _) | (with_reducible refine Kd.C_drew ?_) | exact HR175.out)) hb)
                  have hv := hvK (w := w) hb (by repeat (first | (with_reducible first | exact HB.out | apply bA | apply bN | apply bD | refine bX ?_ (by assumption)) | exact HB.out))
                  have n7_ := Am (bT hv hb)
                  clear HO_6 HO181 HR175 HB
                  have HO_6 := n0_; have HO181 := n1_; have HO171 := n2_
                  replace BK157 := hp0 BK157; replace BK161 := hp0 BK161; replace BK166 := hp0 BK166
                  have HR175 := n6_; have HB := n7_
                  clear n0_ n1_ n2_ n6_ n7_ hp0 hv hb ho51
                  refine hK.out _ _ ⟨c20 BK166.out, c21 BK166.out⟩ (fun hHeld => ?_)
                  clear hK K
                  refine norm_ (a' := ?_) ?_ ?_
                  rotate_left
                  ·show Act.put _ (some 58) _ = _
                   simp only [Act.put, List.setIfInBounds_toArray, List.set_cons_zero, List.set_cons_succ, i64_w, i32_w]
                   rfl
                  refine one_ (i := 4) (N := some 62) (pT 9 7) rfl rfl (one_of HT_.out (by kernel_rfl)) (by decide) (fun K hK => ?_)
                  refine Kd.R_append_rows_step k26 (w0 := w) w.heap.size (by rfl) (.tmp 58) (.tmp 61) 35 26 (.agg #[(.int .i64 0), (.int .i64 0)]) 16 rfl Try.underlying35 info26 rfl (by decide) (by omega) v170 y169 y172 _ _ _ (fun k_ => some k_ ≠ (.slice (some ad167) x6_2.length co44 : Value).ownBlock ∧ some k_ ≠ (v180 : Value).ownBlock ∧ k_ ≠ gb157 ∧ k_ ≠ gb166) (fun _ => False) rfl rfl ?aO ?aR (fun _ _ h => h) (fun _ h => h.elim) ?aF ?aB ?aS ?aL ?_
                  (case aR => repeat (first | exact (by repeat (first | (with_reducible exact HR175.out) | (with_reducible refine Kd.C_alloc ?_ _) | (with_reducible refine Kd.C_drewN ?_ _) | (with_reducible refine Kd.C_drew ?_) | exact HR175.out)) | (with_reducible refine Kd.C_alloc ?_ _) | (with_reducible refine Kd.C_drewN ?_ _) | (with_reducible refine Kd.C_drew ?_)))
                  (case aB => exact (by repeat (first | (with_reducible first | exact HB.out | apply bA | apply bN | apply bD | refine bX ?_ (by assumption)) | exact HB.out)))
                  (case aF => exact (fun k_ hk => ⟨Kd.fresh' (Kd.R_lt (by (with_reducible repeat (first | apply Kd.R_alloc | apply Kd.R_drewN | apply Kd.R_drew)); exact HO_6.out)) k_ hk, Kd.fresh' (Kd.R_lt (by (with_reducible repeat (first | apply Kd.R_alloc | apply Kd.R_drewN | apply Kd.R_drew)); exact HO181.out)) k_ hk, Kd.freshB (g := gb157) (o := .cells #[.int .i64 a1_0, .int .i64 a1_1] 26 (0, 0)) (by (with_reducible repeat (first | refine kN ?_ _ | refine kD ?_ | refine kA ?_ _)); exact BK157.out) k_ hk, Kd.freshB (g := gb166) (o := .cells #[.int .i64 t163, .int .i64 t164] 26 (0, 0)) (by (with_reducible repeat (first | refine kN ?_ _ | refine kD ?_ | refine kA ?_ _)); exact BK166.out) k_ hk⟩))
                  (case aO => exact (by (with_reducible repeat (first | apply Kd.R_alloc | apply Kd.R_drewN | apply Kd.R_drew)); exact Kd.R_mono HO171.out (fun _ hk => ⟨hk.1.1.1.2, ⟨hk.1.1.2, ⟨hk.1.2, hk.2⟩⟩⟩)))
                  (case aS => exact (bZ (by repeat (first | (with_reducible first | exact HB.out | apply bA | apply bN | apply bD | refine bX ?_ (by assumption)) | exact HB.out))))
                  (case aL => have := LMc38.out; omega)
                  intro v177 w52 ho hb hg hat
                  rw [← Ny176.out] at ho
                  have n0_ := Am (Kd.R_after (ok := (fun k_ => some k_ ≠ (v180 : Value).ownBlock ∧ k_ ≠ gb157 ∧ k_ ≠ gb166)) (by (with_reducible repeat (first | apply Kd.R_alloc | apply Kd.R_drewN | apply Kd.R_drew)); exact Kd.R_mono HO_6.out (fun _ hk => ⟨⟨hk.1.2, ⟨hk.1.1.1, hk.1.1.2⟩⟩, hk.2⟩)) hg hat)
                  have n1_ := Am (blk_grown (g := gb157) (o := .cells #[.int .i64 a1_0, .int .i64 a1_1] 26 (0, 0)) (by (with_reducible repeat (first | refine kN ?_ _ | refine kD ?_ | refine kA ?_ _)); exact BK157.out) hg (Kd.R_away HO171.out (fun _ hk => hk.1.2)))
                  have n2_ := Am (blk_grown (g := gb161) (o := .cells #[.int .i64 ((rd_T30 l0 x28_2).f0.f0), .int .i64 ((rd_T30 l0 x28_2).f0.f1), .int .i64 ((rd_T30 l0 x28_2).f1)] 30 (0, 0)) (by (with_reducible repeat (first | refine kN ?_ _ | refine kD ?_ | refine kA ?_ _)); exact BK161.out) hg (Kd.R_ne HO171.out BK161.out (by decide)))
                  have n3_ := Am (blk_grown (g := gb166) (o := .cells #[.int .i64 t163, .int .i64 t164] 26 (0, 0)) (by (with_reducible repeat (first | refine kN ?_ _ | refine kD ?_ | refine kA ?_ _)); exact BK166.out) hg (Kd.R_away HO171.out (fun _ hk => hk.2)))
                  have n4_ := Am (Kd.R_after (ok := (fun k_ => some k_ ≠ (.slice (some ad167) x6_2.length co44 : Value).ownBlock ∧ k_ ≠ gb157 ∧ k_ ≠ gb166)) (by (with_reducible repeat (first | apply Kd.R_alloc | apply Kd.R_drewN | apply Kd.R_drew)); exact Kd.R_mono HO181.out (fun _ hk => ⟨⟨hk.1.1.1.2, ⟨hk.1.1.2, hk.1.2⟩⟩, hk.2⟩)) hg hat)
                  have n5_ := Am (hb)
                  have n6_ := Am ((show Kd.C k26 w52 (some ad167) y172.length y172 from by rw [Ny172.out]; exact Kd.C_take (m := (x11_3 : Int).toNat) ((Kd.R_reads' (Kd.R_after (ok := (fun k_ => some k_ ≠ (v180 : Value).ownBlock ∧ k_ ≠ gb157 ∧ k_ ≠ gb166)) (by (with_reducible repeat (first | apply Kd.R_alloc | apply Kd.R_drewN | apply Kd.R_drew)); exact Kd.R_mono HO_6.out (fun _ hk => ⟨⟨hk.1.2, ⟨hk.1.1.1, hk.1.1.2⟩⟩, hk.2⟩)) hg hat)).2.2) KL47.out))
                  have n7_ := Am (ho)
                  clear HO_6 BK157 BK161 BK166 HO181 HB HR175 HO171
                  have HO_6 := n0_; have BK157 := n1_; have BK161 := n2_; have BK166 := n3_; have HO181 := n4_; have HB := n5_; have HR175 := n6_; have HO178 := n7_
                  clear n0_ n1_ n2_ n3_ n4_ n5_ n6_ n7_ ho hb hg hat
                  refine hK.out _ _ ⟨c20 BK166.out, c21 BK166.out⟩ (fun hHeld => ?_)
                  clear hK K
                  refine norm_ (a' := ?_) ?_ ?_
                  rotate_left
                  ·show Act.put _ (some 62) _ = _
                   simp only [Act.put, List.setIfInBounds_toArray, List.set_cons_zero, List.set_cons_succ, i64_w, i32_w]
                   rfl
                  exact norm_ (by simp only [putAll, Act.put, List.setIfInBounds_toArray, List.set_cons_zero, List.set_cons_succ]) (hCont (v170, v177, v180) _ ⟨hHeld, (by (with_reducible repeat (first | apply Kd.R_alloc | apply Kd.R_drewN | apply Kd.R_drew)); exact Kd.R_mono HO178.out (fun _ hk => ⟨hk.2.1, ⟨hk.1, ⟨hk.2.2.1, hk.2.2.2⟩⟩⟩)), (by (with_reducible repeat (first | apply Kd.R_alloc | apply Kd.R_drewN | apply Kd.R_drew)); exact Kd.R_mono HO181.out (fun _ hk => ⟨hk.2, ⟨hk.1.1, ⟨hk.1.2.1, hk.1.2.2⟩⟩⟩)), (by (with_reducible repeat (first | apply Kd.R_alloc | apply Kd.R_drewN | apply Kd.R_drew)); exact Kd.R_mono HO_6.out (fun _ hk => ⟨hk.2, ⟨hk.1.1, ⟨hk.1.2.1, hk.1.2.2⟩⟩⟩)), (by (with_reducible repeat (first | refine kN ?_ _ | refine kD ?_ | refine kA ?_ _)); exact BK157.out), (by (with_reducible repeat (first | refine kN ?_ _ | refine kD ?_ | refine kA ?_ _)); exact BK161.out), (by (with_reducible repeat (first | refine kN ?_ _ | refine kD ?_ | refine kA ?_ _)); exact BK166.out), (by repeat (first | (with_reducible first | exact HB.out | apply bA | apply bN | apply bD | refine bX ?_ (by assumption)) | exact HB.out))⟩)
                 rintro ⟨v170, v177, v180⟩ w53 ⟨hS_, h0_, h1_, h2_, h3_, h4_, h5_, h6_⟩
                 have n0_ : Aside0 (Kd.R k26 26 w53 w.heap.size (fun k_ => some k_ ≠ (v180 : Value).ownBlock ∧ some k_ ≠ (.slice (some ad167) x6_2.length co44 : Value).ownBlock ∧ k_ ≠ gb157 ∧ k_ ≠ gb166) v177 y176) := ⟨h0_⟩
                 have n1_ : Aside0 (Kd.R k26 26 w53 w.heap.size (fun k_ => some k_ ≠ (v177 : Value).ownBlock ∧ some k_ ≠ (.slice (some ad167) x6_2.length co44 : Value).ownBlock ∧ k_ ≠ gb157 ∧ k_ ≠ gb166) v180 y179) := ⟨h1_⟩
                 have n2_ : Aside0 (Kd.R k26 26 w53 w.heap.size (fun k_ => some k_ ≠ (v177 : Value).ownBlock ∧ some k_ ≠ (v180 : Value).ownBlock ∧ k_ ≠ gb157 ∧ k_ ≠ gb166) (.slice (some ad167) x6_2.length co44) x6_2) := ⟨h2_⟩
                 have n3_ : Aside0 (w53.heap[gb157]? = some (.cells #[.int .i64 a1_0, .int .i64 a1_1] 26 (0, 0))) := ⟨h3_⟩
                 have n4_ : Aside0 (w53.heap[gb161]? = some (.cells #[.int .i64 ((rd_T30 l0 x28_2).f0.f0), .int .i64 ((rd_T30 l0 x28_2).f0.f1), .int .i64 ((rd_T30 l0 x28_2).f1)] 30 (0, 0))) := ⟨h4_⟩
                 have n5_ : Aside0 (w53.heap[gb166]? = some (.cells #[.int .i64 t163, .int .i64 t164] 26 (0, 0))) := ⟨h5_⟩
                 have n6_ : Aside0 (Below w.heap.size w w53) := ⟨h6_⟩
                 clear HO_6 BK157 BK161 BK166 HB h0_ h1_ h2_ h3_ h4_ h5_ h6_
                 have HO178 := n0_; have HO181 := n1_; have HO_6 := n2_; have BK157 := n3_; have BK161 := n4_; have BK166 := n5_; have HB := n6_
                 clear n0_ n1_ n2_ n3_ n4_ n5_ n6_
                 have hHeld : w53.cell? ⟨gb166, 0, none⟩ = some (.int .i64 t163) ∧ w53.cell? ⟨gb166, 1, none⟩ = some (.int .i64 t164) := hS_
                 obtain ⟨Ao55, co55, eo55⟩ := Kd.R_slice HO181.out
                 (first | subst eo55 | (injection eo55 with f1_ f2_ f3_; have f4_ := f1_.symm; have f5_ := f3_.symm; clear f1_ f2_ f3_; subst f4_; subst f5_))
                 refine norm_ (a' := ?_) ?_ ?_
                 rotate_left
                 ·simp only [putAll, Act.put, List.setIfInBounds_toArray, List.set_cons_zero, List.set_cons_succ]
                  rfl
                 refine one_ (i := 7) (N := some 65) (pT 9 8) rfl rfl (one_of HT_.out (by kernel_rfl)) (by decide) (fun K hK => ?_)
                 refine Kd.R_append_rows_step k26 (w0 := w) w.heap.size (by rfl) (.tmp 62) (.tmp 64) 35 26 (.agg #[(.int .i64 0), (.int .i64 0)]) 16 rfl Try.underlying35 info26 rfl (by decide) (by omega) v177 y176 y179 _ _ _ (fun k_ => some k_ ≠ (.slice (some ad167) x6_2.length co44 : Value).ownBlock ∧ some k_ ≠ (.slice Ao55 y179.length co55 : Value).ownBlock ∧ k_ ≠ gb157 ∧ k_ ≠ gb166) (fun _ => False) rfl rfl ?aO ?aR (fun _ _ h => h) (fun _ h => h.elim) ?aF ?aB ?aS ?aL ?_
                 (case aR => repeat (first | exact (Kd.R_reads' HO181.out).2.2 | (with_reducible refine Kd.C_alloc ?_ _) | (with_reducible refine Kd.C_drewN ?_ _) | (with_reducible refine Kd.C_drew ?_)))
                 (case aB => exact (by repeat (first | (with_reducible first | exact HB.out | apply bA | apply bN | apply bD | refine bX ?_ (by assumption)) | exact HB.out)))
                 (case aF => exact (fun k_ hk => ⟨Kd.fresh' (Kd.R_lt (by (with_reducible repeat (first | apply Kd.R_alloc | apply Kd.R_drewN | apply Kd.R_drew)); exact HO_6.out)) k_ hk, Kd.fresh' (Kd.R_lt (by (with_reducible repeat (first | apply Kd.R_alloc | apply Kd.R_drewN | apply Kd.R_drew)); exact HO181.out)) k_ hk, Kd.freshB (g := gb157) (o := .cells #[.int .i64 a1_0, .int .i64 a1_1] 26 (0, 0)) (by (with_reducible repeat (first | refine kN ?_ _ | refine kD ?_ | refine kA ?_ _)); exact BK157.out) k_ hk, Kd.freshB (g := gb166) (o := .cells #[.int .i64 t163, .int .i64 t164] 26 (0, 0)) (by (with_reducible repeat (first | refine kN ?_ _ | refine kD ?_ | refine kA ?_ _)); exact BK166.out) k_ hk⟩))
                 (case aO => exact (by (with_reducible repeat (first | apply Kd.R_alloc | apply Kd.R_drewN | apply Kd.R_drew)); exact Kd.R_mono HO178.out (fun _ hk => ⟨hk.2.1, ⟨hk.1, ⟨hk.2.2.1, hk.2.2.2⟩⟩⟩)))
                 (case aS => exact (bZ (by repeat (first | (with_reducible first | exact HB.out | apply bA | apply bN | apply bD | refine bX ?_ (by assumption)) | exact HB.out))))
                 (case aL => have := LMc39.out; omega)
                 intro v183 w54 ho hb hg hat
                 rw [← Ny182.out] at ho
                 have n0_ := Am (Kd.R_after (ok := (fun k_ => some k_ ≠ (.slice Ao55 y179.length co55 : Value).ownBlock ∧ k_ ≠ gb157 ∧ k_ ≠ gb166)) (by (with_reducible repeat (first | apply Kd.R_alloc | apply Kd.R_drewN | apply Kd.R_drew)); exact Kd.R_mono HO_6.out (fun _ hk => ⟨⟨hk.2.1, ⟨hk.2.2.1, hk.2.2.2⟩⟩, hk.1⟩)) hg hat)
                 have n1_ := Am (blk_grown (g := gb157) (o := .cells #[.int .i64 a1_0, .int .i64 a1_1] 26 (0, 0)) (by (with_reducible repeat (first | refine kN ?_ _ | refine kD ?_ | refine kA ?_ _)); exact BK157.out) hg (Kd.R_away HO178.out (fun _ hk => hk.2.2.1)))
                 have n2_ := Am (blk_grown (g := gb161) (o := .cells #[.int .i64 ((rd_T30 l0 x28_2).f0.f0), .int .i64 ((rd_T30 l0 x28_2).f0.f1), .int .i64 ((rd_T30 l0 x28_2).f1)] 30 (0, 0)) (by (with_reducible repeat (first | refine kN ?_ _ | refine kD ?_ | refine kA ?_ _)); exact BK161.out) hg (Kd.R_ne HO178.out BK161.out (by decide)))
                 have n3_ := Am (blk_grown (g := gb166) (o := .cells #[.int .i64 t163, .int .i64 t164] 26 (0, 0)) (by (with_reducible repeat (first | refine kN ?_ _ | refine kD ?_ | refine kA ?_ _)); exact BK166.out) hg (Kd.R_away HO178.out (fun _ hk => hk.2.2.2)))
                 have n4_ := Am (Kd.R_after (ok := (fun k_ => some k_ ≠ (.slice (some ad167) x6_2.length co44 : Value).ownBlock ∧ k_ ≠ gb157 ∧ k_ ≠ gb166)) (by (with_reducible repeat (first | apply Kd.R_alloc | apply Kd.R_drewN | apply Kd.R_drew)); exact Kd.R_mono HO181.out (fun _ hk => ⟨⟨hk.2.1, ⟨hk.2.2.1, hk.2.2.2⟩⟩, hk.1⟩)) hg hat)
                 have n5_ := Am (hb)
                 have n6_ := Am (ho)
                 clear HO_6 BK157 BK161 BK166 HO181 HB HO178
                 have HO_6 := n0_; have BK157 := n1_; have BK161 := n2_; have BK166 := n3_; have HO181 := n4_; have HB := n5_; have HO184 := n6_
                 clear n0_ n1_ n2_ n3_ n4_ n5_ n6_ ho hb hg hat
                 refine hK.out _ _ ⟨c20 BK166.out, c21 BK166.out⟩ (fun hHeld => ?_)
                 clear hK K
                 refine norm_ (a' := ?_) ?_ ?_
                 rotate_left
                 ·show Act.put _ (some 65) _ = _
                  simp only [Act.put, List.setIfInBounds_toArray, List.set_cons_zero, List.set_cons_succ, i64_w, i32_w]
                  rfl
                 refine pI (v := ?_) (a' := ?_) rfl (any_of HT_.out (by kernel_rfl)) (fun _ _ _ h => h) (Or.inl ⟨by rfl, ?_⟩) ?_ ?_
                 rotate_left
                 ·intro w'
                  go_simp
                  with_reducible rfl
                 rotate_left
                 ·show Act.put _ (some _) _ = _
                  simp only [Act.put, List.setIfInBounds_toArray, List.set_cons_zero, List.set_cons_succ, i64_w, i32_w]
                  rfl
                 refine done_ (done_of HT_.out (by kernel_rfl)) ?_
                 have q56 : (x11_3 : Int) ≤ ((x6_2.length : Int) : Int) := of_decide_eq_true (by first | (with_reducible assumption) | assumption)
                 obtain ⟨i056, hi056, _, hsz56, _⟩ := info_parts info26
                 have hroom56 : x6_2.length ≤ co44 := (Kd.R_reads' HO_6.out).2.1
                 have hC56 : Kd.C k26 _ (some ad167) x6_2.length x6_2 := (Kd.R_reads' HO_6.out).2.2
                 have q056 : (0 : Int) ≤ (x11_3 : Int) := of_decide_eq_true (by first | (with_reducible assumption) | assumption)
                 have hcut56 := cut_from (P := Try.prog) 35 26 .i64 Try.underlying35 hi056 2 hsz56 (some ad167) x6_2.length co44 x11_3 q056 q56
                 have hr56 := Kd.C_drop (m := (x11_3 : Int).toNat) (c := co44) hC56 (by omega) hroom56
                 obtain ⟨A56, hA56⟩ : ∃ A1, A1 = (if co44 = (x11_3 : Int).toNat then (some ad167) else ((some ad167) : Option Addr).map (·.add ((x11_3 : Int).toNat * 2))) := ⟨_, rfl⟩
                 obtain ⟨c56, hc56⟩ : ∃ c1, c1 = co44 - (x11_3 : Int).toNat := ⟨_, rfl⟩
                 have hy56 : y185.length = x6_2.length - (x11_3 : Int).toNat := (by rw [Ny185.out, List.length_drop] <;> omega)
                 rw [show (x6_2).drop (x11_3 : Int).toNat = y185 from Ny185.out.symm] at hr56
                 replace hr56 : Kd.C k26 _ A56 y185.length y185 := (by rw [hA56]; exact hr56)
                 rw [← hy56, ← hA56, ← hc56] at hcut56
                 have HR188 := Am hr56
                 have HC188 := Am (show y185.length ≤ c56 from by rw [hy56, hc56]; exact Nat.sub_le_sub_right hroom56 _)
                 clear hr56 hC56 hroom56 hi056 hsz56 hc56
                 have KY56 := Am hy56
                 have KA56 := Am hA56
                 clear hy56 hA56
                 have KL56 := Am (show (x11_3 : Int).toNat ≤ x6_2.length from by omega)
                 replace q56 := eq_true q56
                 try go_wp2_with (first | ((with_reducible refine gate_builtin (b := .append) (xs := #[.tmp 66, .tmp 69]) rfl ?_); at_builtin; refine Kd.R_append_rows k26 (w0 := w) w.heap.size rfl (.tmp 66) (.tmp 69) 35 26 (.agg #[(.int .i64 0), (.int .i64 0)]) 16 rfl Try.underlying35 info26 rfl (by decide) (by omega) v183 y182 y185 _ _ _ (fun k_ => some k_ ≠ (.slice (some ad167) x6_2.length co44 : Value).ownBlock ∧ some k_ ≠ (.slice Ao55 y179.length co55 : Value).ownBlock ∧ k_ ≠ gb157 ∧ k_ ≠ gb166) (fun _ => False) rfl rfl ?aO ?aR (fun _ _ h => h) (fun _ h => h.elim) ?aF ?aB ?aS ?aL ?_; (case aR => repeat (first | exact (by repeat (first | (with_reducible exact HR188.out) | (with_reducible refine Kd.C_alloc ?_ _) | (with_reducible refine Kd.C_drewN ?_ _) | (with_reducible refine Kd.C_drew ?_) | exact HR188.out)) | (with_reducible refine Kd.C_alloc ?_ _) | (with_reducible refine Kd.C_drewN ?_ _) | (with_reducible refine Kd.C_drew ?_))); (case aB => exact (by repeat (first | (with_reducible first | exact HB.out | apply bA | apply bN | apply bD | refine bX ?_ (by assumption)) | exact HB.out))); (case aF => exact (fun k_ hk => ⟨Kd.fresh' (Kd.R_lt (by (with_reducible repeat (first | apply Kd.R_alloc | apply Kd.R_drewN | apply Kd.R_drew)); exact HO_6.out)) k_ hk, Kd.fresh' (Kd.R_lt (by (with_reducible repeat (first | apply Kd.R_alloc | apply Kd.R_drewN | apply Kd.R_drew)); exact HO181.out)) k_ hk, Kd.freshB (g := gb157) (o := .cells #[.int .i64 a1_0, .int .i64 a1_1] 26 (0, 0)) (by (with_reducible repeat (first | refine kN ?_ _ | refine kD ?_ | refine kA ?_ _)); exact BK157.out) k_ hk, Kd.freshB (g := gb166) (o := .cells #[.int .i64 t163, .int .i64 t164] 26 (0, 0)) (by (with_reducible repeat (first | refine kN ?_ _ | refine kD ?_ | refine kA ?_ _)); exact BK166.out) k_ hk⟩)); (case aO => exact (by (with_reducible repeat (first | apply Kd.R_alloc | apply Kd.R_drewN | apply Kd.R_drew)); exact HO184.out)); (case aS => exact (bZ (by repeat (first | (with_reducible first | exact HB.out | apply bA | apply bN | apply bD | refine bX ?_ (by assumption)) | exact HB.out)))); (case aL => have := LMc42.out; omega); intro v190 w57 ho hb hg hat; rw [← Ny189.out] at ho; have n0_ := Am (Kd.R_after (ok := (fun k_ => some k_ ≠ (.slice Ao55 y179.length co55 : Value).ownBlock ∧ k_ ≠ gb157 ∧ k_ ≠ gb166)) (by (with_reducible repeat (first | apply Kd.R_alloc | apply Kd.R_drewN | apply Kd.R_drew)); exact HO_6.out) hg hat); have n1_ := Am (blk_grown (g := gb157) (o := .cells #[.int .i64 a1_0, .int .i64 a1_1] 26 (0, 0)) (by (with_reducible repeat (first | refine kN ?_ _ | refine kD ?_ | refine kA ?_ _)); exact BK157.out) hg (Kd.R_away HO184.out (fun _ hk => hk.2.2.1))); have n2_ := Am (blk_grown (g := gb161) (o := .cells #[.int .i64 ((rd_T30 l0 x28_2).f0.f0), .int .i64 ((rd_T30 l0 x28_2).f0.f1), .int .i64 ((rd_T30 l0 x28_2).f1)] 30 (0, 0)) (by (with_reducible repeat (first | refine kN ?_ _ | refine kD ?_ | refine kA ?_ _)); exact BK161.out) hg (Kd.R_ne HO184.out BK161.out (by decide))); have n3_ := Am (blk_grown (g := gb166) (o := .cells #[.int .i64 t163, .int .i64 t164] 26 (0, 0)) (by (with_reducible repeat (first | refine kN ?_ _ | refine kD ?_ | refine kA ?_ _)); exact BK166.out) hg (Kd.R_away HO184.out (fun _ hk => hk.2.2.2))); have n4_ := Am (Kd.R_after (ok := (fun k_ => some k_ ≠ (.slice (some ad167) x6_2.length co44 : Value).ownBlock ∧ k_ ≠ gb157 ∧ k_ ≠ gb166)) (by (with_reducible repeat (first | apply Kd.R_alloc | apply Kd.R_drewN | apply Kd.R_drew)); exact HO181.out) hg hat); have n5_ := Am (hb); have n6_ := Am ((show Kd.C k26 w57 A56 y185.length y185 from by rw [Ny185.out, KA56.out]; exact Kd.C_drop (m := (x11_3 : Int).toNat) (c := co44) ((Kd.R_reads' (Kd.R_after (ok := (fun k_ => some k_ ≠ (.slice Ao55 y179.length co55 : Value).ownBlock ∧ k_ ≠ gb157 ∧ k_ ≠ gb166)) (by (with_reducible repeat (first | apply Kd.R_alloc | apply Kd.R_drewN | apply Kd.R_drew)); exact HO_6.out) hg hat)).2.2) KL56.out ((Kd.R_reads' (Kd.R_after (ok := (fun k_ => some k_ ≠ (.slice Ao55 y179.length co55 : Value).ownBlock ∧ k_ ≠ gb157 ∧ k_ ≠ gb166)) (by (with_reducible repeat (first | apply Kd.R_alloc | apply Kd.R_drewN | apply Kd.R_drew)); exact HO_6.out) hg hat)).2.1))); have n7_ := Am (ho); clear HO_6; clear BK157; clear BK161; clear BK166; clear HO181; clear HB; clear HR188; clear HO184; have HO_6 := n0_; have BK157 := n1_; have BK161 := n2_; have BK166 := n3_; have HO181 := n4_; have HB := n5_; have HR188 := n6_; have HO191 := n7_; clear n0_ n1_ n2_ n3_ n4_ n5_ n6_ n7_; clear ho hb hg hat))
                 go_roundg k3
                 case measure => have := HJ2.out; have := HK2.out; have := HK3.out; omega
                 case rel => exact ⟨(y189), (wrap64 (x28_2 + 1)), (by first | rfl | (simp; done) | (simp [*]; done)), H', ⟨by have := HJ2.out; have := HK2.out; have := HK3.out; omega⟩, ⟨by (with_reducible repeat (first | apply Kd.R_alloc | apply Kd.R_drewN | apply Kd.R_drew)); exact Kd.R_mono HO191.out (fun _ hk => hk.2.2.1)⟩, ⟨by (with_reducible repeat (first | refine kN ?_ _ | refine kD ?_ | refine kA ?_ _)); exact BK157.out⟩, ⟨by repeat (first | (with_reducible first | exact HB.out | apply bA | apply bN | apply bD | refine bX ?_ (by assumption)) | exact HB.out)⟩⟩
                rw [if_neg c42] at H
                exact absurd H (by simp)
               rw [if_neg c39] at H
               exact absurd H (by simp)
              rw [if_neg c38] at H
              exact absurd H (by simp)
             rw [if_neg c37] at H
             exact absurd H (by simp)
            rw [if_neg c30] at H
            exact absurd H (by simp)
           rw [if_neg c29] at H
           have c29b0 : decide (x11_3 < (x6_2.length : Int)) = false := decide_eq_false c29
           clear c29
           obtain ⟨y192, hy192⟩ : ∃ y_ : List (S26), y_ = (([] : List (S26))) := ⟨_, rfl⟩
           replace H : (if 0 ≤ x11_3 then (if x11_3 ≤ (x6_2.length : Int) then ((some (x6_2.take (x11_3 : Int).toNat : List (S26))).bind fun y195 => (if y192.length + y195.length < 8796093022208 then ((some (y192 ++ y195 : List (S26))).bind fun y199 => ((some (([(⟨t163, t164⟩ : S26)] : List (S26)) : List (S26))).bind fun y202 => (if y199.length + y202.length < 8796093022208 then ((some (y199 ++ y202 : List (S26))).bind fun y205 => ((some (x6_2.drop (x11_3 : Int).toNat : List (S26))).bind fun y208 => (if y205.length + y208.length < 8796093022208 then (spec_meGaps.l0 k3 (y205 ++ y208) l0 (l0.length : Int) (wrap64 (x28_2 + 1)) a1_0 a1_1) else (none)))) else (none)))) else (none))) else (none)) else (none)) = some (r1, r2) := by first | (rw [hy192]; with_reducible exact H) | (have H2_ := (Option.bind_some _ _).symm.trans H; rw [hy192]; with_reducible exact H2_) | (have H2_ := (Option.bind_some _ _).symm.trans H; with_reducible exact H2_) | with_reducible exact H | (rw [hy192]; exact H) | exact H
           have Ny192 := Am hy192
           clear hy192
           by_cases c58 : 0 ≤ x11_3
           ·rw [if_pos c58] at H
            have c58b0 := eq_true c58
            have c58b1 : decide (0 ≤ x11_3) = true := decide_eq_true c58
            clear c58
            by_cases c59 : x11_3 ≤ (x6_2.length : Int)
            ·rw [if_pos c59] at H
             have c59b0 := eq_true c59
             have c59b1 : decide (x11_3 ≤ (x6_2.length : Int)) = true := decide_eq_true c59
             clear c59
             obtain ⟨y195, hy195⟩ : ∃ y_ : List (S26), y_ = (x6_2.take (x11_3 : Int).toNat) := ⟨_, rfl⟩
             replace H : (if y192.length + y195.length < 8796093022208 then ((some (y192 ++ y195 : List (S26))).bind fun y199 => ((some (([(⟨t163, t164⟩ : S26)] : List (S26)) : List (S26))).bind fun y202 => (if y199.length + y202.length < 8796093022208 then ((some (y199 ++ y202 : List (S26))).bind fun y205 => ((some (x6_2.drop (x11_3 : Int).toNat : List (S26))).bind fun y208 => (if y205.length + y208.length < 8796093022208 then (spec_meGaps.l0 k3 (y205 ++ y208) l0 (l0.length : Int) (wrap64 (x28_2 + 1)) a1_0 a1_1) else (none)))) else (none)))) else (none)) = some (r1, r2) := by first | (rw [hy195]; with_reducible exact H) | (have H2_ := (Option.bind_some _ _).symm.trans H; rw [hy195]; with_reducible exact H2_) | (have H2_ := (Option.bind_some _ _).symm.trans H; with_reducible exact H2_) | with_reducible exact H | (rw [hy195]; exact H) | exact H
             have Ny195 := Am hy195
             clear hy195
             by_cases c60 : y192.length + y195.length < 8796093022208
             ·rw [if_pos c60] at H
              have LMc60 := Am c60
              clear c60
              obtain ⟨y199, hy199⟩ : ∃ y_ : List (S26), y_ = (y192 ++ y195) := ⟨_, rfl⟩
              replace H : ((some (([(⟨t163, t164⟩ : S26)] : List (S26)) : List (S26))).bind fun y202 => (if y199.length + y202.length < 8796093022208 then ((some (y199 ++ y202 : List (S26))).bind fun y205 => ((some (x6_2.drop (x11_3 : Int).toNat : List (S26))).bind fun y208 => (if y205.length + y208.length < 8796093022208 then (spec_meGaps.l0 k3 (y205 ++ y208) l0 (l0.length : Int) (wrap64 (x28_2 + 1)) a1_0 a1_1) else (none)))) else (none))) = some (r1, r2) := by first | (rw [hy199]; with_reducible exact H) | (have H2_ := (Option.bind_some _ _).symm.trans H; rw [hy199]; with_reducible exact H2_) | (have H2_ := (Option.bind_some _ _).symm.trans H; with_reducible exact H2_) | with_reducible exact H | (rw [hy199]; exact H) | exact H
              have Ny199 := Am hy199
              clear hy199
              obtain ⟨y202, hy202⟩ : ∃ y_ : List (S26), y_ = (([(⟨t163, t164⟩ : S26)] : List (S26))) := ⟨_, rfl⟩
              replace H : (if y199.length + y202.length < 8796093022208 then ((some (y199 ++ y202 : List (S26))).bind fun y205 => ((some (x6_2.drop (x11_3 : Int).toNat : List (S26))).bind fun y208 => (if y205.length + y208.length < 8796093022208 then (spec_meGaps.l0 k3 (y205 ++ y208) l0 (l0.length : Int) (wrap64 (x28_2 + 1)) a1_0 a1_1) else (none)))) else (none)) = some (r1, r2) := by first | (rw [hy202]; with_reducible exact H) | (have H2_ := (Option.bind_some _ _).symm.trans H; rw [hy202]; with_reducible exact H2_) | (have H2_ := (Option.bind_some _ _).symm.trans H; with_reducible exact H2_) | with_reducible exact H | (rw [hy202]; exact H) | exact H
              have Ny202 := Am hy202
              clear hy202
              by_cases c61 : y199.length + y202.length < 8796093022208
              ·rw [if_pos c61] at H
               have LMc61 := Am c61
               clear c61
               obtain ⟨y205, hy205⟩ : ∃ y_ : List (S26), y_ = (y199 ++ y202) := ⟨_, rfl⟩
               replace H : ((some (x6_2.drop (x11_3 : Int).toNat : List (S26))).bind fun y208 => (if y205.length + y208.length < 8796093022208 then (spec_meGaps.l0 k3 (y205 ++ y208) l0 (l0.length : Int) (wrap64 (x28_2 + 1)) a1_0 a1_1) else (none))) = some (r1, r2) := by first | (rw [hy205]; with_reducible exact H) | (have H2_ := (Option.bind_some _ _).symm.trans H; rw [hy205]; with_reducible exact H2_) | (have H2_ := (Option.bind_some _ _).symm.trans H; with_reducible exact H2_) | with_reducible exact H | (rw [hy205]; exact H) | exact H
               have Ny205 := Am hy205
               clear hy205
               have c62b0 := eq_true (of_decide_eq_true (by first | (with_reducible assumption) | assumption) : 0 ≤ x11_3)
               have c63b0 := eq_true (of_decide_eq_true (by first | (with_reducible assumption) | assumption) : x11_3 ≤ (x6_2.length : Int))
               obtain ⟨y208, hy208⟩ : ∃ y_ : List (S26), y_ = (x6_2.drop (x11_3 : Int).toNat) := ⟨_, rfl⟩
               replace H : (if y205.length + y208.length < 8796093022208 then (spec_meGaps.l0 k3 (y205 ++ y208) l0 (l0.length : Int) (wrap64 (x28_2 + 1)) a1_0 a1_1) else (none)) = some (r1, r2) := by first | (rw [hy208]; with_reducible exact H) | (have H2_ := (Option.bind_some _ _).symm.trans H; rw [hy208]; with_reducible exact H2_) | (have H2_ := (Option.bind_some _ _).symm.trans H; with_reducible exact H2_) | with_reducible exact H | (rw [hy208]; exact H) | exact H
               have Ny208 := Am hy208
               clear hy208
               by_cases c64 : y205.length + y208.length < 8796093022208
               ·rw [if_pos c64] at H
                have LMc64 := Am c64
                clear c64
                obtain ⟨y212, hy212⟩ : ∃ y_ : List (S26), y_ = (y205 ++ y208) := ⟨_, rfl⟩
                replace H : (spec_meGaps.l0 k3 y212 l0 (l0.length : Int) (wrap64 (x28_2 + 1)) a1_0 a1_1) = some (r1, r2) := by first | (rw [hy212]; with_reducible exact H) | (have H2_ := (Option.bind_some _ _).symm.trans H; rw [hy212]; with_reducible exact H2_) | (have H2_ := (Option.bind_some _ _).symm.trans H; with_reducible exact H2_) | with_reducible exact H | (rw [hy212]; exact H) | exact H
                have Ny212 := Am hy212
                clear hy212
                have H' := Am H
                clear H
                try go_wp2
                have n0_ := Am (Kd.R_drew HO_6.out)
                have n1_ := Am (kD BK157.out)
                have n2_ := Am (kD BK161.out)
                have n3_ := Am (kD BK166.out)
                have n4_ := Am (bD HB.out)
                clear HO_6 BK157 BK161 BK166 HB
                have HO_6 := n0_; have BK157 := n1_; have BK161 := n2_; have BK166 := n3_; have HB := n4_
                clear n0_ n1_ n2_ n3_ n4_
                obtain ⟨Ao66, co66, eo66⟩ := Kd.R_slice HO_6.out
                (first | subst eo66 | (injection eo66 with f1_ f2_ f3_; have f4_ := f1_.symm; have f5_ := f3_.symm; clear f1_ f2_ f3_; subst f4_; subst f5_))
                refine start_ (n := 13) (S := fun w' => True) (ds := []) (pT 13 0) (by kernel_rfl) rfl rfl trivial (fun hHeld => ?_); refine with_tabW spec_meGaps.tab13 spec_meGaps.bits13 (fun HT_ HW_ => ?_)
                generalize wr.drew = w65 at HO_6 BK157 BK161 BK166 HB hHeld ⊢
                iterate 13
                 first
                 | refine pI (v := ?_) (a' := ?_) rfl (any_of HT_.out (by kernel_rfl)) (fun _ _ _ h => h) (Or.inl ⟨by rfl, ?_⟩) ?_ ?_
                   rotate_left
                   ·intro w'
                    go_simp
                    with_reducible rfl
                   rotate_left
                   ·show Act.put _ (some _) _ = _
                    simp only [Act.put, List.setIfInBounds_toArray, List.set_cons_zero, List.set_cons_succ, i64_w, i32_w]
                    rfl
                 | refine pI (v := undef) (a' := ?_) rfl (any_of HT_.out (by kernel_rfl)) (fun _ _ _ h => h) (Or.inr ⟨by rfl, rfl⟩) ?_ ?_
                   rotate_left
                   ·show Act.put _ (some _) _ = _
                    simp only [Act.put, List.setIfInBounds_toArray, List.set_cons_zero, List.set_cons_succ, i64_w, i32_w]
                    rfl
                refine done_ (done_of HT_.out (by kernel_rfl)) ?_
                try go_wp2
                have n0_ := Am (Kd.R_drew HO_6.out)
                have n1_ := Am (kD BK157.out)
                have n2_ := Am (kD BK161.out)
                have n3_ := Am (kD BK166.out)
                have n4_ := Am (bD HB.out)
                clear HO_6 BK157 BK161 BK166 HB
                have HO_6 := n0_; have BK157 := n1_; have BK161 := n2_; have BK166 := n3_; have HB := n4_
                clear n0_ n1_ n2_ n3_ n4_
                have q68 : (x11_3 : Int) ≤ ((x6_2.length : Int) : Int) := of_decide_eq_true (by first | (with_reducible assumption) | assumption)
                obtain ⟨i068, hi068, _, hsz68, _⟩ := info_parts info26
                have hroom68 : x6_2.length ≤ co66 := (Kd.R_reads' HO_6.out).2.1
                have hC68 : Kd.C k26 _ Ao66 x6_2.length x6_2 := (Kd.R_reads' HO_6.out).2.2
                have hcut68 := cut_to (P := Try.prog) 35 26 .i64 Try.underlying35 hi068 Ao66 x6_2.length co66 x11_3 (of_decide_eq_true (by first | (with_reducible assumption) | assumption)) q68 hroom68
                have hr68 := Kd.C_take (m := (x11_3 : Int).toNat) hC68 (by omega)
                have hy68 : y195.length = (x11_3 : Int).toNat := (by rw [Ny195.out, List.length_take]; omega)
                rw [← Ny195.out] at hr68
                rw [← hy68] at hcut68
                have HR198 := Am hr68
                have HC198 := Am (show y195.length ≤ co66 from by omega)
                clear hr68 hC68 hroom68 hi068 hsz68
                have KY68 := Am hy68
                clear hy68
                have KL68 := Am (show (x11_3 : Int).toNat ≤ x6_2.length from by omega)
                replace q68 := eq_true q68
                refine start_ (n := 9) (S := fun w' => w'.cell? ⟨gb166, 0, none⟩ = some (.int .i64 t163) ∧ w'.cell? ⟨gb166, 1, none⟩ = some (.int .i64 t164)) (ds := []) (pT 9 0) (by kernel_rfl) rfl rfl ⟨c20 BK166.out, c21 BK166.out⟩ (fun hHeld => ?_); refine with_tabW spec_meGaps.tab15 spec_meGaps.bits15 (fun HT_ HW_ => ?_)
                generalize w65.drew = w67 at HO_6 BK157 BK161 BK166 HB HR198 hHeld ⊢
                refine pure_ (i := 1) (N := some 59) (v := ?_) (a' := ?_) #[false, true, false, false, false, false, false, false, false] rfl rfl (any_of HT_.out (by kernel_rfl)) (fun _ _ _ h => h) (Or.inl ⟨by rfl, ?_⟩) ?_ ?_
                rotate_left
                ·intro w'
                 go_simp
                 with_reducible rfl
                rotate_left
                ·simp only [Act.put, List.setIfInBounds_toArray, List.set_cons_zero, List.set_cons_succ, i64_w, i32_w]
                 rfl
                refine pure_ (i := 2) (N := some 60) (v := ?_) (a' := ?_) #[false, true, true, false, false, false, false, false, false] rfl rfl (any_of HT_.out (by kernel_rfl)) (fun _ _ _ h => h) (Or.inl ⟨by rfl, ?_⟩) ?_ ?_
                rotate_left
                ·intro w'
                 go_simp
                 with_reducible rfl
                rotate_left
                ·simp only [Act.put, List.setIfInBounds_toArray, List.set_cons_zero, List.set_cons_succ, i64_w, i32_w]
                 rfl
                refine pure_ (i := 3) (N := some 61) (v := ?_) (a' := ?_) #[false, true, true, true, false, false, false, false, false] rfl rfl (any_of HT_.out (by kernel_rfl)) (fun _ _ _ h => h) (Or.inl ⟨by rfl, ?_⟩) ?_ ?_
                rotate_left
                ·intro w'
                 go_simp
                 with_reducible rfl
                rotate_left
                ·simp only [Act.put, List.setIfInBounds_toArray, List.set_cons_zero, List.set_cons_succ, i64_w, i32_w]
                 rfl
                refine take_ (i := 5) (N := some 63) (v := ?_) (a' := ?_) #[false, true, true, true, false, true, false, false, false] rfl rfl (take_ofW HT_.out HW_.out (by kernel_rfl)) (fun _ _ _ h => h) (Or.inl ⟨by rfl, ?_⟩) hHeld ?_ ?_
                rotate_left
                ·rintro w' ⟨s0, s1⟩
                 go_simp
                 with_reducible rfl
                rotate_left
                ·simp only [Act.put, List.setIfInBounds_toArray, List.set_cons_zero, List.set_cons_succ, i64_w, i32_w]
                 rfl
                refine join_ (σ := Value × Value × Value) 2 (pT 9 7) (fun s_ => [(58, s_.1), (62, s_.2.1), (64, s_.2.2)]) (fun s_ w' => (w'.cell? ⟨gb166, 0, none⟩ = some (.int .i64 t163) ∧ w'.cell? ⟨gb166, 1, none⟩ = some (.int .i64 t164)) ∧ (Kd.R k26 26 w' w.heap.size (fun k_ => some k_ ≠ (s_.2.2 : Value).ownBlock ∧ some k_ ≠ (.slice Ao66 x6_2.length co66 : Value).ownBlock ∧ k_ ≠ gb157 ∧ k_ ≠ gb166) s_.2.1 y199) ∧ (Kd.R k26 26 w' w.heap.size (fun k_ => some k_ ≠ (s_.2.1 : Value).ownBlock ∧ some k_ ≠ (.slice Ao66 x6_2.length co66 : Value).ownBlock ∧ k_ ≠ gb157 ∧ k_ ≠ gb166) s_.2.2 y202) ∧ (Kd.R k26 26 w' w.heap.size (fun k_ => some k_ ≠ (s_.2.1 : Value).ownBlock ∧ some k_ ≠ (s_.2.2 : Value).ownBlock ∧ k_ ≠ gb157 ∧ k_ ≠ gb166) (.slice Ao66 x6_2.length co66) x6_2) ∧ (w'.heap[gb157]? = some (.cells #[.int .i64 a1_0, .int .i64 a1_1] 26 (0, 0))) ∧ (w'.heap[gb161]? = some (.cells #[.int .i64 ((rd_T30 l0 x28_2).f0.f0), .int .i64 ((rd_T30 l0 x28_2).f0.f1), .int .i64 ((rd_T30 l0 x28_2).f1)] 30 (0, 0))) ∧ (w'.heap[gb166]? = some (.cells #[.int .i64 t163, .int .i64 t164] 26 (0, 0))) ∧ (Below w.heap.size w w')) ?_ ?_
                rotate_left
                ·intro hCont
                 refine two_ (i := 0) (j := 6) (Ni := some 58) (Nj := some 64) #[true, true, true, true, false, true, false, false, false] #[false, true, true, true, false, true, true, false, false] rfl rfl rfl rfl (two_of HT_.out (by kernel_rfl)) (by decide) (by decide) (fun K hK => ?_) (fun K hK => ?_)
                 ·skip
                  refine Kd.R_lit_step k26 _ 26 ?hg (N := 58) ?hd (xs := ([] : List (S26))) (inner := []) (ok := fun _ => True) (okp := fun _ => True) ?hr ?hp (fun _ hk => hk) trivial (Below.refl _ _) (Nat.le_refl _) (by simp) ?_; (case hd => rfl); (case hg => rfl); (case hr => first | (go_simp; done) | (go_simp; rfl)); (case hp => exact (Reps.none _ _))
                  intro v193 w69 ho70 hb hg_ hnew_
                  clear hg_ hnew_
                  (first | rw [← Ny192.out] at ho70 | (simp only [Int.reduceToNat] at ho70; rw [← Ny192.out] at ho70))
                  have n0_ := Am (Kd.R_elder' (by (with_reducible repeat (first | apply Kd.R_alloc | apply Kd.R_drewN | apply Kd.R_drew)); exact HO_6.out) (Kd.R_base ho70) hb)
                  have n1_ := Am (Kd.R_lower (Kd.R_newB (Kd.R_newB (Kd.R_new' ho70 (Kd.R_lt (by (with_reducible repeat (first | apply Kd.R_alloc | apply Kd.R_drewN | apply Kd.R_drew)); exact HO_6.out))) (g := gb157) (o := .cells #[.int .i64 a1_0, .int .i64 a1_1] 26 (0, 0)) (by (with_reducible repeat (first | refine kN ?_ _ | refine kD ?_ | refine kA ?_ _)); exact BK157.out)) (g := gb166) (o := .cells #[.int .i64 t163, .int .i64 t164] 26 (0, 0)) (by (with_reducible repeat (first | refine kN ?_ _ | refine kD ?_ | refine kA ?_ _)); exact BK166.out)) (bZ (by repeat (first | (with_reducible first | exact HB.out | apply bA | apply bN | apply bD | refine bX ?_ (by assumption)) | exact HB.out))))
                  have hp0 := hpA BK157.out hb (fun _ _ h_ => by (with_reducible repeat (first | refine kN ?_ _ | refine kD ?_ | refine kA ?_ _)); exact h_)
                  have n5_ := Am (Kd.C_below (by repeat (first | (with_reducible exact HR198.out) | (with_reducible refine Kd.C_alloc ?_ _) | (with_reducible refine Kd.C_drewN ?_ _) | (with_reducible refine Kd.C_drew ?_) | exact HR198.out)) hb)
                  have hv := hvK (w := w) hb (by repeat (first | (with_reducible first | exact HB.out | apply bA | apply bN | apply bD | refine bX ?_ (by assumption)) | exact HB.out))
                  have n6_ := Am (bT hv hb)
                  clear HO_6 HR198 HB
                  have HO_6 := n0_; have HO194 := n1_
                  replace BK157 := hp0 BK157; replace BK161 := hp0 BK161; replace BK166 := hp0 BK166
                  have HR198 := n5_; have HB := n6_
                  clear n0_ n1_ n5_ n6_ hp0 hv hb ho70
                  refine hK.out _ _ ⟨c20 BK166.out, c21 BK166.out⟩ (fun hHeld => ?_)
                  clear hK K
                  refine norm_ (a' := ?_) ?_ ?_
                  rotate_left
                  ·show Act.put _ (some 58) _ = _
                   simp only [Act.put, List.setIfInBounds_toArray, List.set_cons_zero, List.set_cons_succ, i64_w, i32_w]
                   rfl
                  refine two_ (i := 4) (j := 6) (Ni := some 62) (Nj := some 64) (pT 9 6) #[true, true, true, true, false, true, true, false, false] rfl rfl rfl rfl (two_of HT_.out (by kernel_rfl)) (by decide) (by decide) (fun K hK => ?_) (fun K hK => ?_)
                  ·skip
                   refine Kd.R_append_rows_step k26 (w0 := w) w.heap.size (by rfl) (.tmp 58) (.tmp 61) 35 26 (.agg #[(.int .i64 0), (.int .i64 0)]) 16 rfl Try.underlying35 info26 rfl (by decide) (by omega) v193 y192 y195 _ _ _ (fun k_ => some k_ ≠ (.slice Ao66 x6_2.length co66 : Value).ownBlock ∧ k_ ≠ gb157 ∧ k_ ≠ gb166) (fun _ => False) rfl rfl ?aO ?aR (fun _ _ h => h) (fun _ h => h.elim) ?aF ?aB ?aS ?aL ?_
                   (case aR => repeat (first | exact (by repeat (first | (with_reducible exact HR198.out) | (with_reducible refine Kd.C_alloc ?_ _) | (with_reducible refine Kd.C_drewN ?_ _) | (with_reducible refine Kd.C_drew ?_) | exact HR198.out)) | (with_reducible refine Kd.C_alloc ?_ _) | (with_reducible refine Kd.C_drewN ?_ _) | (with_reducible refine Kd.C_drew ?_)))
                   (case aB => exact (by repeat (first | (with_reducible first | exact HB.out | apply bA | apply bN | apply bD | refine bX ?_ (by assumption)) | exact HB.out)))
                   (case aF => exact (fun k_ hk => ⟨Kd.fresh' (Kd.R_lt (by (with_reducible repeat (first | apply Kd.R_alloc | apply Kd.R_drewN | apply Kd.R_drew)); exact HO_6.out)) k_ hk, Kd.freshB (g := gb157) (o := .cells #[.int .i64 a1_0, .int .i64 a1_1] 26 (0, 0)) (by (with_reducible repeat (first | refine kN ?_ _ | refine kD ?_ | refine kA ?_ _)); exact BK157.out) k_ hk, Kd.freshB (g := gb166) (o := .cells #[.int .i64 t163, .int .i64 t164] 26 (0, 0)) (by (with_reducible repeat (first | refine kN ?_ _ | refine kD ?_ | refine kA ?_ _)); exact BK166.out) k_ hk⟩))
                   (case aO => exact (by (with_reducible repeat (first | apply Kd.R_alloc | apply Kd.R_drewN | apply Kd.R_drew)); exact Kd.R_mono HO194.out (fun _ hk => ⟨hk.1.1.2, ⟨hk.1.2, hk.2⟩⟩)))
                   (case aS => exact (bZ (by repeat (first | (with_reducible first | exact HB.out | apply bA | apply bN | apply bD | refine bX ?_ (by assumption)) | exact HB.out))))
                   (case aL => have := LMc60.out; omega)
                   intro v200 w71 ho hb hg hat
                   rw [← Ny199.out] at ho
                   have n0_ := Am (Kd.R_after (ok := (fun k_ => k_ ≠ gb157 ∧ k_ ≠ gb166)) (by (with_reducible repeat (first | apply Kd.R_alloc | apply Kd.R_drewN | apply Kd.R_drew)); exact HO_6.out) hg hat)
                   have n1_ := Am (blk_grown (g := gb157) (o := .cells #[.int .i64 a1_0, .int .i64 a1_1] 26 (0, 0)) (by (with_reducible repeat (first | refine kN ?_ _ | refine kD ?_ | refine kA ?_ _)); exact BK157.out) hg (Kd.R_away HO194.out (fun _ hk => hk.1.2)))
                   have n2_ := Am (blk_grown (g := gb161) (o := .cells #[.int .i64 ((rd_T30 l0 x28_2).f0.f0), .int .i64 ((rd_T30 l0 x28_2).f0.f1), .int .i64 ((rd_T30 l0 x28_2).f1)] 30 (0, 0)) (by (with_reducible repeat (first | refine kN ?_ _ | refine kD ?_ | refine kA ?_ _)); exact BK161.out) hg (Kd.R_ne HO194.out BK161.out (by decide)))
                   have n3_ := Am (blk_grown (g := gb166) (o := .cells #[.int .i64 t163, .int .i64 t164] 26 (0, 0)) (by (with_reducible repeat (first | refine kN ?_ _ | refine kD ?_ | refine kA ?_ _)); exact BK166.out) hg (Kd.R_away HO194.out (fun _ hk => hk.2)))
                   have n4_ := Am (hb)
                   have n5_ := Am ((show Kd.C k26 w71 Ao66 y195.length y195 from by rw [Ny195.out]; exact Kd.C_take (m := (x11_3 : Int).toNat) ((Kd.R_reads' (Kd.R_after (ok := (fun k_ => k_ ≠ gb157 ∧ k_ ≠ gb166)) (by (with_reducible repeat (first | apply Kd.R_alloc | apply Kd.R_drewN | apply Kd.R_drew)); exact HO_6.out) hg hat)).2.2) KL68.out))
                   have n6_ := Am (ho)
                   clear HO_6 BK157 BK161 BK166 HB HR198 HO194
                   have HO_6 := n0_; have BK157 := n1_; have BK161 := n2_; have BK166 := n3_; have HB := n4_; have HR198 := n5_; have HO201 := n6_
                   clear n0_ n1_ n2_ n3_ n4_ n5_ n6_ ho hb hg hat
                   refine hK.out _ _ ⟨c20 BK166.out, c21 BK166.out⟩ (fun hHeld => ?_)
                   clear hK K
                   refine norm_ (a' := ?_) ?_ ?_
                   rotate_left
                   ·show Act.put _ (some 62) _ = _
                    simp only [Act.put, List.setIfInBounds_toArray, List.set_cons_zero, List.set_cons_succ, i64_w, i32_w]
                    rfl
                   refine one_ (i := 6) (N := some 64) (pT 9 7) rfl rfl (one_of HT_.out (by kernel_rfl)) (by decide) (fun K hK => ?_)
                   refine Kd.R_lit_step k26 _ 26 ?hg (N := 64) ?hd (xs := ([(⟨t163, t164⟩ : S26)] : List (S26))) (inner := [.int .i64 t163, .int .i64 t164]) (ok := fun _ => True) (okp := fun _ => True) ?hr ?hp (fun _ hk => hk) trivial (Below.refl _ _) (Nat.le_refl _) (by simp) ?_; (case hd => rfl); (case hg => rfl); (case hr => first | (go_simp; done) | (go_simp; rfl)); (case hp => exact (Reps.c2 (show Kd.M k26 _ _ _ (⟨t163, t164⟩ : S26) [.int .i64 t163, .int .i64 t164] from (k26_mkM _ _ _ (⟨t163, t164⟩ : S26) )) (Reps.none _ _)))
                   intro v203 w72 ho73 hb hg_ hnew_
                   clear hg_ hnew_
                   (first | rw [← Ny202.out] at ho73 | (simp only [Int.reduceToNat] at ho73; rw [← Ny202.out] at ho73))
                   have n0_ := Am (Kd.R_elder' (by (with_reducible repeat (first | apply Kd.R_alloc | apply Kd.R_drewN | apply Kd.R_drew)); exact HO_6.out) (Kd.R_base ho73) hb)
                   have n1_ := Am (Kd.R_elder' (by (with_reducible repeat (first | apply Kd.R_alloc | apply Kd.R_drewN | apply Kd.R_drew)); exact HO201.out) (Kd.R_base ho73) hb)
                   have n2_ := Am (Kd.R_lower (Kd.R_newB (Kd.R_newB (Kd.R_new' (Kd.R_new' ho73 (Kd.R_lt (by (with_reducible repeat (first | apply Kd.R_alloc | apply Kd.R_drewN | apply Kd.R_drew)); exact HO_6.out))) (Kd.R_lt (by (with_reducible repeat (first | apply Kd.R_alloc | apply Kd.R_drewN | apply Kd.R_drew)); exact HO201.out))) (g := gb157) (o := .cells #[.int .i64 a1_0, .int .i64 a1_1] 26 (0, 0)) (by (with_reducible repeat (first | refine kN ?_ _ | refine kD ?_ | refine kA ?_ _)); exact BK157.out)) (g := gb166) (o := .cells #[.int .i64 t163, .int .i64 t164] 26 (0, 0)) (by (with_reducible repeat (first | refine kN ?_ _ | refine kD ?_ | refine kA ?_ _)); exact BK166.out)) (bZ (by repeat (first | (with_reducible first | exact HB.out | apply bA | apply bN | apply bD | refine bX ?_ (by assumption)) | exact HB.out))))
                   have hp0 := hpA BK157.out hb (fun _ _ h_ => by (with_reducible repeat (first | refine kN ?_ _ | refine kD ?_ | refine kA ?_ _)); exact h_)
                   have n6_ := Am (Kd.C_below (by repeat (first | (with_reducible exact HR198.out) | (with_reducible refine Kd.C_alloc ?_ _) | (with_reducible refine Kd.C_drewN ?_ _) | (with_reducible refine Kd.C_drew ?_) | exact HR198.out)) hb)
                   have hv := hvK (w := w) hb (by repeat (first | (with_reducible first | exact HB.out | apply bA | apply bN | apply bD | refine bX ?_ (by assumption)) | exact HB.out))
                   have n7_ := Am (bT hv hb)
                   clear HO_6 HO201 HR198 HB
                   have HO_6 := n0_; have HO201 := n1_; have HO204 := n2_
                   replace BK157 := hp0 BK157; replace BK161 := hp0 BK161; replace BK166 := hp0 BK166
                   have HR198 := n6_; have HB := n7_
                   clear n0_ n1_ n2_ n6_ n7_ hp0 hv hb ho73
                   refine hK.out _ _ ⟨c20 BK166.out, c21 BK166.out⟩ (fun hHeld => ?_)
                   clear hK K
                   refine norm_ (a' := ?_) ?_ ?_
                   rotate_left
                   ·show Act.put _ (some 64) _ = _
                    simp only [Act.put, List.setIfInBounds_toArray, List.set_cons_zero, List.set_cons_succ, i64_w, i32_w]
                    rfl
                   exact norm_ (by simp only [putAll, Act.put, List.setIfInBounds_toArray, List.set_cons_zero, List.set_cons_succ]) (hCont (v193, v200, v203) _ ⟨hHeld, (by (with_reducible repeat (first | apply Kd.R_alloc | apply Kd.R_drewN | apply Kd.R_drew)); exact Kd.R_mono HO201.out (fun _ hk => ⟨hk.2, ⟨hk.1.1, ⟨hk.1.2.1, hk.1.2.2⟩⟩⟩)), (by (with_reducible repeat (first | apply Kd.R_alloc | apply Kd.R_drewN | apply Kd.R_drew)); exact Kd.R_mono HO204.out (fun _ hk => ⟨hk.1.1.2, ⟨hk.1.1.1.2, ⟨hk.1.2, hk.2⟩⟩⟩)), (by (with_reducible repeat (first | apply Kd.R_alloc | apply Kd.R_drewN | apply Kd.R_drew)); exact Kd.R_mono HO_6.out (fun _ hk => ⟨hk.1.2, ⟨hk.2, ⟨hk.1.1.1, hk.1.1.2⟩⟩⟩)), (by (with_reducible repeat (first | refine kN ?_ _ | refine kD ?_ | refine kA ?_ _)); exact BK157.out), (by (with_reducible repeat (first | refine kN ?_ _ | refine kD ?_ | refine kA ?_ _)); exact BK161.out), (by (with_reducible repeat (first | refine kN ?_ _ | refine kD ?_ | refine kA ?_ _)); exact BK166.out), (by repeat (first | (with_reducible first | exact HB.out | apply bA | apply bN | apply bD | refine bX ?_ (by assumption)) | exact HB.out))⟩)
                  skip
                  refine Kd.R_lit_step k26 _ 26 ?hg (N := 64) ?hd (xs := ([(⟨t163, t164⟩ : S26)] : List (S26))) (inner := [.int .i64 t163, .int .i64 t164]) (ok := fun _ => True) (okp := fun _ => True) ?hr ?hp (fun _ hk => hk) trivial (Below.refl _ _) (Nat.le_refl _) (by simp) ?_; (case hd => rfl); (case hg => rfl); (case hr => first | (go_simp; done) | (go_simp; rfl)); (case hp => exact (Reps.c2 (show Kd.M k26 _ _ _ (⟨t163, t164⟩ : S26) [.int .i64 t163, .int .i64 t164] from (k26_mkM _ _ _ (⟨t163, t164⟩ : S26) )) (Reps.none _ _)))
                  intro v203 w71 ho72 hb hg_ hnew_
                  clear hg_ hnew_
                  (first | rw [← Ny202.out] at ho72 | (simp only [Int.reduceToNat] at ho72; rw [← Ny202.out] at ho72))
                  have n0_ := Am (Kd.R_elder' (by (with_reducible repeat (first | apply Kd.R_alloc | apply Kd.R_drewN | apply Kd.R_drew)); exact HO_6.out) (Kd.R_base ho72) hb)
                  have n1_ := Am (Kd.R_elder' (by (with_reducible repeat (first | apply Kd.R_alloc | apply Kd.R_drewN | apply Kd.R_drew)); exact HO194.out) (Kd.R_base ho72) hb)
                  have n2_ := Am (Kd.R_lower (Kd.R_newB (Kd.R_newB (Kd.R_new' (Kd.R_new' ho72 (Kd.R_lt (by (with_reducible repeat (first | apply Kd.R_alloc | apply Kd.R_drewN | apply Kd.R_drew)); exact HO_6.out))) (Kd.R_lt (by (with_reducible repeat (first | apply Kd.R_alloc | apply Kd.R_drewN | apply Kd.R_drew)); exact HO194.out))) (g := gb157) (o := .cells #[.int .i64 a1_0, .int .i64 a1_1] 26 (0, 0)) (by (with_reducible repeat (first | refine kN ?_ _ | refine kD ?_ | refine kA ?_ _)); exact BK157.out)) (g := gb166) (o := .cells #[.int .i64 t163, .int .i64 t164] 26 (0, 0)) (by (with_reducible repeat (first | refine kN ?_ _ | refine kD ?_ | refine kA ?_ _)); exact BK166.out)) (bZ (by repeat (first | (with_reducible first | exact HB.out | apply bA | apply bN | apply bD | refine bX ?_ (by assumption)) | exact HB.out))))
                  have hp0 := hpA BK157.out hb (fun _ _ h_ => by (with_reducible repeat (first | refine kN ?_ _ | refine kD ?_ | refine kA ?_ _)); exact h_)
                  have n6_ := Am (Kd.C_below (by repeat (first | (with_reducible exact HR198.out) | (with_reducible refine Kd.C_alloc ?_ _) | (with_reducible refine Kd.C_drewN ?_ _) | (with_reducible refine Kd.C_drew ?_) | exact HR198.out)) hb)
                  have hv := hvK (w := w) hb (by repeat (first | (with_reducible first | exact HB.out | apply bA | apply bN | apply bD | refine bX ?_ (by assumption)) | exact HB.out))
                  have n7_ := Am (bT hv hb)
                  clear HO_6 HO194 HR198 HB
                  have HO_6 := n0_; have HO194 := n1_; have HO204 := n2_
                  replace BK157 := hp0 BK157; replace BK161 := hp0 BK161; replace BK166 := hp0 BK166
                  have HR198 := n6_; have HB := n7_
                  clear n0_ n1_ n2_ n6_ n7_ hp0 hv hb ho72
                  refine hK.out _ _ ⟨c20 BK166.out, c21 BK166.out⟩ (fun hHeld => ?_)
                  clear hK K
                  refine norm_ (a' := ?_) ?_ ?_
                  rotate_left
                  ·show Act.put _ (some 64) _ = _
                   simp only [Act.put, List.setIfInBounds_toArray, List.set_cons_zero, List.set_cons_succ, i64_w, i32_w]
                   rfl
                  refine one_ (i := 4) (N := some 62) (pT 9 7) rfl rfl (one_of HT_.out (by kernel_rfl)) (by decide) (fun K hK => ?_)
                  refine Kd.R_append_rows_step k26 (w0 := w) w.heap.size (by rfl) (.tmp 58) (.tmp 61) 35 26 (.agg #[(.int .i64 0), (.int .i64 0)]) 16 rfl Try.underlying35 info26 rfl (by decide) (by omega) v193 y192 y195 _ _ _ (fun k_ => some k_ ≠ (.slice Ao66 x6_2.length co66 : Value).ownBlock ∧ some k_ ≠ (v203 : Value).ownBlock ∧ k_ ≠ gb157 ∧ k_ ≠ gb166) (fun _ => False) rfl rfl ?aO ?aR (fun _ _ h => h) (fun _ h => h.elim) ?aF ?aB ?aS ?aL ?_
                  (case aR => repeat (first | exact (by repeat (first | (with_reducible exact HR198.out) | (with_reducible refine Kd.C_alloc ?_ _) | (with_reducible refine Kd.C_drewN ?_ _) | (with_reducible refine Kd.C_drew ?_) | exact HR198.out)) | (with_reducible refine Kd.C_alloc ?_ _) | (with_reducible refine Kd.C_drewN ?_ _) | (with_reducible refine Kd.C_drew ?_)))
                  (case aB => exact (by repeat (first | (with_reducible first | exact HB.out | apply bA | apply bN | apply bD | refine bX ?_ (by assumption)) | exact HB.out)))
                  (case aF => exact (fun k_ hk => ⟨Kd.fresh' (Kd.R_lt (by (with_reducible repeat (first | apply Kd.R_alloc | apply Kd.R_drewN | apply Kd.R_drew)); exact HO_6.out)) k_ hk, Kd.fresh' (Kd.R_lt (by (with_reducible repeat (first | apply Kd.R_alloc | apply Kd.R_drewN | apply Kd.R_drew)); exact HO204.out)) k_ hk, Kd.freshB (g := gb157) (o := .cells #[.int .i64 a1_0, .int .i64 a1_1] 26 (0, 0)) (by (with_reducible repeat (first | refine kN ?_ _ | refine kD ?_ | refine kA ?_ _)); exact BK157.out) k_ hk, Kd.freshB (g := gb166) (o := .cells #[.int .i64 t163, .int .i64 t164] 26 (0, 0)) (by (with_reducible repeat (first | refine kN ?_ _ | refine kD ?_ | refine kA ?_ _)); exact BK166.out) k_ hk⟩))
                  (case aO => exact (by (with_reducible repeat (first | apply Kd.R_alloc | apply Kd.R_drewN | apply Kd.R_drew)); exact Kd.R_mono HO194.out (fun _ hk => ⟨hk.1.1.1.2, ⟨hk.2, ⟨hk.1.1.2, hk.1.2⟩⟩⟩)))
                  (case aS => exact (bZ (by repeat (first | (with_reducible first | exact HB.out | apply bA | apply bN | apply bD | refine bX ?_ (by assumption)) | exact HB.out))))
                  (case aL => have := LMc60.out; omega)
                  intro v200 w73 ho hb hg hat
                  rw [← Ny199.out] at ho
                  have n0_ := Am (Kd.R_after (ok := (fun k_ => some k_ ≠ (v203 : Value).ownBlock ∧ k_ ≠ gb157 ∧ k_ ≠ gb166)) (by (with_reducible repeat (first | apply Kd.R_alloc | apply Kd.R_drewN | apply Kd.R_drew)); exact Kd.R_mono HO_6.out (fun _ hk => ⟨⟨hk.2, ⟨hk.1.1.1, hk.1.1.2⟩⟩, hk.1.2⟩)) hg hat)
                  have n1_ := Am (blk_grown (g := gb157) (o := .cells #[.int .i64 a1_0, .int .i64 a1_1] 26 (0, 0)) (by (with_reducible repeat (first | refine kN ?_ _ | refine kD ?_ | refine kA ?_ _)); exact BK157.out) hg (Kd.R_away HO194.out (fun _ hk => hk.1.1.2)))
                  have n2_ := Am (blk_grown (g := gb161) (o := .cells #[.int .i64 ((rd_T30 l0 x28_2).f0.f0), .int .i64 ((rd_T30 l0 x28_2).f0.f1), .int .i64 ((rd_T30 l0 x28_2).f1)] 30 (0, 0)) (by (with_reducible repeat (first | refine kN ?_ _ | refine kD ?_ | refine kA ?_ _)); exact BK161.out) hg (Kd.R_ne HO194.out BK161.out (by decide)))
                  have n3_ := Am (blk_grown (g := gb166) (o := .cells #[.int .i64 t163, .int .i64 t164] 26 (0, 0)) (by (with_reducible repeat (first | refine kN ?_ _ | refine kD ?_ | refine kA ?_ _)); exact BK166.out) hg (Kd.R_away HO194.out (fun _ hk => hk.1.2)))
                  have n4_ := Am (Kd.R_after (ok := (fun k_ => some k_ ≠ (.slice Ao66 x6_2.length co66 : Value).ownBlock ∧ k_ ≠ gb157 ∧ k_ ≠ gb166)) (by (with_reducible repeat (first | apply Kd.R_alloc | apply Kd.R_drewN | apply Kd.R_drew)); exact Kd.R_mono HO204.out (fun _ hk => ⟨⟨hk.1.1.1.2, ⟨hk.1.2, hk.2⟩⟩, hk.1.1.2⟩)) hg hat)
                  have n5_ := Am (hb)
                  have n6_ := Am ((show Kd.C k26 w73 Ao66 y195.length y195 from by rw [Ny195.out]; exact Kd.C_take (m := (x11_3 : Int).toNat) ((Kd.R_reads' (Kd.R_after (ok := (fun k_ => some k_ ≠ (v203 : Value).ownBlock ∧ k_ ≠ gb157 ∧ k_ ≠ gb166)) (by (with_reducible repeat (first | apply Kd.R_alloc | apply Kd.R_drewN | apply Kd.R_drew)); exact Kd.R_mono HO_6.out (fun _ hk => ⟨⟨hk.2, ⟨hk.1.1.1, hk.1.1.2⟩⟩, hk.1.2⟩)) hg hat)).2.2) KL68.out))
                  have n7_ := Am (ho)
                  clear HO_6 BK157 BK161 BK166 HO204 HB HR198 HO194
                  have HO_6 := n0_; have BK157 := n1_; have BK161 := n2_; have BK166 := n3_; have HO204 := n4_; have HB := n5_; have HR198 := n6_; have HO201 := n7_
                  clear n0_ n1_ n2_ n3_ n4_ n5_ n6_ n7_ ho hb hg hat
                  refine hK.out _ _ ⟨c20 BK166.out, c21 BK166.out⟩ (fun hHeld => ?_)
                  clear hK K
                  refine norm_ (a' := ?_) ?_ ?_
                  rotate_left
                  ·show Act.put _ (some 62) _ = _
                   simp only [Act.put, List.setIfInBounds_toArray, List.set_cons_zero, List.set_cons_succ, i64_w, i32_w]
                   rfl
                  exact norm_ (by simp only [putAll, Act.put, List.setIfInBounds_toArray, List.set_cons_zero, List.set_cons_succ]) (hCont (v193, v200, v203) _ ⟨hHeld, (by (with_reducible repeat (first | apply Kd.R_alloc | apply Kd.R_drewN | apply Kd.R_drew)); exact Kd.R_mono HO201.out (fun _ hk => ⟨hk.2.1, ⟨hk.1, ⟨hk.2.2.1, hk.2.2.2⟩⟩⟩)), (by (with_reducible repeat (first | apply Kd.R_alloc | apply Kd.R_drewN | apply Kd.R_drew)); exact Kd.R_mono HO204.out (fun _ hk => ⟨hk.2, ⟨hk.1.1, ⟨hk.1.2.1, hk.1.2.2⟩⟩⟩)), (by (with_reducible repeat (first | apply Kd.R_alloc | apply Kd.R_drewN | apply Kd.R_drew)); exact Kd.R_mono HO_6.out (fun _ hk => ⟨hk.2, ⟨hk.1.1, ⟨hk.1.2.1, hk.1.2.2⟩⟩⟩)), (by (with_reducible repeat (first | refine kN ?_ _ | refine kD ?_ | refine kA ?_ _)); exact BK157.out), (by (with_reducible repeat (first | refine kN ?_ _ | refine kD ?_ | refine kA ?_ _)); exact BK161.out), (by (with_reducible repeat (first | refine kN ?_ _ | refine kD ?_ | refine kA ?_ _)); exact BK166.out), (by repeat (first | (with_reducible first | exact HB.out | apply bA | apply bN | apply bD | refine bX ?_ (by assumption)) | exact HB.out))⟩)
                 skip
                 refine Kd.R_lit_step k26 _ 26 ?hg (N := 64) ?hd (xs := ([(⟨t163, t164⟩ : S26)] : List (S26))) (inner := [.int .i64 t163, .int .i64 t164]) (ok := fun _ => True) (okp := fun _ => True) ?hr ?hp (fun _ hk => hk) trivial (Below.refl _ _) (Nat.le_refl _) (by simp) ?_; (case hd => rfl); (case hg => rfl); (case hr => first | (go_simp; done) | (go_simp; rfl)); (case hp => exact (Reps.c2 (show Kd.M k26 _ _ _ (⟨t163, t164⟩ : S26) [.int .i64 t163, .int .i64 t164] from (k26_mkM _ _ _ (⟨t163, t164⟩ : S26) )) (Reps.none _ _)))
                 intro v203 w69 ho70 hb hg_ hnew_
                 clear hg_ hnew_
                 (first | rw [← Ny202.out] at ho70 | (simp only [Int.reduceToNat] at ho70; rw [← Ny202.out] at ho70))
                 have n0_ := Am (Kd.R_elder' (by (with_reducible repeat (first | apply Kd.R_alloc | apply Kd.R_drewN | apply Kd.R_drew)); exact HO_6.out) (Kd.R_base ho70) hb)
                 have n1_ := Am (Kd.R_lower (Kd.R_newB (Kd.R_newB (Kd.R_new' ho70 (Kd.R_lt (by (with_reducible repeat (first | apply Kd.R_alloc | apply Kd.R_drewN | apply Kd.R_drew)); exact HO_6.out))) (g := gb157) (o := .cells #[.int .i64 a1_0, .int .i64 a1_1] 26 (0, 0)) (by (with_reducible repeat (first | refine kN ?_ _ | refine kD ?_ | refine kA ?_ _)); exact BK157.out)) (g := gb166) (o := .cells #[.int .i64 t163, .int .i64 t164] 26 (0, 0)) (by (with_reducible repeat (first | refine kN ?_ _ | refine kD ?_ | refine kA ?_ _)); exact BK166.out)) (bZ (by repeat (first | (with_reducible first | exact HB.out | apply bA | apply bN | apply bD | refine bX ?_ (by assumption)) | exact HB.out))))
                 have hp0 := hpA BK157.out hb (fun _ _ h_ => by (with_reducible repeat (first | refine kN ?_ _ | refine kD ?_ | refine kA ?_ _)); exact h_)
                 have n5_ := Am (Kd.C_below (by repeat (first | (with_reducible exact HR198.out) | (with_reducible refine Kd.C_alloc ?_ _) | (with_reducible refine Kd.C_drewN ?_ _) | (with_reducible refine Kd.C_drew ?_) | exact HR198.out)) hb)
                 have hv := hvK (w := w) hb (by repeat (first | (with_reducible first | exact HB.out | apply bA | apply bN | apply bD | refine bX ?_ (by assumption)) | exact HB.out))
                 have n6_ := Am (bT hv hb)
                 clear HO_6 HR198 HB
                 have HO_6 := n0_; have HO204 := n1_
                 replace BK157 := hp0 BK157; replace BK161 := hp0 BK161; replace BK166 := hp0 BK166
                 have HR198 := n5_; have HB := n6_
                 clear n0_ n1_ n5_ n6_ hp0 hv hb ho70
                 refine hK.out _ _ ⟨c20 BK166.out, c21 BK166.out⟩ (fun hHeld => ?_)
                 clear hK K
                 refine norm_ (a' := ?_) ?_ ?_
                 rotate_left
                 ·show Act.put _ (some 64) _ = _
                  simp only [Act.put, List.setIfInBounds_toArray, List.set_cons_zero, List.set_cons_succ, i64_w, i32_w]
                  rfl
                 refine one_ (i := 0) (N := some 58) #[true, true, true, true, false, true, true, false, false] rfl rfl (one_of HT_.out (by kernel_rfl)) (by decide) (fun K hK => ?_)
                 refine Kd.R_lit_step k26 _ 26 ?hg (N := 58) ?hd (xs := ([] : List (S26))) (inner := []) (ok := fun _ => True) (okp := fun _ => True) ?hr ?hp (fun _ hk => hk) trivial (Below.refl _ _) (Nat.le_refl _) (by simp) ?_; (case hd => rfl); (case hg => rfl); (case hr => first | (go_simp; done) | (go_simp; rfl)); (case hp => exact (Reps.none _ _))
                 intro v193 w71 ho72 hb hg_ hnew_
                 clear hg_ hnew_
                 (first | rw [← Ny192.out] at ho72 | (simp only [Int.reduceToNat] at ho72; rw [← Ny192.out] at ho72))
                 have n0_ := Am (Kd.R_elder' (by (with_reducible repeat (first | apply Kd.R_alloc | apply Kd.R_drewN | apply Kd.R_drew)); exact HO_6.out) (Kd.R_base ho72) hb)
                 have n1_ := Am (Kd.R_elder' (by (with_reducible repeat (first | apply Kd.R_alloc | apply Kd.R_drewN | apply Kd.R_drew)); exact HO204.out) (Kd.R_base ho72) hb)
                 have n2_ := Am (Kd.R_lower (Kd.R_newB (Kd.R_newB (Kd.R_new' (Kd.R_new' ho72 (Kd.R_lt (by (with_reducible repeat (first | apply Kd.R_alloc | apply Kd.R_drewN | apply Kd.R_drew)); exact HO_6.out))) (Kd.R_lt (by (with_reducible repeat (first | apply Kd.R_alloc | apply Kd.R_drewN | apply Kd.R_drew)); exact HO204.out))) (g := gb157) (o := .cells #[.int .i64 a1_0, .int .i64 a1_1] 26 (0, 0)) (by (with_reducible repeat (first | refine kN ?_ _ | refine kD ?_ | refine kA ?_ _)); exact BK157.out)) (g := gb166) (o := .cells #[.int .i64 t163, .int .i64 t164] 26 (0, 0)) (by (with_reducible repeat (first | refine kN ?_ _ | refine kD ?_ | refine kA ?_ _)); exact BK166.out)) (bZ (by repeat (first | (with_reducible first | exact HB.out | apply bA | apply bN | apply bD | refine bX ?_ (by assumption)) | exact HB.out))))
                 have hp0 := hpA BK157.out hb (fun _ _ h_ => by (with_reducible repeat (first | refine kN ?_ _ | refine kD ?_ | refine kA ?_ _)); exact h_)
                 have n6_ := Am (Kd.C_below (by repeat (first | (with_reducible exact HR198.out) | (with_reducible refine Kd.C_alloc ?_ _) | (with_reducible refine Kd.C_drewN ?_ _) | (with_reducible refine Kd.C_drew ?_) | exact HR198.out)) hb)
                 have hv := hvK (w := w) hb (by repeat (first | (with_reducible first | exact HB.out | apply bA | apply bN | apply bD | refine bX ?_ (by assumption)) | exact HB.out))
                 have n7_ := Am (bT hv hb)
                 clear HO_6 HO204 HR198 HB
                 have HO_6 := n0_; have HO204 := n1_; have HO194 := n2_
                 replace BK157 := hp0 BK157; replace BK161 := hp0 BK161; replace BK166 := hp0 BK166
                 have HR198 := n6_; have HB := n7_
                 clear n0_ n1_ n2_ n6_ n7_ hp0 hv hb ho72
                 refine hK.out _ _ ⟨c20 BK166.out, c21 BK166.out⟩ (fun hHeld => ?_)
                 clear hK K
                 refine norm_ (a' := ?_) ?_ ?_
                 rotate_left
                 ·show Act.put _ (some 58) _ = _
                  simp only [Act.put, List.setIfInBounds_toArray, List.set_cons_zero, List.set_cons_succ, i64_w, i32_w]
                  rfl
                 refine one_ (i := 4) (N := some 62) (pT 9 7) rfl rfl (one_of HT_.out (by kernel_rfl)) (by decide) (fun K hK => ?_)
                 refine Kd.R_append_rows_step k26 (w0 := w) w.heap.size (by rfl) (.tmp 58) (.tmp 61) 35 26 (.agg #[(.int .i64 0), (.int .i64 0)]) 16 rfl Try.underlying35 info26 rfl (by decide) (by omega) v193 y192 y195 _ _ _ (fun k_ => some k_ ≠ (.slice Ao66 x6_2.length co66 : Value).ownBlock ∧ some k_ ≠ (v203 : Value).ownBlock ∧ k_ ≠ gb157 ∧ k_ ≠ gb166) (fun _ => False) rfl rfl ?aO ?aR (fun _ _ h => h) (fun _ h => h.elim) ?aF ?aB ?aS ?aL ?_
                 (case aR => repeat (first | exact (by repeat (first | (with_reducible exact HR198.out) | (with_reducible refine Kd.C_alloc ?_ _) | (with_reducible refine Kd.C_drewN ?_ _) | (with_reducible refine Kd.C_drew ?_) | exact HR198.out)) | (with_reducible refine Kd.C_alloc ?_ _) | (with_reducible refine Kd.C_drewN ?_ _) | (with_reducible refine Kd.C_drew ?_)))
                 (case aB => exact (by repeat (first | (with_reducible first | exact HB.out | apply bA | apply bN | apply bD | refine bX ?_ (by assumption)) | exact HB.out)))
                 (case aF => exact (fun k_ hk => ⟨Kd.fresh' (Kd.R_lt (by (with_reducible repeat (first | apply Kd.R_alloc | apply Kd.R_drewN | apply Kd.R_drew)); exact HO_6.out)) k_ hk, Kd.fresh' (Kd.R_lt (by (with_reducible repeat (first | apply Kd.R_alloc | apply Kd.R_drewN | apply Kd.R_drew)); exact HO204.out)) k_ hk, Kd.freshB (g := gb157) (o := .cells #[.int .i64 a1_0, .int .i64 a1_1] 26 (0, 0)) (by (with_reducible repeat (first | refine kN ?_ _ | refine kD ?_ | refine kA ?_ _)); exact BK157.out) k_ hk, Kd.freshB (g := gb166) (o := .cells #[.int .i64 t163, .int .i64 t164] 26 (0, 0)) (by (with_reducible repeat (first | refine kN ?_ _ | refine kD ?_ | refine kA ?_ _)); exact BK166.out) k_ hk⟩))
                 (case aO => exact (by (with_reducible repeat (first | apply Kd.R_alloc | apply Kd.R_drewN | apply Kd.R_drew)); exact Kd.R_mono HO194.out (fun _ hk => ⟨hk.1.1.1.2, ⟨hk.1.1.2, ⟨hk.1.2, hk.2⟩⟩⟩)))
                 (case aS => exact (bZ (by repeat (first | (with_reducible first | exact HB.out | apply bA | apply bN | apply bD | refine bX ?_ (by assumption)) | exact HB.out))))
                 (case aL => have := LMc60.out; omega)
                 intro v200 w73 ho hb hg hat
                 rw [← Ny199.out] at ho
                 have n0_ := Am (Kd.R_after (ok := (fun k_ => some k_ ≠ (v203 : Value).ownBlock ∧ k_ ≠ gb157 ∧ k_ ≠ gb166)) (by (with_reducible repeat (first | apply Kd.R_alloc | apply Kd.R_drewN | apply Kd.R_drew)); exact Kd.R_mono HO_6.out (fun _ hk => ⟨⟨hk.1.2, ⟨hk.1.1.1, hk.1.1.2⟩⟩, hk.2⟩)) hg hat)
                 have n1_ := Am (blk_grown (g := gb157) (o := .cells #[.int .i64 a1_0, .int .i64 a1_1] 26 (0, 0)) (by (with_reducible repeat (first | refine kN ?_ _ | refine kD ?_ | refine kA ?_ _)); exact BK157.out) hg (Kd.R_away HO194.out (fun _ hk => hk.1.2)))
                 have n2_ := Am (blk_grown (g := gb161) (o := .cells #[.int .i64 ((rd_T30 l0 x28_2).f0.f0), .int .i64 ((rd_T30 l0 x28_2).f0.f1), .int .i64 ((rd_T30 l0 x28_2).f1)] 30 (0, 0)) (by (with_reducible repeat (first | refine kN ?_ _ | refine kD ?_ | refine kA ?_ _)); exact BK161.out) hg (Kd.R_ne HO194.out BK161.out (by decide)))
                 have n3_ := Am (blk_grown (g := gb166) (o := .cells #[.int .i64 t163, .int .i64 t164] 26 (0, 0)) (by (with_reducible repeat (first | refine kN ?_ _ | refine kD ?_ | refine kA ?_ _)); exact BK166.out) hg (Kd.R_away HO194.out (fun _ hk => hk.2)))
                 have n4_ := Am (Kd.R_after (ok := (fun k_ => some k_ ≠ (.slice Ao66 x6_2.length co66 : Value).ownBlock ∧ k_ ≠ gb157 ∧ k_ ≠ gb166)) (by (with_reducible repeat (first | apply Kd.R_alloc | apply Kd.R_drewN | apply Kd.R_drew)); exact Kd.R_mono HO204.out (fun _ hk => ⟨⟨hk.1.1.1.2, ⟨hk.1.1.2, hk.1.2⟩⟩, hk.2⟩)) hg hat)
                 have n5_ := Am (hb)
                 have n6_ := Am ((show Kd.C k26 w73 Ao66 y195.length y195 from by rw [Ny195.out]; exact Kd.C_take (m := (x11_3 : Int).toNat) ((Kd.R_reads' (Kd.R_after (ok := (fun k_ => some k_ ≠ (v203 : Value).ownBlock ∧ k_ ≠ gb157 ∧ k_ ≠ gb166)) (by (with_reducible repeat (first | apply Kd.R_alloc | apply Kd.R_drewN | apply Kd.R_drew)); exact Kd.R_mono HO_6.out (fun _ hk => ⟨⟨hk.1.2, ⟨hk.1.1.1, hk.1.1.2⟩⟩, hk.2⟩)) hg hat)).2.2) KL68.out))
                 have n7_ := Am (ho)
                 clear HO_6 BK157 BK161 BK166 HO204 HB HR198 HO194
                 have HO_6 := n0_; have BK157 := n1_; have BK161 := n2_; have BK166 := n3_; have HO204 := n4_; have HB := n5_; have HR198 := n6_; have HO201 := n7_
                 clear n0_ n1_ n2_ n3_ n4_ n5_ n6_ n7_ ho hb hg hat
                 refine hK.out _ _ ⟨c20 BK166.out, c21 BK166.out⟩ (fun hHeld => ?_)
                 clear hK K
                 refine norm_ (a' := ?_) ?_ ?_
                 rotate_left
                 ·show Act.put _ (some 62) _ = _
                  simp only [Act.put, List.setIfInBounds_toArray, List.set_cons_zero, List.set_cons_succ, i64_w, i32_w]
                  rfl
                 exact norm_ (by simp only [putAll, Act.put, List.setIfInBounds_toArray, List.set_cons_zero, List.set_cons_succ]) (hCont (v193, v200, v203) _ ⟨hHeld, (by (with_reducible repeat (first | apply Kd.R_alloc | apply Kd.R_drewN | apply Kd.R_drew)); exact Kd.R_mono HO201.out (fun _ hk => ⟨hk.2.1, ⟨hk.1, ⟨hk.2.2.1, hk.2.2.2⟩⟩⟩)), (by (with_reducible repeat (first | apply Kd.R_alloc | apply Kd.R_drewN | apply Kd.R_drew)); exact Kd.R_mono HO204.out (fun _ hk => ⟨hk.2, ⟨hk.1.1, ⟨hk.1.2.1, hk.1.2.2⟩⟩⟩)), (by (with_reducible repeat (first | apply Kd.R_alloc | apply Kd.R_drewN | apply Kd.R_drew)); exact Kd.R_mono HO_6.out (fun _ hk => ⟨hk.2, ⟨hk.1.1, ⟨hk.1.2.1, hk.1.2.2⟩⟩⟩)), (by (with_reducible repeat (first | refine kN ?_ _ | refine kD ?_ | refine kA ?_ _)); exact BK157.out), (by (with_reducible repeat (first | refine kN ?_ _ | refine kD ?_ | refine kA ?_ _)); exact BK161.out), (by (with_reducible repeat (first | refine kN ?_ _ | refine kD ?_ | refine kA ?_ _)); exact BK166.out), (by repeat (first | (with_reducible first | exact HB.out | apply bA | apply bN | apply bD | refine bX ?_ (by assumption)) | exact HB.out))⟩)
                rintro ⟨v193, v200, v203⟩ w74 ⟨hS_, h0_, h1_, h2_, h3_, h4_, h5_, h6_⟩
                have n0_ : Aside0 (Kd.R k26 26 w74 w.heap.size (fun k_ => some k_ ≠ (v203 : Value).ownBlock ∧ some k_ ≠ (.slice Ao66 x6_2.length co66 : Value).ownBlock ∧ k_ ≠ gb157 ∧ k_ ≠ gb166) v200 y199) := ⟨h0_⟩
                have n1_ : Aside0 (Kd.R k26 26 w74 w.heap.size (fun k_ => some k_ ≠ (v200 : Value).ownBlock ∧ some k_ ≠ (.slice Ao66 x6_2.length co66 : Value).ownBlock ∧ k_ ≠ gb157 ∧ k_ ≠ gb166) v203 y202) := ⟨h1_⟩
                have n2_ : Aside0 (Kd.R k26 26 w74 w.heap.size (fun k_ => some k_ ≠ (v200 : Value).ownBlock ∧ some k_ ≠ (v203 : Value).ownBlock ∧ k_ ≠ gb157 ∧ k_ ≠ gb166) (.slice Ao66 x6_2.length co66) x6_2) := ⟨h2_⟩
                have n3_ : Aside0 (w74.heap[gb157]? = some (.cells #[.int .i64 a1_0, .int .i64 a1_1] 26 (0, 0))) := ⟨h3_⟩
                have n4_ : Aside0 (w74.heap[gb161]? = some (.cells #[.int .i64 ((rd_T30 l0 x28_2).f0.f0), .int .i64 ((rd_T30 l0 x28_2).f0.f1), .int .i64 ((rd_T30 l0 x28_2).f1)] 30 (0, 0))) := ⟨h4_⟩
                have n5_ : Aside0 (w74.heap[gb166]? = some (.cells #[.int .i64 t163, .int .i64 t164] 26 (0, 0))) := ⟨h5_⟩
                have n6_ : Aside0 (Below w.heap.size w w74) := ⟨h6_⟩
                clear HO_6 BK157 BK161 BK166 HB h0_ h1_ h2_ h3_ h4_ h5_ h6_
                have HO201 := n0_; have HO204 := n1_; have HO_6 := n2_; have BK157 := n3_; have BK161 := n4_; have BK166 := n5_; have HB := n6_
                clear n0_ n1_ n2_ n3_ n4_ n5_ n6_
                have hHeld : w74.cell? ⟨gb166, 0, none⟩ = some (.int .i64 t163) ∧ w74.cell? ⟨gb166, 1, none⟩ = some (.int .i64 t164) := hS_
                obtain ⟨Ao76, co76, eo76⟩ := Kd.R_slice HO204.out
                (first | subst eo76 | (injection eo76 with f1_ f2_ f3_; have f4_ := f1_.symm; have f5_ := f3_.symm; clear f1_ f2_ f3_; subst f4_; subst f5_))
                refine norm_ (a' := ?_) ?_ ?_
                rotate_left
                ·simp only [putAll, Act.put, List.setIfInBounds_toArray, List.set_cons_zero, List.set_cons_succ]
                 rfl
                refine one_ (i := 7) (N := some 65) (pT 9 8) rfl rfl (one_of HT_.out (by kernel_rfl)) (by decide) (fun K hK => ?_)
                refine Kd.R_append_rows_step k26 (w0 := w) w.heap.size (by rfl) (.tmp 62) (.tmp 64) 35 26 (.agg #[(.int .i64 0), (.int .i64 0)]) 16 rfl Try.underlying35 info26 rfl (by decide) (by omega) v200 y199 y202 _ _ _ (fun k_ => some k_ ≠ (.slice Ao66 x6_2.length co66 : Value).ownBlock ∧ some k_ ≠ (.slice Ao76 y202.length co76 : Value).ownBlock ∧ k_ ≠ gb157 ∧ k_ ≠ gb166) (fun _ => False) rfl rfl ?aO ?aR (fun _ _ h => h) (fun _ h => h.elim) ?aF ?aB ?aS ?aL ?_
                (case aR => repeat (first | exact (Kd.R_reads' HO204.out).2.2 | (with_reducible refine Kd.C_alloc ?_ _) | (with_reducible refine Kd.C_drewN ?_ _) | (with_reducible refine Kd.C_drew ?_)))
                (case aB => exact (by repeat (first | (with_reducible first | exact HB.out | apply bA | apply bN | apply bD | refine bX ?_ (by assumption)) | exact HB.out)))
                (case aF => exact (fun k_ hk => ⟨Kd.fresh' (Kd.R_lt (by (with_reducible repeat (first | apply Kd.R_alloc | apply Kd.R_drewN | apply Kd.R_drew)); exact HO_6.out)) k_ hk, Kd.fresh' (Kd.R_lt (by (with_reducible repeat (first | apply Kd.R_alloc | apply Kd.R_drewN | apply Kd.R_drew)); exact HO204.out)) k_ hk, Kd.freshB (g := gb157) (o := .cells #[.int .i64 a1_0, .int .i64 a1_1] 26 (0, 0)) (by (with_reducible repeat (first | refine kN ?_ _ | refine kD ?_ | refine kA ?_ _)); exact BK157.out) k_ hk, Kd.freshB (g := gb166) (o := .cells #[.int .i64 t163, .int .i64 t164] 26 (0, 0)) (by (with_reducible repeat (first | refine kN ?_ _ | refine kD ?_ | refine kA ?_ _)); exact BK166.out) k_ hk⟩))
                (case aO => exact (by (with_reducible repeat (first | apply Kd.R_alloc | apply Kd.R_drewN | apply Kd.R_drew)); exact Kd.R_mono HO201.out (fun _ hk => ⟨hk.2.1, ⟨hk.1, ⟨hk.2.2.1, hk.2.2.2⟩⟩⟩)))
                (case aS => exact (bZ (by repeat (first | (with_reducible first | exact HB.out | apply bA | apply bN | apply bD | refine bX ?_ (by assumption)) | exact HB.out))))
                (case aL => have := LMc61.out; omega)
                intro v206 w75 ho hb hg hat
                rw [← Ny205.out] at ho
                have n0_ := Am (Kd.R_after (ok := (fun k_ => some k_ ≠ (.slice Ao76 y202.length co76 : Value).ownBlock ∧ k_ ≠ gb157 ∧ k_ ≠ gb166)) (by (with_reducible repeat (first | apply Kd.R_alloc | apply Kd.R_drewN | apply Kd.R_drew)); exact Kd.R_mono HO_6.out (fun _ hk => ⟨⟨hk.2.1, ⟨hk.2.2.1, hk.2.2.2⟩⟩, hk.1⟩)) hg hat)
                have n1_ := Am (blk_grown (g := gb157) (o := .cells #[.int .i64 a1_0, .int .i64 a1_1] 26 (0, 0)) (by (with_reducible repeat (first | refine kN ?_ _ | refine kD ?_ | refine kA ?_ _)); exact BK157.out) hg (Kd.R_away HO201.out (fun _ hk => hk.2.2.1)))
                have n2_ := Am (blk_grown (g := gb161) (o := .cells #[.int .i64 ((rd_T30 l0 x28_2).f0.f0), .int .i64 ((rd_T30 l0 x28_2).f0.f1), .int .i64 ((rd_T30 l0 x28_2).f1)] 30 (0, 0)) (by (with_reducible repeat (first | refine kN ?_ _ | refine kD ?_ | refine kA ?_ _)); exact BK161.out) hg (Kd.R_ne HO201.out BK161.out (by decide)))
                have n3_ := Am (blk_grown (g := gb166) (o := .cells #[.int .i64 t163, .int .i64 t164] 26 (0, 0)) (by (with_reducible repeat (first | refine kN ?_ _ | refine kD ?_ | refine kA ?_ _)); exact BK166.out) hg (Kd.R_away HO201.out (fun _ hk => hk.2.2.2)))
                have n4_ := Am (Kd.R_after (ok := (fun k_ => some k_ ≠ (.slice Ao66 x6_2.length co66 : Value).ownBlock ∧ k_ ≠ gb157 ∧ k_ ≠ gb166)) (by (with_reducible repeat (first | apply Kd.R_alloc | apply Kd.R_drewN | apply Kd.R_drew)); exact Kd.R_mono HO204.out (fun _ hk => ⟨⟨hk.2.1, ⟨hk.2.2.1, hk.2.2.2⟩⟩, hk.1⟩)) hg hat)
                have n5_ := Am (hb)
                have n6_ := Am (ho)
                clear HO_6 BK157 BK161 BK166 HO204 HB HO201
                have HO_6 := n0_; have BK157 := n1_; have BK161 := n2_; have BK166 := n3_; have HO204 := n4_; have HB := n5_; have HO207 := n6_
                clear n0_ n1_ n2_ n3_ n4_ n5_ n6_ ho hb hg hat
                refine hK.out _ _ ⟨c20 BK166.out, c21 BK166.out⟩ (fun hHeld => ?_)
                clear hK K
                refine norm_ (a' := ?_) ?_ ?_
                rotate_left
                ·show Act.put _ (some 65) _ = _
                 simp only [Act.put, List.setIfInBounds_toArray, List.set_cons_zero, List.set_cons_succ, i64_w, i32_w]
                 rfl
                refine pI (v := ?_) (a' := ?_) rfl (any_of HT_.out (by kernel_rfl)) (fun _ _ _ h => h) (Or.inl ⟨by rfl, ?_⟩) ?_ ?_
                rotate_left
                ·intro w'
                 go_simp
                 with_reducible rfl
                rotate_left
                ·show Act.put _ (some _) _ = _
                 simp only [Act.put, List.setIfInBounds_toArray, List.set_cons_zero, List.set_cons_succ, i64_w, i32_w]
                 rfl
                refine done_ (done_of HT_.out (by kernel_rfl)) ?_
                have q77 : (x11_3 : Int) ≤ ((x6_2.length : Int) : Int) := of_decide_eq_true (by first | (with_reducible assumption) | assumption)
                obtain ⟨i077, hi077, _, hsz77, _⟩ := info_parts info26
                have hroom77 : x6_2.length ≤ co66 := (Kd.R_reads' HO_6.out).2.1
                have hC77 : Kd.C k26 _ Ao66 x6_2.length x6_2 := (Kd.R_reads' HO_6.out).2.2
                have q077 : (0 : Int) ≤ (x11_3 : Int) := of_decide_eq_true (by first | (with_reducible assumption) | assumption)
                have hcut77 := cut_from (P := Try.prog) 35 26 .i64 Try.underlying35 hi077 2 hsz77 Ao66 x6_2.length co66 x11_3 q077 q77
                have hr77 := Kd.C_drop (m := (x11_3 : Int).toNat) (c := co66) hC77 (by omega) hroom77
                obtain ⟨A77, hA77⟩ : ∃ A1, A1 = (if co66 = (x11_3 : Int).toNat then Ao66 else (Ao66 : Option Addr).map (·.add ((x11_3 : Int).toNat * 2))) := ⟨_, rfl⟩
                obtain ⟨c77, hc77⟩ : ∃ c1, c1 = co66 - (x11_3 : Int).toNat := ⟨_, rfl⟩
                have hy77 : y208.length = x6_2.length - (x11_3 : Int).toNat := (by rw [Ny208.out, List.length_drop] <;> omega)
                rw [show (x6_2).drop (x11_3 : Int).toNat = y208 from Ny208.out.symm] at hr77
                replace hr77 : Kd.C k26 _ A77 y208.length y208 := (by rw [hA77]; exact hr77)
                rw [← hy77, ← hA77, ← hc77] at hcut77
                have HR211 := Am hr77
                have HC211 := Am (show y208.length ≤ c77 from by rw [hy77, hc77]; exact Nat.sub_le_sub_right hroom77 _)
                clear hr77 hC77 hroom77 hi077 hsz77 hc77
                have KY77 := Am hy77
                have KA77 := Am hA77
                clear hy77 hA77
                have KL77 := Am (show (x11_3 : Int).toNat ≤ x6_2.length from by omega)
                replace q77 := eq_true q77
                try go_wp2_with (first | ((with_reducible refine gate_builtin (b := .append) (xs := #[.tmp 66, .tmp 69]) rfl ?_); at_builtin; refine Kd.R_append_rows k26 (w0 := w) w.heap.size rfl (.tmp 66) (.tmp 69) 35 26 (.agg #[(.int .i64 0), (.int .i64 0)]) 16 rfl Try.underlying35 info26 rfl (by decide) (by omega) v206 y205 y208 _ _ _ (fun k_ => some k_ ≠ (.slice Ao66 x6_2.length co66 : Value).ownBlock ∧ some k_ ≠ (.slice Ao76 y202.length co76 : Value).ownBlock ∧ k_ ≠ gb157 ∧ k_ ≠ gb166) (fun _ => False) rfl rfl ?aO ?aR (fun _ _ h => h) (fun _ h => h.elim) ?aF ?aB ?aS ?aL ?_; (case aR => repeat (first | exact (by repeat (first | (with_reducible exact HR211.out) | (with_reducible refine Kd.C_alloc ?_ _) | (with_reducible refine Kd.C_drewN ?_ _) | (with_reducible refine Kd.C_drew ?_) | exact HR211.out)) | (with_reducible refine Kd.C_alloc ?_ _) | (with_reducible refine Kd.C_drewN ?_ _) | (with_reducible refine Kd.C_drew ?_))); (case aB => exact (by repeat (first | (with_reducible first | exact HB.out | apply bA | apply bN | apply bD | refine bX ?_ (by assumption)) | exact HB.out))); (case aF => exact (fun k_ hk => ⟨Kd.fresh' (Kd.R_lt (by (with_reducible repeat (first | apply Kd.R_alloc | apply Kd.R_drewN | apply Kd.R_drew)); exact HO_6.out)) k_ hk, Kd.fresh' (Kd.R_lt (by (with_reducible repeat (first | apply Kd.R_alloc | apply Kd.R_drewN | apply Kd.R_drew)); exact HO204.out)) k_ hk, Kd.freshB (g := gb157) (o := .cells #[.int .i64 a1_0, .int .i64 a1_1] 26 (0, 0)) (by (with_reducible repeat (first | refine kN ?_ _ | refine kD ?_ | refine kA ?_ _)); exact BK157.out) k_ hk, Kd.freshB (g := gb166) (o := .cells #[.int .i64 t163, .int .i64 t164] 26 (0, 0)) (by (with_reducible repeat (first | refine kN ?_ _ | refine kD ?_ | refine kA ?_ _)); exact BK166.out) k_ hk⟩)); (case aO => exact (by (with_reducible repeat (first | apply Kd.R_alloc | apply Kd.R_drewN | apply Kd.R_drew)); exact HO207.out)); (case aS => exact (bZ (by repeat (first | (with_reducible first | exact HB.out | apply bA | apply bN | apply bD | refine bX ?_ (by assumption)) | exact HB.out)))); (case aL => have := LMc64.out; omega); intro v213 w78 ho hb hg hat; rw [← Ny212.out] at ho; have n0_ := Am (Kd.R_after (ok := (fun k_ => some k_ ≠ (.slice Ao76 y202.length co76 : Value).ownBlock ∧ k_ ≠ gb157 ∧ k_ ≠ gb166)) (by (with_reducible repeat (first | apply Kd.R_alloc | apply Kd.R_drewN | apply Kd.R_drew)); exact HO_6.out) hg hat); have n1_ := Am (blk_grown (g := gb157) (o := .cells #[.int .i64 a1_0, .int .i64 a1_1] 26 (0, 0)) (by (with_reducible repeat (first | refine kN ?_ _ | refine kD ?_ | refine kA ?_ _)); exact BK157.out) hg (Kd.R_away HO207.out (fun _ hk => hk.2.2.1))); have n2_ := Am (blk_grown (g := gb161) (o := .cells #[.int .i64 ((rd_T30 l0 x28_2).f0.f0), .int .i64 ((rd_T30 l0 x28_2).f0.f1), .int .i64 ((rd_T30 l0 x28_2).f1)] 30 (0, 0)) (by (with_reducible repeat (first | refine kN ?_ _ | refine kD ?_ | refine kA ?_ _)); exact BK161.out) hg (Kd.R_ne HO207.out BK161.out (by decide))); have n3_ := Am (blk_grown (g := gb166) (o := .cells #[.int .i64 t163, .int .i64 t164] 26 (0, 0)) (by (with_reducible repeat (first | refine kN ?_ _ | refine kD ?_ | refine kA ?_ _)); exact BK166.out) hg (Kd.R_away HO207.out (fun _ hk => hk.2.2.2))); have n4_ := Am (Kd.R_after (ok := (fun k_ => some k_ ≠ (.slice Ao66 x6_2.length co66 : Value).ownBlock ∧ k_ ≠ gb157 ∧ k_ ≠ gb166)) (by (with_reducible repeat (first | apply Kd.R_alloc | apply Kd.R_drewN | apply Kd.R_drew)); exact HO204.out) hg hat); have n5_ := Am (hb); have n6_ := Am ((show Kd.C k26 w78 A77 y208.length y208 from by rw [Ny208.out, KA77.out]; exact Kd.C_drop (m := (x11_3 : Int).toNat) (c := co66) ((Kd.R_reads' (Kd.R_after (ok := (fun k_ => some k_ ≠ (.slice Ao76 y202.length co76 : Value).ownBlock ∧ k_ ≠ gb157 ∧ k_ ≠ gb166)) (by (with_reducible repeat (first | apply Kd.R_alloc | apply Kd.R_drewN | apply Kd.R_drew)); exact HO_6.out) hg hat)).2.2) KL77.out ((Kd.R_reads' (Kd.R_after (ok := (fun k_ => some k_ ≠ (.slice Ao76 y202.length co76 : Value).ownBlock ∧ k_ ≠ gb157 ∧ k_ ≠ gb166)) (by (with_reducible repeat (first | apply Kd.R_alloc | apply Kd.R_drewN | apply Kd.R_drew)); exact HO_6.out) hg hat)).2.1))); have n7_ := Am (ho); clear HO_6; clear BK157; clear BK161; clear BK166; clear HO204; clear HB; clear HR211; clear HO207; have HO_6 := n0_; have BK157 := n1_; have BK161 := n2_; have BK166 := n3_; have HO204 := n4_; have HB := n5_; have HR211 := n6_; have HO214 := n7_; clear n0_ n1_ n2_ n3_ n4_ n5_ n6_ n7_; clear ho hb hg hat))
                go_roundg k3
                case measure => have := HJ2.out; have := HK2.out; have := HK3.out; omega
                case rel => exact ⟨(y212), (wrap64 (x28_2 + 1)), (by first | rfl | (simp; done) | (simp [*]; done)), H', ⟨by have := HJ2.out; have := HK2.out; have := HK3.out; omega⟩, ⟨by (with_reducible repeat (first | apply Kd.R_alloc | apply Kd.R_drewN | apply Kd.R_drew)); exact Kd.R_mono HO214.out (fun _ hk => hk.2.2.1)⟩, ⟨by (with_reducible repeat (first | refine kN ?_ _ | refine kD ?_ | refine kA ?_ _)); exact BK157.out⟩, ⟨by repeat (first | (with_reducible first | exact HB.out | apply bA | apply bN | apply bD | refine bX ?_ (by assumption)) | exact HB.out)⟩⟩
               rw [if_neg c64] at H
               exact absurd H (by simp)
              rw [if_neg c61] at H
              exact absurd H (by simp)
             rw [if_neg c60] at H
             exact absurd H (by simp)
            rw [if_neg c59] at H
            exact absurd H (by simp)
           rw [if_neg c58] at H
           exact absurd H (by simp)
        replace c17 := Bool.eq_false_iff.mpr c17
        subst c17
        have H1 : (some (([] : List (S26)), false)) = some (r1, r2) := by rw [if_neg (show ¬ (false = true) by decide)] at H; exact H
        clear H
        have H := H1
        clear H1
        simp only [Option.some.injEq, Prod.mk.injEq] at H
        obtain ⟨rfl, rfl⟩ := H
        have p160 : 0 ≤ (x28_2 : Int) := of_decide_eq_true (by first | (with_reducible assumption) | assumption)
        have q160 : x28_2 < (l0.length : Int) := of_decide_eq_true (by first | (with_reducible assumption) | assumption)
        obtain ⟨ad160, e160, hx160_0, hx160_1, hx160_2⟩ := at_T30 HR0.out x28_2 p160 q160
        cases e160
        replace hx160_0 := (HB.out.cell (World.block_lt_of_cell? w _ hx160_0)).trans hx160_0
        replace hx160_1 := (HB.out.cell (World.block_lt_of_cell? w _ hx160_1)).trans hx160_1
        replace hx160_2 := (HB.out.cell (World.block_lt_of_cell? w _ hx160_2)).trans hx160_2
        replace p160 := eq_true p160
        replace q160 := eq_true q160
        go_wp2_with (first | ((with_reducible refine gate_dst (N := 8) rfl ?_); refine box_event ?hg (N := 8) ?hd (cs := #[.int .i64 0, .int .i64 0, .int .i64 0]) (t := 30) ?hr ?_; (case hd => rfl); (case hg => rfl); (case hr => first | (go_simp; done) | (go_simp; rfl)); intro gb161 hg w79 hbox hb; have n0_ := Am (Kd.R_below (by (with_reducible repeat (first | apply Kd.R_alloc | apply Kd.R_drewN | apply Kd.R_drew)); exact HO_6.out) hb); have hp0 := hpA BK157.out hb (fun _ _ h_ => by (with_reducible repeat (first | refine kN ?_ _ | refine kD ?_ | refine kA ?_ _)); exact h_); have hv := hvK (w := w) hb (by repeat (first | (with_reducible first | exact HB.out | apply bA | apply bN | apply bD | refine bX ?_ (by assumption)) | exact HB.out)); have n2_ := Am (bT hv hb); have n3_ := Am (hbox); have GW161 := kG hg hv; have GE161 := kG hg hv; have hp1 := hpK BK157.out hb (fun _ _ h_ => by (with_reducible repeat (first | refine kN ?_ _ | refine kD ?_ | refine kA ?_ _)); exact h_); have NB157_161 := kX hg (hp1 BK157.out); have NB161_157 := kY hg (hp1 BK157.out); clear HO_6; clear HB; have HO_6 := n0_; replace BK157 := hp0 BK157; have HB := n2_; have BK161 := n3_; clear n0_ n2_ n3_ hp0 hp1 hv; clear hb hbox hg; have hnb80 := NB161_157.out; have hnc80 := NB157_161.out; have hcz81_0 := c30 BK161.out; have hcz81_1 := c31 BK161.out; have hcz81_2 := c32 BK161.out; have hfz81_0 := kF BK161.out 0; have hfz81_1 := kF BK161.out 1; have hfz81_2 := kF BK161.out 2) | ((with_reducible refine gate_callee (f := 63) rfl ?_); refine goesL_ (some 33) rfl rfl Try.func63 (by kernel_rfl) rfl #[.agg #[.int .i64 ((rd_T30 l0 x28_2).f0.f0), .int .i64 ((rd_T30 l0 x28_2).f0.f1), .int .i64 ((rd_T30 l0 x28_2).f1)]] rfl (by (try simp only [List.map_toArray, List.map_cons, List.map_nil]); first | done | rfl | (simp only [List.length_drop, List.length_take]; rfl)) ?_; (with_reducible refine (spec_meGood.calls k2 ((rd_T30 l0 x28_2).f0.f0) ((rd_T30 l0 x28_2).f0.f1) ((rd_T30 l0 x28_2).f1) true _ A14.out).mono ?_); rintro e w82 ⟨rfl, hb⟩; refine ⟨_, rfl, ?_⟩; have n0_ := Am (Kd.R_below (by (with_reducible repeat (first | apply Kd.R_alloc | apply Kd.R_drewN | apply Kd.R_drew)); exact (Kd.R_mono (Kd.R_far (p := ⟨gb161, 2, none⟩) (Kd.R_far (p := ⟨gb161, 1, none⟩) (Kd.R_far (p := ⟨gb161, 0, none⟩) (Kd.R_types HO_6.out BK161.out (by decide)) (fun _ hk => hk.2) (.int .i64 ((rd_T30 l0 x28_2).f0.f0))) (fun _ hk => hk.2) (.int .i64 ((rd_T30 l0 x28_2).f0.f1))) (fun _ hk => hk.2) (.int .i64 ((rd_T30 l0 x28_2).f1))) (fun _ h_ => h_.1))) hb); have hp0 := hpB gb161 BK157.out hb (fun _ _ q_ h_ => by (with_reducible repeat (first | refine kN ?_ _ | refine kD ?_ | refine kA ?_ _ | refine kZ ?_ q_ _)); exact h_); have n2_ := Am (kB (g := gb161) (o := .cells #[.int .i64 ((rd_T30 l0 x28_2).f0.f0), .int .i64 ((rd_T30 l0 x28_2).f0.f1), .int .i64 ((rd_T30 l0 x28_2).f1)] 30 (0, 0)) (by (with_reducible repeat (first | refine kN ?_ _ | refine kD ?_ | refine kA ?_ _)); refine kP (cs := #[.int .i64 ((rd_T30 l0 x28_2).f0.f0), .int .i64 ((rd_T30 l0 x28_2).f0.f1), .int .i64 0]) ?_ 2 _ rfl; (with_reducible repeat (first | refine kN ?_ _ | refine kD ?_ | refine kA ?_ _)); refine kP (cs := #[.int .i64 ((rd_T30 l0 x28_2).f0.f0), .int .i64 0, .int .i64 0]) ?_ 1 _ rfl; (with_reducible repeat (first | refine kN ?_ _ | refine kD ?_ | refine kA ?_ _)); refine kP (cs := #[.int .i64 0, .int .i64 0, .int .i64 0]) ?_ 0 _ rfl; (with_reducible repeat (first | refine kN ?_ _ | refine kD ?_ | refine kA ?_ _)); exact BK161.out) hb); have hv := hvK (w := w) hb (by repeat (first | (with_reducible first | exact HB.out | apply bA | apply bN | apply bD | refine bX ?_ (by assumption)) | exact HB.out)); have n3_ := Am (bT hv hb); clear HO_6; clear BK161; clear HB; have HO_6 := n0_; replace BK157 := hp0 NB157_161 BK157; have BK161 := n2_; have HB := n3_; clear n0_ n2_ n3_ hp0 hv; (try clear hb); (try clear hk); have hcz83_0 := c30 BK161.out; have hcz83_1 := c31 BK161.out; have hcz83_2 := c32 BK161.out; have hfz83_0 := kF BK161.out 0; have hfz83_1 := kF BK161.out 1; have hfz83_2 := kF BK161.out 2; have hcz84_0 := c20 BK157.out; have hcz84_1 := c21 BK157.out; have hfz84_0 := kF BK157.out 0; have hfz84_1 := kF BK157.out 1) | ((with_reducible refine gate_callee (f := 64) rfl ?_); refine goesL_ (some 38) rfl rfl Try.func64 (by kernel_rfl) rfl #[.agg #[.int .i64 ((rd_T30 l0 x28_2).f0.f0), .int .i64 ((rd_T30 l0 x28_2).f0.f1), .int .i64 ((rd_T30 l0 x28_2).f1)], .agg #[.int .i64 a1_0, .int .i64 a1_1]] rfl (by (try simp only [List.map_toArray, List.map_cons, List.map_nil]); first | done | rfl | (simp only [List.length_drop, List.length_take]; rfl)) ?_; (with_reducible refine (spec_meAt.calls k2 ((rd_T30 l0 x28_2).f0.f0) ((rd_T30 l0 x28_2).f0.f1) ((rd_T30 l0 x28_2).f1) a1_0 a1_1 t163 t164 false _ A16.out).mono ?_); rintro e w85 ⟨rfl, hb⟩; refine ⟨_, rfl, ?_⟩; have n0_ := Am (Kd.R_below (by (with_reducible repeat (first | apply Kd.R_alloc | apply Kd.R_drewN | apply Kd.R_drew)); exact HO_6.out) hb); have hp0 := hpA BK157.out hb (fun _ _ h_ => by (with_reducible repeat (first | refine kN ?_ _ | refine kD ?_ | refine kA ?_ _)); exact h_); have hv := hvK (w := w) hb (by repeat (first | (with_reducible first | exact HB.out | apply bA | apply bN | apply bD | refine bX ?_ (by assumption)) | exact HB.out)); have n3_ := Am (bT hv hb); clear HO_6; clear HB; have HO_6 := n0_; replace BK157 := hp0 BK157; replace BK161 := hp0 BK161; have HB := n3_; clear n0_ n3_ hp0 hv; (try clear hb)) | ((with_reducible refine gate_dst (N := 9) rfl ?_); refine box_event ?hg (N := 9) ?hd (cs := #[.int .i64 0, .int .i64 0]) (t := 26) ?hr ?_; (case hd => rfl); (case hg => rfl); (case hr => first | (go_simp; done) | (go_simp; rfl)); intro gb166 hg w86 hbox hb; have n0_ := Am (Kd.R_below (Kd.R_elderB (by (with_reducible repeat (first | apply Kd.R_alloc | apply Kd.R_drewN | apply Kd.R_drew)); exact HO_6.out) gb166 (Nat.le_of_eq hg.symm)) hb); have hp0 := hpA BK157.out hb (fun _ _ h_ => by (with_reducible repeat (first | refine kN ?_ _ | refine kD ?_ | refine kA ?_ _)); exact h_); have hv := hvK (w := w) hb (by repeat (first | (with_reducible first | exact HB.out | apply bA | apply bN | apply bD | refine bX ?_ (by assumption)) | exact HB.out)); have n3_ := Am (bT hv hb); have n4_ := Am (hbox); have GW166 := kG hg hv; have GE166 := kG hg hv; have hp1 := hpK BK157.out hb (fun _ _ h_ => by (with_reducible repeat (first | refine kN ?_ _ | refine kD ?_ | refine kA ?_ _)); exact h_); have NB157_166 := kX hg (hp1 BK157.out); have NB166_157 := kY hg (hp1 BK157.out); have NB161_166 := kX hg (hp1 BK161.out); have NB166_161 := kY hg (hp1 BK161.out); clear HO_6; clear HB; have HO_6 := n0_; replace BK157 := hp0 BK157; replace BK161 := hp0 BK161; have HB := n3_; have BK166 := n4_; clear n0_ n3_ n4_ hp0 hp1 hv; clear hb hbox hg; have hnb87 := NB166_157.out; have hnc87 := NB157_166.out; have hnb88 := NB166_161.out; have hnc88 := NB161_166.out; have hcz89_0 := c20 BK166.out; have hcz89_1 := c21 BK166.out; have hfz89_0 := kF BK166.out 0; have hfz89_1 := kF BK166.out 1))
        go_ret2
        exact ⟨_, by first | rfl | (simp [errW_none, errW_some] <;> rfl) | (simp [*, errW_none, errW_some] <;> rfl), by first | exact Kd.R_nil _ _ _ _ _ | exact Kd.N_nil _ _ _ _ _ | exact Kd.V_nil _ _ _ _ _ | exact Kd.Q_nil _ _ _ _ _ | exact Kd.S_nil _ _ _ _ _, by repeat (first | (with_reducible first | exact HB.out | apply bA | apply bN | apply bD | refine bX ?_ (by assumption)) | exact HB.out)⟩
       replace c15 := Bool.eq_false_iff.mpr c15
       subst c15
       have H1 : (some (([] : List (S26)), false)) = some (r1, r2) := by rw [if_neg (show ¬ (false = true) by decide)] at H; exact H
       clear H
       have H := H1
       clear H1
       simp only [Option.some.injEq, Prod.mk.injEq] at H
       obtain ⟨rfl, rfl⟩ := H
       have p160 : 0 ≤ (x28_2 : Int) := of_decide_eq_true (by first | (with_reducible assumption) | assumption)
       have q160 : x28_2 < (l0.length : Int) := of_decide_eq_true (by first | (with_reducible assumption) | assumption)
       obtain ⟨ad160, e160, hx160_0, hx160_1, hx160_2⟩ := at_T30 HR0.out x28_2 p160 q160
       cases e160
       replace hx160_0 := (HB.out.cell (World.block_lt_of_cell? w _ hx160_0)).trans hx160_0
       replace hx160_1 := (HB.out.cell (World.block_lt_of_cell? w _ hx160_1)).trans hx160_1
       replace hx160_2 := (HB.out.cell (World.block_lt_of_cell? w _ hx160_2)).trans hx160_2
       replace p160 := eq_true p160
       replace q160 := eq_true q160
       go_wp2_with (first | ((with_reducible refine gate_dst (N := 8) rfl ?_); refine box_event ?hg (N := 8) ?hd (cs := #[.int .i64 0, .int .i64 0, .int .i64 0]) (t := 30) ?hr ?_; (case hd => rfl); (case hg => rfl); (case hr => first | (go_simp; done) | (go_simp; rfl)); intro gb161 hg w90 hbox hb; have n0_ := Am (Kd.R_below (by (with_reducible repeat (first | apply Kd.R_alloc | apply Kd.R_drewN | apply Kd.R_drew)); exact HO_6.out) hb); have hp0 := hpA BK157.out hb (fun _ _ h_ => by (with_reducible repeat (first | refine kN ?_ _ | refine kD ?_ | refine kA ?_ _)); exact h_); have hv := hvK (w := w) hb (by repeat (first | (with_reducible first | exact HB.out | apply bA | apply bN | apply bD | refine bX ?_ (by assumption)) | exact HB.out)); have n2_ := Am (bT hv hb); have n3_ := Am (hbox); have GW161 := kG hg hv; have GE161 := kG hg hv; have hp1 := hpK BK157.out hb (fun _ _ h_ => by (with_reducible repeat (first | refine kN ?_ _ | refine kD ?_ | refine kA ?_ _)); exact h_); have NB157_161 := kX hg (hp1 BK157.out); have NB161_157 := kY hg (hp1 BK157.out); clear HO_6; clear HB; have HO_6 := n0_; replace BK157 := hp0 BK157; have HB := n2_; have BK161 := n3_; clear n0_ n2_ n3_ hp0 hp1 hv; clear hb hbox hg; have hnb91 := NB161_157.out; have hnc91 := NB157_161.out; have hcz92_0 := c30 BK161.out; have hcz92_1 := c31 BK161.out; have hcz92_2 := c32 BK161.out; have hfz92_0 := kF BK161.out 0; have hfz92_1 := kF BK161.out 1; have hfz92_2 := kF BK161.out 2) | ((with_reducible refine gate_callee (f := 63) rfl ?_); refine goesL_ (some 33) rfl rfl Try.func63 (by kernel_rfl) rfl #[.agg #[.int .i64 ((rd_T30 l0 x28_2).f0.f0), .int .i64 ((rd_T30 l0 x28_2).f0.f1), .int .i64 ((rd_T30 l0 x28_2).f1)]] rfl (by (try simp only [List.map_toArray, List.map_cons, List.map_nil]); first | done | rfl | (simp only [List.length_drop, List.length_take]; rfl)) ?_; (with_reducible refine (spec_meGood.calls k2 ((rd_T30 l0 x28_2).f0.f0) ((rd_T30 l0 x28_2).f0.f1) ((rd_T30 l0 x28_2).f1) false _ A14.out).mono ?_); rintro e w93 ⟨rfl, hb⟩; refine ⟨_, rfl, ?_⟩; have n0_ := Am (Kd.R_below (by (with_reducible repeat (first | apply Kd.R_alloc | apply Kd.R_drewN | apply Kd.R_drew)); exact (Kd.R_mono (Kd.R_far (p := ⟨gb161, 2, none⟩) (Kd.R_far (p := ⟨gb161, 1, none⟩) (Kd.R_far (p := ⟨gb161, 0, none⟩) (Kd.R_types HO_6.out BK161.out (by decide)) (fun _ hk => hk.2) (.int .i64 ((rd_T30 l0 x28_2).f0.f0))) (fun _ hk => hk.2) (.int .i64 ((rd_T30 l0 x28_2).f0.f1))) (fun _ hk => hk.2) (.int .i64 ((rd_T30 l0 x28_2).f1))) (fun _ h_ => h_.1))) hb); have hp0 := hpB gb161 BK157.out hb (fun _ _ q_ h_ => by (with_reducible repeat (first | refine kN ?_ _ | refine kD ?_ | refine kA ?_ _ | refine kZ ?_ q_ _)); exact h_); have n2_ := Am (kB (g := gb161) (o := .cells #[.int .i64 ((rd_T30 l0 x28_2).f0.f0), .int .i64 ((rd_T30 l0 x28_2).f0.f1), .int .i64 ((rd_T30 l0 x28_2).f1)] 30 (0, 0)) (by (with_reducible repeat (first | refine kN ?_ _ | refine kD ?_ | refine kA ?_ _)); refine kP (cs := #[.int .i64 ((rd_T30 l0 x28_2).f0.f0), .int .i64 ((rd_T30 l0 x28_2).f0.f1), .int .i64 0]) ?_ 2 _ rfl; (with_reducible repeat (first | refine kN ?_ _ | refine kD ?_ | refine kA ?_ _)); refine kP (cs := #[.int .i64 ((rd_T30 l0 x28_2).f0.f0), .int .i64 0, .int .i64 0]) ?_ 1 _ rfl; (with_reducible repeat (first | refine kN ?_ _ | refine kD ?_ | refine kA ?_ _)); refine kP (cs := #[.int .i64 0, .int .i64 0, .int .i64 0]) ?_ 0 _ rfl; (with_reducible repeat (first | refine kN ?_ _ | refine kD ?_ | refine kA ?_ _)); exact BK161.out) hb); have hv := hvK (w := w) hb (by repeat (first | (with_reducible first | exact HB.out | apply bA | apply bN | apply bD | refine bX ?_ (by assumption)) | exact HB.out)); have n3_ := Am (bT hv hb); clear HO_6; clear BK161; clear HB; have HO_6 := n0_; replace BK157 := hp0 NB157_161 BK157; have BK161 := n2_; have HB := n3_; clear n0_ n2_ n3_ hp0 hv; (try clear hb); (try clear hk)))
       go_ret2
       exact ⟨_, by first | rfl | (simp [errW_none, errW_some] <;> rfl) | (simp [*, errW_none, errW_some] <;> rfl), by first | exact Kd.R_nil _ _ _ _ _ | exact Kd.N_nil _ _ _ _ _ | exact Kd.V_nil _ _ _ _ _ | exact Kd.Q_nil _ _ _ _ _ | exact Kd.S_nil _ _ _ _ _, by repeat (first | (with_reducible first | exact HB.out | apply bA | apply bN | apply bD | refine bX ?_ (by assumption)) | exact HB.out)⟩
      rw [if_neg c13] at H
      exact absurd H (by simp)
     rw [if_neg c12] at H
     exact absurd H (by simp)
    rw [if_neg c11] at H
    have c11b0 : decide (x28_2 < (l0.length : Int)) = false := decide_eq_false c11
    clear c11
    have H' := Am H
    clear H
    obtain ⟨Ao94, co94, eo94⟩ := Kd.R_slice HO_6.out
    subst eo94
    go_wp2
    go_loopg [13, 74] k2 (fun kq v13 v74 w' => ∃ (x13_3 : List (S26)) (x74_3 : Int), v74 = .int .i64 x74_3 ∧ Aside0 (spec_meGaps.l2 kq x6_2 x13_3 (x6_2.length : Int) x74_3 = some (r1, r2)) ∧ Aside0 (kq ≤ k2) ∧ Aside0 (Kd.R k26 26 w' w.heap.size (fun k_ => some k_ ≠ (v13 : Value).ownBlock ∧ k_ ≠ gb157) (.slice Ao94 x6_2.length co94) x6_2) ∧ Aside0 (Kd.R k26 26 w' w.heap.size (fun k_ => some k_ ≠ ((.slice Ao94 x6_2.length co94) : Value).ownBlock ∧ k_ ≠ gb157) v13 x13_3) ∧ Aside0 (w'.heap[gb157]? = some (.cells #[.int .i64 a1_0, .int .i64 a1_1] 26 (0, 0))) ∧ Aside0 (Below w.heap.size w w'))
    case atStart => exact ⟨(([] : List (S26))), (0), (by first | rfl | (simp; done) | (simp [*]; done)), H', ⟨Nat.le_refl _⟩, ⟨by (with_reducible repeat (first | apply Kd.R_alloc | apply Kd.R_drewN | apply Kd.R_drew)); exact Kd.R_mono HO_6.out (fun _ hk => ⟨(by simp [Value.ownBlock]), hk⟩)⟩, ⟨by first | exact Kd.R_nil _ _ _ _ _ | exact Kd.N_nil _ _ _ _ _ | exact Kd.V_nil _ _ _ _ _ | exact Kd.Q_nil _ _ _ _ _ | exact Kd.S_nil _ _ _ _ _⟩, ⟨by (with_reducible repeat (first | refine kN ?_ _ | refine kD ?_ | refine kA ?_ _)); exact BK157.out⟩, ⟨by repeat (first | (with_reducible first | exact HB.out | apply bA | apply bN | apply bD | refine bX ?_ (by assumption)) | exact HB.out)⟩⟩
    case round =>
     clear H'
     (try clear c11); (try clear c11b0)
     obtain ⟨x13_3, x74_3, rfl, HA, HK3, HO_6, HO_13, BK157, HB⟩ := hrel
     cases gk with
     | zero => exact absurd HA.out (by simp [spec_meGaps.l2])
     | succ k3 =>
      have H := HA.out
      clear HA
      simp only [spec_meGaps.l2] at H
      by_cases c95 : x74_3 < (x6_2.length : Int)
      ·rw [if_pos c95] at H
       have c95b0 : decide (x74_3 < (x6_2.length : Int)) = true := decide_eq_true c95
       clear c95
       by_cases c96 : (x6_2.length : Int) = 0
       ·rw [if_pos c96] at H
        exact absurd H (by simp)
       rw [if_neg c96] at H
       have c96b0 : ((x6_2.length : Int) == 0) = false := beq_eq_false_iff_ne.mpr c96
       have c96b1 : ((x6_2.length : Int) != 0) = true := bne_iff_ne.mpr c96
       have c96b2 : ¬ (x6_2 = []) := fun h_ => c96 (by rw [h_]; rfl)
       obtain ⟨ji97, hji97⟩ : ∃ j_ : Int, (Int.tmod (wrap64 (x74_3 + 1)) (x6_2.length : Int)) = j_ := ⟨_, rfl⟩
       replace H : (if 0 ≤ (ji97) then (if (ji97) < (x6_2.length : Int) then (if 0 ≤ x74_3 then (if x74_3 < (x6_2.length : Int) then ((spec_diAdd.f k3 ((rd_T26 x6_2 (ji97)).f0) ((rd_T26 x6_2 (ji97)).f1) ((rd_T26 x6_2 x74_3).f0) ((rd_T26 x6_2 x74_3).f1) (-1)).bind fun bt217 => (if bt217.2.2 = true then ((some (([(⟨bt217.1, bt217.2.1⟩ : S26)] : List (S26)) : List (S26))).bind fun y221 => (if x13_3.length + y221.length < 8796093022208 then (spec_meGaps.l2 k3 x6_2 (x13_3 ++ y221) (x6_2.length : Int) (wrap64 (x74_3 + 1))) else (none))) else (some (([] : List (S26)), false)))) else (none)) else (none)) else (none)) else (none)) = some (r1, r2) := by first | (rw [hji97] at H; exact H) | (simp only [hji97] at H ⊢; exact H)
       by_cases c98 : 0 ≤ (ji97)
       ·rw [if_pos c98] at H
        have c98b0 : decide (0 ≤ (ji97)) = true := decide_eq_true c98
        clear c98
        by_cases c99 : (ji97) < (x6_2.length : Int)
        ·rw [if_pos c99] at H
         have c99b0 : decide ((ji97) < (x6_2.length : Int)) = true := decide_eq_true c99
         clear c99
         by_cases c100 : 0 ≤ x74_3
         ·rw [if_pos c100] at H
          have c100b0 : decide (0 ≤ x74_3) = true := decide_eq_true c100
          clear c100
          by_cases c101 : x74_3 < (x6_2.length : Int)
          ·rw [if_pos c101] at H
           have c101b0 : decide (x74_3 < (x6_2.length : Int)) = true := decide_eq_true c101
           clear c101
           replace H := Option.bind_eq_some_iff.mp H
           obtain ⟨⟨t217, t218, t219⟩, A1020, H⟩ := H
           try dsimp only at H
           have A102 := Am A1020
           clear A1020
           by_cases c103 : t219 = true
           ·subst c103
            have H1 : ((some (([(⟨t217, t218⟩ : S26)] : List (S26)) : List (S26))).bind fun y221 => (if x13_3.length + y221.length < 8796093022208 then (spec_meGaps.l2 k3 x6_2 (x13_3 ++ y221) (x6_2.length : Int) (wrap64 (x74_3 + 1))) else (none))) = some (r1, r2) := by rw [if_pos rfl] at H; exact H
            clear H
            have H := H1
            clear H1
            obtain ⟨y221, hy221⟩ : ∃ y_ : List (S26), y_ = (([(⟨t217, t218⟩ : S26)] : List (S26))) := ⟨_, rfl⟩
            replace H : (if x13_3.length + y221.length < 8796093022208 then (spec_meGaps.l2 k3 x6_2 (x13_3 ++ y221) (x6_2.length : Int) (wrap64 (x74_3 + 1))) else (none)) = some (r1, r2) := by first | (rw [hy221]; with_reducible exact H) | (have H2_ := (Option.bind_some _ _).symm.trans H; rw [hy221]; with_reducible exact H2_) | (have H2_ := (Option.bind_some _ _).symm.trans H; with_reducible exact H2_) | with_reducible exact H | (rw [hy221]; exact H) | exact H
            have Ny221 := Am hy221
            clear hy221
            by_cases c104 : x13_3.length + y221.length < 8796093022208
            ·rw [if_pos c104] at H
             have LMc104 := Am c104
             clear c104
             obtain ⟨y224, hy224⟩ : ∃ y_ : List (S26), y_ = (x13_3 ++ y221) := ⟨_, rfl⟩
             replace H : (spec_meGaps.l2 k3 x6_2 y224 (x6_2.length : Int) (wrap64 (x74_3 + 1))) = some (r1, r2) := by first | (rw [hy224]; with_reducible exact H) | (have H2_ := (Option.bind_some _ _).symm.trans H; rw [hy224]; with_reducible exact H2_) | (have H2_ := (Option.bind_some _ _).symm.trans H; with_reducible exact H2_) | with_reducible exact H | (rw [hy224]; exact H) | exact H
             have Ny224 := Am hy224
             clear hy224
             have H' := Am H
             clear H
             try go_wp2
             have n0_ := Am (Kd.R_drew HO_6.out)
             have n1_ := Am (Kd.R_drew HO_13.out)
             have n2_ := Am (kD BK157.out)
             have n3_ := Am (bD HB.out)
             clear HO_6 HO_13 BK157 HB
             have HO_6 := n0_; have HO_13 := n1_; have BK157 := n2_; have HB := n3_
             clear n0_ n1_ n2_ n3_
             have p215 : 0 ≤ ((ji97) : Int) := of_decide_eq_true (by first | (with_reducible assumption) | assumption)
             have q215 : (ji97) < (x6_2.length : Int) := of_decide_eq_true (by first | (with_reducible assumption) | assumption)
             obtain ⟨ad215, e215, hx215_0, hx215_1⟩ := at_T26 (Kd.R_reads' HO_6.out).2.2 (ji97) p215 q215
             cases e215
             replace p215 := eq_true p215
             replace q215 := eq_true q215
             have p216 : 0 ≤ (x74_3 : Int) := of_decide_eq_true (by first | (with_reducible assumption) | assumption)
             have q216 : x74_3 < (x6_2.length : Int) := of_decide_eq_true (by first | (with_reducible assumption) | assumption)
             obtain ⟨ad216, e216, hx216_0, hx216_1⟩ := at_T26 (Kd.R_reads' HO_6.out).2.2 x74_3 p216 q216
             obtain rfl : ad215 = ad216 := (by injection e216)
             replace p216 := eq_true p216
             replace q216 := eq_true q216
             refine start_ (n := 19) (S := fun w' => w'.cell? (ad215.add (((ji97)).toNat * 2)) = some (.int .i64 ((rd_T26 x6_2 (ji97)).f0)) ∧ w'.cell? ⟨(ad215.add (((ji97)).toNat * 2)).block, (ad215.add (((ji97)).toNat * 2)).off + 1, none⟩ = some (.int .i64 ((rd_T26 x6_2 (ji97)).f1)) ∧ w'.cell? (ad215.add ((x74_3).toNat * 2)) = some (.int .i64 ((rd_T26 x6_2 x74_3).f0)) ∧ w'.cell? ⟨(ad215.add ((x74_3).toNat * 2)).block, (ad215.add ((x74_3).toNat * 2)).off + 1, none⟩ = some (.int .i64 ((rd_T26 x6_2 x74_3).f1))) (ds := []) (pT 19 0) (by kernel_rfl) rfl rfl ⟨hx215_0, hx215_1, hx216_0, hx216_1⟩ (fun hHeld => ?_); refine with_tabW spec_meGaps.tab22 spec_meGaps.bits22 (fun HT_ HW_ => ?_)
             generalize wr.drew = w105 at HO_6 HO_13 BK157 HB hx215_0 hx215_1 hx216_0 hx216_1 hHeld ⊢
             iterate 7
              refine pI (v := ?_) (a' := ?_) rfl (any_of HT_.out (by kernel_rfl)) (fun _ _ _ h => h) (Or.inl ⟨by rfl, ?_⟩) ?_ ?_
              rotate_left
              ·intro w'
               go_simp
               with_reducible rfl
              rotate_left
              ·show Act.put _ (some _) _ = _
               simp only [Act.put, List.setIfInBounds_toArray, List.set_cons_zero, List.set_cons_succ, i64_w, i32_w]
               rfl
             refine pure_ (i := 8) (N := some 86) (v := ?_) (a' := ?_) #[true, true, true, true, true, true, true, false, true, false, false, false, false, false, false, false, false, false, false] rfl rfl (any_of HT_.out (by kernel_rfl)) (fun _ _ _ h => h) (Or.inl ⟨by rfl, ?_⟩) ?_ ?_
             rotate_left
             ·intro w'
              go_simp
              with_reducible rfl
             rotate_left
             ·simp only [Act.put, List.setIfInBounds_toArray, List.set_cons_zero, List.set_cons_succ, i64_w, i32_w]
              rfl
             refine pure_ (i := 9) (N := some 87) (v := ?_) (a' := ?_) #[true, true, true, true, true, true, true, false, true, true, false, false, false, false, false, false, false, false, false] rfl rfl (any_of HT_.out (by kernel_rfl)) (fun _ _ _ h => h) (Or.inl ⟨by rfl, ?_⟩) ?_ ?_
             rotate_left
             ·intro w'
              go_simp
              with_reducible rfl
             rotate_left
             ·simp only [Act.put, List.setIfInBounds_toArray, List.set_cons_zero, List.set_cons_succ, i64_w, i32_w]
              rfl
             refine pure_ (i := 10) (N := some 88) (v := ?_) (a' := ?_) #[true, true, true, true, true, true, true, false, true, true, true, false, false, false, false, false, false, false, false] rfl rfl (any_of HT_.out (by kernel_rfl)) (fun _ _ _ h => h) (Or.inl ⟨by rfl, ?_⟩) ?_ ?_
             rotate_left
             ·intro w'
              go_simp
              with_reducible rfl
             rotate_left
             ·simp only [Act.put, List.setIfInBounds_toArray, List.set_cons_zero, List.set_cons_succ, i64_w, i32_w]
              rfl
             refine take_ (i := 7) (N := some 85) (v := ?_) (a' := ?_) (pT 19 11) rfl rfl (take_ofW HT_.out HW_.out (by kernel_rfl)) (fun _ _ _ h => h) (Or.inl ⟨by rfl, ?_⟩) hHeld ?_ ?_
             rotate_left
             ·rintro w' ⟨s0, s1, s2, s3⟩
              go_simp
              with_reducible rfl
             rotate_left
             ·simp only [Act.put, List.setIfInBounds_toArray, List.set_cons_zero, List.set_cons_succ, i64_w, i32_w]
              rfl
             refine tI (v := ?_) (a' := ?_) rfl (take_ofW HT_.out HW_.out (by kernel_rfl)) (fun _ _ _ h => h) (Or.inl ⟨by rfl, ?_⟩) hHeld ?_ ?_
             rotate_left
             ·rintro w' ⟨s0, s1, s2, s3⟩
              go_simp
              with_reducible rfl
             rotate_left
             ·show Act.put _ (some _) _ = _
              simp only [Act.put, List.setIfInBounds_toArray, List.set_cons_zero, List.set_cons_succ, i64_w, i32_w]
              rfl
             refine join_ (σ := Nat) 2 (pT 19 17) (fun s_ => [(90, .tuple #[.agg #[.int .i64 t217, .int .i64 t218], .bool true]), (15, .pointer (some ⟨s_, 0, none⟩)), (77, .tuple #[.agg #[.int .i64 t217, .int .i64 t218], .bool true]), (91, .agg #[.int .i64 t217, .int .i64 t218]), (92, .bool true)]) (fun s_ w' => (w'.cell? (ad215.add (((ji97)).toNat * 2)) = some (.int .i64 ((rd_T26 x6_2 (ji97)).f0)) ∧ w'.cell? ⟨(ad215.add (((ji97)).toNat * 2)).block, (ad215.add (((ji97)).toNat * 2)).off + 1, none⟩ = some (.int .i64 ((rd_T26 x6_2 (ji97)).f1)) ∧ w'.cell? (ad215.add ((x74_3).toNat * 2)) = some (.int .i64 ((rd_T26 x6_2 x74_3).f0)) ∧ w'.cell? ⟨(ad215.add ((x74_3).toNat * 2)).block, (ad215.add ((x74_3).toNat * 2)).off + 1, none⟩ = some (.int .i64 ((rd_T26 x6_2 x74_3).f1))) ∧ (Kd.R k26 26 w' w.heap.size (fun k_ => some k_ ≠ (.slice (some ad215) x6_2.length co94 : Value).ownBlock ∧ k_ ≠ gb157 ∧ k_ ≠ s_) u13 x13_3) ∧ (Kd.R k26 26 w' w.heap.size (fun k_ => some k_ ≠ (u13 : Value).ownBlock ∧ k_ ≠ gb157 ∧ k_ ≠ s_) (.slice (some ad215) x6_2.length co94) x6_2) ∧ (w'.heap[gb157]? = some (.cells #[.int .i64 a1_0, .int .i64 a1_1] 26 (0, 0))) ∧ (w'.heap[s_]? = some (.cells #[.int .i64 0, .int .i64 0] 26 (0, 0))) ∧ (w.heap.size ≤ s_) ∧ (w.heap.size ≤ s_) ∧ (gb157 ≠ s_) ∧ (s_ ≠ gb157) ∧ (Below w.heap.size w w')) ?_ ?_
             rotate_left
             ·intro hCont
              refine two_ (i := 12) (j := 16) (Ni := some 90) (Nj := some 15) (pT 19 13) #[true, true, true, true, true, true, true, true, true, true, true, true, false, false, false, false, true, false, false] rfl rfl rfl rfl (two_of HT_.out (by kernel_rfl)) (by decide) (by decide) (fun K hK => ?_) (fun K hK => ?_)
              ·skip
               refine goes_ Try.func99 (by kernel_rfl) rfl #[.agg #[.int .i64 ((rd_T26 x6_2 (ji97)).f0), .int .i64 ((rd_T26 x6_2 (ji97)).f1)], .agg #[.int .i64 ((rd_T26 x6_2 x74_3).f0), .int .i64 ((rd_T26 x6_2 x74_3).f1)], .int .i64 (-1)] (by rfl) rfl rfl (by (try simp only [List.map_toArray, List.map_cons, List.map_nil]); first | done | (simp only [hji97]; rfl) | rfl | (simp only [List.length_drop, List.length_take]; rfl)) ?_
               with_reducible refine (spec_diAdd.calls k3 ((rd_T26 x6_2 (ji97)).f0) ((rd_T26 x6_2 (ji97)).f1) ((rd_T26 x6_2 x74_3).f0) ((rd_T26 x6_2 x74_3).f1) (-1) t217 t218 true _ A102.out).mono ?_
               rintro e w106 ⟨rfl, hb⟩
               have HS0_ := (hb.cell (World.block_lt_of_cell? _ _ (hHeld.1))).trans (hHeld.1)
               have HS1_ := (hb.cell (World.block_lt_of_cell? _ _ (hHeld.2.1))).trans (hHeld.2.1)
               have HS2_ := (hb.cell (World.block_lt_of_cell? _ _ (hHeld.2.2.1))).trans (hHeld.2.2.1)
               have HS3_ := (hb.cell (World.block_lt_of_cell? _ _ (hHeld.2.2.2))).trans (hHeld.2.2.2)
               refine ⟨_, rfl, ?_⟩
               have n0_ := Am (Kd.R_below (by (with_reducible repeat (first | apply Kd.R_alloc | apply Kd.R_drewN | apply Kd.R_drew)); exact HO_6.out) hb)
               have n1_ := Am (Kd.R_below (by (with_reducible repeat (first | apply Kd.R_alloc | apply Kd.R_drewN | apply Kd.R_drew)); exact HO_13.out) hb)
               have hp0 := hpA BK157.out hb (fun _ _ h_ => by (with_reducible repeat (first | refine kN ?_ _ | refine kD ?_ | refine kA ?_ _)); exact h_)
               have hv := hvK (w := w) hb (by repeat (first | (with_reducible first | exact HB.out | apply bA | apply bN | apply bD | refine bX ?_ (by assumption)) | exact HB.out))
               have n3_ := Am (bT hv hb)
               clear HO_6 HO_13 HB
               have HO_6 := n0_; have HO_13 := n1_
               replace BK157 := hp0 BK157
               have HB := n3_
               clear n0_ n1_ n3_ hp0 hv
               (try clear hb)
               refine hK.out _ _ ⟨HS0_, HS1_, HS2_, HS3_⟩ (fun hHeld => ?_)
               clear hK K
               refine norm_ (a' := ?_) ?_ ?_
               rotate_left
               ·show Act.put _ (some 90) _ = _
                simp only [Act.put, List.setIfInBounds_toArray, List.set_cons_zero, List.set_cons_succ, i64_w, i32_w]
                rfl
               iterate 3
                refine pI (v := ?_) (a' := ?_) rfl (any_of HT_.out (by kernel_rfl)) (fun _ _ _ h => h) (Or.inl ⟨by rfl, ?_⟩) ?_ ?_
                rotate_left
                ·intro w'
                 go_simp
                 with_reducible rfl
                rotate_left
                ·show Act.put _ (some _) _ = _
                 simp only [Act.put, List.setIfInBounds_toArray, List.set_cons_zero, List.set_cons_succ, i64_w, i32_w]
                 rfl
               refine one_ (i := 16) (N := some 15) (pT 19 17) rfl rfl (one_of HT_.out (by kernel_rfl)) (by decide) (fun K hK => ?_)
               refine box_step ?hg (N := 15) ?hd (cs := #[.int .i64 0, .int .i64 0]) (t := 26) ?hr ?_; (case hd => rfl); (case hg => rfl); (case hr => first | (go_simp; done) | (go_simp; rfl))
               intro gb220 hg w107 hbox hb
               have HS0_ := (hb.cell (World.block_lt_of_cell? _ _ (hHeld.1))).trans (hHeld.1)
               have HS1_ := (hb.cell (World.block_lt_of_cell? _ _ (hHeld.2.1))).trans (hHeld.2.1)
               have HS2_ := (hb.cell (World.block_lt_of_cell? _ _ (hHeld.2.2.1))).trans (hHeld.2.2.1)
               have HS3_ := (hb.cell (World.block_lt_of_cell? _ _ (hHeld.2.2.2))).trans (hHeld.2.2.2)
               have n0_ := Am (Kd.R_below (Kd.R_elderB (by (with_reducible repeat (first | apply Kd.R_alloc | apply Kd.R_drewN | apply Kd.R_drew)); exact HO_6.out) gb220 (Nat.le_of_eq hg.symm)) hb)
               have n1_ := Am (Kd.R_below (Kd.R_elderB (by (with_reducible repeat (first | apply Kd.R_alloc | apply Kd.R_drewN | apply Kd.R_drew)); exact HO_13.out) gb220 (Nat.le_of_eq hg.symm)) hb)
               have hp0 := hpA BK157.out hb (fun _ _ h_ => by (with_reducible repeat (first | refine kN ?_ _ | refine kD ?_ | refine kA ?_ _)); exact h_)
               have hv := hvK (w := w) hb (by repeat (first | (with_reducible first | exact HB.out | apply bA | apply bN | apply bD | refine bX ?_ (by assumption)) | exact HB.out))
               have n3_ := Am (bT hv hb)
               have n4_ := Am (hbox)
               have GW220 := kG hg hv
               have GE220 := kG hg hv
               have hp1 := hpK BK157.out hb (fun _ _ h_ => by (with_reducible repeat (first | refine kN ?_ _ | refine kD ?_ | refine kA ?_ _)); exact h_)
               have NB157_220 := kX hg (hp1 BK157.out)
               have NB220_157 := kY hg (hp1 BK157.out)
               clear HO_6 HO_13 HB
               have HO_6 := n0_; have HO_13 := n1_
               replace BK157 := hp0 BK157
               have HB := n3_; have BK220 := n4_
               clear n3_ n4_ hp0 hp1 hv hb hbox hg
               refine hK.out _ _ ⟨HS0_, HS1_, HS2_, HS3_⟩ (fun hHeld => ?_)
               clear hK K
               refine norm_ (a' := ?_) ?_ ?_
               rotate_left
               ·show Act.put _ (some 15) _ = _
                simp only [Act.put, List.setIfInBounds_toArray, List.set_cons_zero, List.set_cons_succ, i64_w, i32_w]
                rfl
               exact norm_ (by simp only [putAll, Act.put, List.setIfInBounds_toArray, List.set_cons_zero, List.set_cons_succ]) (hCont (gb220) _ ⟨hHeld, (by (with_reducible repeat (first | apply Kd.R_alloc | apply Kd.R_drewN | apply Kd.R_drew)); exact Kd.R_mono HO_13.out (fun _ hk => ⟨hk.1.1, ⟨hk.1.2, hk.2⟩⟩)), (by (with_reducible repeat (first | apply Kd.R_alloc | apply Kd.R_drewN | apply Kd.R_drew)); exact Kd.R_mono HO_6.out (fun _ hk => ⟨hk.1.1, ⟨hk.1.2, hk.2⟩⟩)), (by (with_reducible repeat (first | refine kN ?_ _ | refine kD ?_ | refine kA ?_ _)); exact BK157.out), (by (with_reducible repeat (first | refine kN ?_ _ | refine kD ?_ | refine kA ?_ _)); exact BK220.out), GW220.out, GE220.out, NB157_220.out, NB220_157.out, (by repeat (first | (with_reducible first | exact HB.out | apply bA | apply bN | apply bD | refine bX ?_ (by assumption)) | exact HB.out))⟩)
              skip
              refine box_step ?hg (N := 15) ?hd (cs := #[.int .i64 0, .int .i64 0]) (t := 26) ?hr ?_; (case hd => rfl); (case hg => rfl); (case hr => first | (go_simp; done) | (go_simp; rfl))
              intro gb220 hg w106 hbox hb
              have HS0_ := (hb.cell (World.block_lt_of_cell? _ _ (hHeld.1))).trans (hHeld.1)
              have HS1_ := (hb.cell (World.block_lt_of_cell? _ _ (hHeld.2.1))).trans (hHeld.2.1)
              have HS2_ := (hb.cell (World.block_lt_of_cell? _ _ (hHeld.2.2.1))).trans (hHeld.2.2.1)
              have HS3_ := (hb.cell (World.block_lt_of_cell? _ _ (hHeld.2.2.2))).trans (hHeld.2.2.2)
              have n0_ := Am (Kd.R_below (Kd.R_elderB (by (with_reducible repeat (first | apply Kd.R_alloc | apply Kd.R_drewN | apply Kd.R_drew)); exact HO_6.out) gb220 (Nat.le_of_eq hg.symm)) hb)
              have n1_ := Am (Kd.R_below (Kd.R_elderB (by (with_reducible repeat (first | apply Kd.R_alloc | apply Kd.R_drewN | apply Kd.R_drew)); exact HO_13.out) gb220 (Nat.le_of_eq hg.symm)) hb)
              have hp0 := hpA BK157.out hb (fun _ _ h_ => by (with_reducible repeat (first | refine kN ?_ _ | refine kD ?_ | refine kA ?_ _)); exact h_)
              have hv := hvK (w := w) hb (by repeat (first | (with_reducible first | exact HB.out | apply bA | apply bN | apply bD | refine bX ?_ (by assumption)) | exact HB.out))
              have n3_ := Am (bT hv hb)
              have n4_ := Am (hbox)
              have GW220 := kG hg hv
              have GE220 := kG hg hv
              have hp1 := hpK BK157.out hb (fun _ _ h_ => by (with_reducible repeat (first | refine kN ?_ _ | refine kD ?_ | refine kA ?_ _)); exact h_)
              have NB157_220 := kX hg (hp1 BK157.out)
              have NB220_157 := kY hg (hp1 BK157.out)
              clear HO_6 HO_13 HB
              have HO_6 := n0_; have HO_13 := n1_
              replace BK157 := hp0 BK157
              have HB := n3_; have BK220 := n4_
              clear n3_ n4_ hp0 hp1 hv hb hbox hg
              refine hK.out _ _ ⟨HS0_, HS1_, HS2_, HS3_⟩ (fun hHeld => ?_)
              clear hK K
              refine norm_ (a' := ?_) ?_ ?_
              rotate_left
              ·show Act.put _ (some 15) _ = _
               simp only [Act.put, List.setIfInBounds_toArray, List.set_cons_zero, List.set_cons_succ, i64_w, i32_w]
               rfl
              refine one_ (i := 12) (N := some 90) #[true, true, true, true, true, true, true, true, true, true, true, true, true, false, false, false, true, false, false] rfl rfl (one_of HT_.out (by kernel_rfl)) (by decide) (fun K hK => ?_)
              refine goes_ Try.func99 (by kernel_rfl) rfl #[.agg #[.int .i64 ((rd_T26 x6_2 (ji97)).f0), .int .i64 ((rd_T26 x6_2 (ji97)).f1)], .agg #[.int .i64 ((rd_T26 x6_2 x74_3).f0), .int .i64 ((rd_T26 x6_2 x74_3).f1)], .int .i64 (-1)] (by rfl) rfl rfl (by (try simp only [List.map_toArray, List.map_cons, List.map_nil]); first | done | (simp only [hji97]; rfl) | rfl | (simp only [List.length_drop, List.length_take]; rfl)) ?_
              with_reducible refine (spec_diAdd.calls k3 ((rd_T26 x6_2 (ji97)).f0) ((rd_T26 x6_2 (ji97)).f1) ((rd_T26 x6_2 x74_3).f0) ((rd_T26 x6_2 x74_3).f1) (-1) t217 t218 true _ A102.out).mono ?_
              rintro e w107 ⟨rfl, hb⟩
              have HS0_ := (hb.cell (World.block_lt_of_cell? _ _ (hHeld.1))).trans (hHeld.1)
              have HS1_ := (hb.cell (World.block_lt_of_cell? _ _ (hHeld.2.1))).trans (hHeld.2.1)
              have HS2_ := (hb.cell (World.block_lt_of_cell? _ _ (hHeld.2.2.1))).trans (hHeld.2.2.1)
              have HS3_ := (hb.cell (World.block_lt_of_cell? _ _ (hHeld.2.2.2))).trans (hHeld.2.2.2)
              refine ⟨_, rfl, ?_⟩
              have n0_ := Am (Kd.R_below (by (with_reducible repeat (first | apply Kd.R_alloc | apply Kd.R_drewN | apply Kd.R_drew)); exact HO_6.out) hb)
              have n1_ := Am (Kd.R_below (by (with_reducible repeat (first | apply Kd.R_alloc | apply Kd.R_drewN | apply Kd.R_drew)); exact HO_13.out) hb)
              have hp0 := hpA BK157.out hb (fun _ _ h_ => by (with_reducible repeat (first | refine kN ?_ _ | refine kD ?_ | refine kA ?_ _)); exact h_)
              have hv := hvK (w := w) hb (by repeat (first | (with_reducible first | exact HB.out | apply bA | apply bN | apply bD | refine bX ?_ (by assumption)) | exact HB.out))
              have n4_ := Am (bT hv hb)
              clear HO_6 HO_13 HB
              have HO_6 := n0_; have HO_13 := n1_
              replace BK157 := hp0 BK157; replace BK220 := hp0 BK220
              have HB := n4_
              clear n0_ n1_ n4_ hp0 hv
              (try clear hb)
              refine hK.out _ _ ⟨HS0_, HS1_, HS2_, HS3_⟩ (fun hHeld => ?_)
              clear hK K
              refine norm_ (a' := ?_) ?_ ?_
              rotate_left
              ·show Act.put _ (some 90) _ = _
               simp only [Act.put, List.setIfInBounds_toArray, List.set_cons_zero, List.set_cons_succ, i64_w, i32_w]
               rfl
              refine pure_ (i := 13) (N := some 77) (v := ?_) (a' := ?_) #[true, true, true, true, true, true, true, true, true, true, true, true, true, true, false, false, true, false, false] rfl rfl (any_of HT_.out (by kernel_rfl)) (fun _ _ _ h => h) (Or.inl ⟨by rfl, ?_⟩) ?_ ?_
              rotate_left
              ·intro w'
               go_simp
               with_reducible rfl
              rotate_left
              ·simp only [Act.put, List.setIfInBounds_toArray, List.set_cons_zero, List.set_cons_succ, i64_w, i32_w]
               rfl
              refine pure_ (i := 14) (N := some 91) (v := ?_) (a' := ?_) #[true, true, true, true, true, true, true, true, true, true, true, true, true, true, true, false, true, false, false] rfl rfl (any_of HT_.out (by kernel_rfl)) (fun _ _ _ h => h) (Or.inl ⟨by rfl, ?_⟩) ?_ ?_
              rotate_left
              ·intro w'
               go_simp
               with_reducible rfl
              rotate_left
              ·simp only [Act.put, List.setIfInBounds_toArray, List.set_cons_zero, List.set_cons_succ, i64_w, i32_w]
               rfl
              refine pure_ (i := 15) (N := some 92) (v := ?_) (a' := ?_) (pT 19 17) rfl rfl (any_of HT_.out (by kernel_rfl)) (fun _ _ _ h => h) (Or.inl ⟨by rfl, ?_⟩) ?_ ?_
              rotate_left
              ·intro w'
               go_simp
               with_reducible rfl
              rotate_left
              ·simp only [Act.put, List.setIfInBounds_toArray, List.set_cons_zero, List.set_cons_succ, i64_w, i32_w]
               rfl
              exact norm_ (by simp only [putAll, Act.put, List.setIfInBounds_toArray, List.set_cons_zero, List.set_cons_succ]) (hCont (gb220) _ ⟨hHeld, (by (with_reducible repeat (first | apply Kd.R_alloc | apply Kd.R_drewN | apply Kd.R_drew)); exact Kd.R_mono HO_13.out (fun _ hk => ⟨hk.1.1, ⟨hk.1.2, hk.2⟩⟩)), (by (with_reducible repeat (first | apply Kd.R_alloc | apply Kd.R_drewN | apply Kd.R_drew)); exact Kd.R_mono HO_6.out (fun _ hk => ⟨hk.1.1, ⟨hk.1.2, hk.2⟩⟩)), (by (with_reducible repeat (first | refine kN ?_ _ | refine kD ?_ | refine kA ?_ _)); exact BK157.out), (by (with_reducible repeat (first | refine kN ?_ _ | refine kD ?_ | refine kA ?_ _)); exact BK220.out), GW220.out, GE220.out, NB157_220.out, NB220_157.out, (by repeat (first | (with_reducible first | exact HB.out | apply bA | apply bN | apply bD | refine bX ?_ (by assumption)) | exact HB.out))⟩)
             rintro gb220 w108 ⟨hS_, h0_, h1_, h2_, h3_, h4_, h5_, h6_, h7_, h8_⟩
             have n0_ : Aside0 (Kd.R k26 26 w108 w.heap.size (fun k_ => some k_ ≠ (.slice (some ad215) x6_2.length co94 : Value).ownBlock ∧ k_ ≠ gb157 ∧ k_ ≠ gb220) u13 x13_3) := ⟨h0_⟩
             have n1_ : Aside0 (Kd.R k26 26 w108 w.heap.size (fun k_ => some k_ ≠ (u13 : Value).ownBlock ∧ k_ ≠ gb157 ∧ k_ ≠ gb220) (.slice (some ad215) x6_2.length co94) x6_2) := ⟨h1_⟩
             have n2_ : Aside0 (w108.heap[gb157]? = some (.cells #[.int .i64 a1_0, .int .i64 a1_1] 26 (0, 0))) := ⟨h2_⟩
             have n3_ : Aside0 (w108.heap[gb220]? = some (.cells #[.int .i64 0, .int .i64 0] 26 (0, 0))) := ⟨h3_⟩
             have n4_ : Aside0 (w.heap.size ≤ gb220) := ⟨h4_⟩
             have n5_ : Aside0 (w.heap.size ≤ gb220) := ⟨h5_⟩
             have n6_ : Aside0 (gb157 ≠ gb220) := ⟨h6_⟩
             have n7_ : Aside0 (gb220 ≠ gb157) := ⟨h7_⟩
             have n8_ : Aside0 (Below w.heap.size w w108) := ⟨h8_⟩
             clear HO_6 HO_13 BK157 HB h0_ h1_ h2_ h3_ h4_ h5_ h6_ h7_ h8_
             have HO_13 := n0_; have HO_6 := n1_; have BK157 := n2_; have BK220 := n3_; have GW220 := n4_; have GE220 := n5_; have NB157_220 := n6_; have NB220_157 := n7_; have HB := n8_
             clear n0_ n1_ n2_ n3_ n4_ n5_ n6_ n7_ n8_
             have hHeld : w108.cell? (ad215.add (((ji97)).toNat * 2)) = some (.int .i64 ((rd_T26 x6_2 (ji97)).f0)) ∧ w108.cell? ⟨(ad215.add (((ji97)).toNat * 2)).block, (ad215.add (((ji97)).toNat * 2)).off + 1, none⟩ = some (.int .i64 ((rd_T26 x6_2 (ji97)).f1)) ∧ w108.cell? (ad215.add ((x74_3).toNat * 2)) = some (.int .i64 ((rd_T26 x6_2 x74_3).f0)) ∧ w108.cell? ⟨(ad215.add ((x74_3).toNat * 2)).block, (ad215.add ((x74_3).toNat * 2)).off + 1, none⟩ = some (.int .i64 ((rd_T26 x6_2 x74_3).f1)) := hS_
             refine norm_ (a' := ?_) ?_ ?_
             rotate_left
             ·simp only [putAll, Act.put, List.setIfInBounds_toArray, List.set_cons_zero, List.set_cons_succ]
              rfl
             refine one_ (i := 17) (N := none) (pT 19 18) rfl rfl (one_of HT_.out (by kernel_rfl)) (by decide) (fun K hK => ?_)
             have hs109 : w108.cell? ⟨gb220, 0, none⟩ = some (.int .i64 0) := c20 BK220.out
             have hfs109 := kF BK220.out 0
             have hns109_0 := NB157_220.out; have hms109_0 := NB220_157.out
             have hs110 : w108.cell? ⟨gb220, 1, none⟩ = some (.int .i64 0) := c21 BK220.out
             have hfs110 := kF BK220.out 1
             have hns110_0 := NB157_220.out; have hms110_0 := NB220_157.out
             refine skip_ (w1 := ?_) (by rfl) rfl ?_ ?_
             rotate_left
             ·go_simp
              rfl
             refine hK.out _ _ ⟨((cell_far (p := ⟨gb220, _, none⟩) (by first | exact Kd.own_blk (Kd.R_away HO_6.out (fun _ hk => hk.2.2)) | (rw [add_block]; exact Kd.own_blk (Kd.R_away HO_6.out (fun _ hk => hk.2.2))) | (show (Addr.add _ _).block ≠ _; rw [add_block]; exact Kd.own_blk (Kd.R_away HO_6.out (fun _ hk => hk.2.2))) | (dsimp only; exact Kd.own_blk (Kd.R_away HO_6.out (fun _ hk => hk.2.2)))) _).trans (((cell_far (p := ⟨gb220, _, none⟩) (by first | exact Kd.own_blk (Kd.R_away HO_6.out (fun _ hk => hk.2.2)) | (rw [add_block]; exact Kd.own_blk (Kd.R_away HO_6.out (fun _ hk => hk.2.2))) | (show (Addr.add _ _).block ≠ _; rw [add_block]; exact Kd.own_blk (Kd.R_away HO_6.out (fun _ hk => hk.2.2))) | (dsimp only; exact Kd.own_blk (Kd.R_away HO_6.out (fun _ hk => hk.2.2)))) _).trans (hHeld.1)))), ((cell_far (p := ⟨gb220, _, none⟩) (by first | exact Kd.own_blk (Kd.R_away HO_6.out (fun _ hk => hk.2.2)) | (rw [add_block]; exact Kd.own_blk (Kd.R_away HO_6.out (fun _ hk => hk.2.2))) | (show (Addr.add _ _).block ≠ _; rw [add_block]; exact Kd.own_blk (Kd.R_away HO_6.out (fun _ hk => hk.2.2))) | (dsimp only; exact Kd.own_blk (Kd.R_away HO_6.out (fun _ hk => hk.2.2)))) _).trans (((cell_far (p := ⟨gb220, _, none⟩) (by first | exact Kd.own_blk (Kd.R_away HO_6.out (fun _ hk => hk.2.2)) | (rw [add_block]; exact Kd.own_blk (Kd.R_away HO_6.out (fun _ hk => hk.2.2))) | (show (Addr.add _ _).block ≠ _; rw [add_block]; exact Kd.own_blk (Kd.R_away HO_6.out (fun _ hk => hk.2.2))) | (dsimp only; exact Kd.own_blk (Kd.R_away HO_6.out (fun _ hk => hk.2.2)))) _).trans (hHeld.2.1)))), ((cell_far (p := ⟨gb220, _, none⟩) (by first | exact Kd.own_blk (Kd.R_away HO_6.out (fun _ hk => hk.2.2)) | (rw [add_block]; exact Kd.own_blk (Kd.R_away HO_6.out (fun _ hk => hk.2.2))) | (show (Addr.add _ _).block ≠ _; rw [add_block]; exact Kd.own_blk (Kd.R_away HO_6.out (fun _ hk => hk.2.2))) | (dsimp only; exact Kd.own_blk (Kd.R_away HO_6.out (fun _ hk => hk.2.2)))) _).trans (((cell_far (p := ⟨gb220, _, none⟩) (by first | exact Kd.own_blk (Kd.R_away HO_6.out (fun _ hk => hk.2.2)) | (rw [add_block]; exact Kd.own_blk (Kd.R_away HO_6.out (fun _ hk => hk.2.2))) | (show (Addr.add _ _).block ≠ _; rw [add_block]; exact Kd.own_blk (Kd.R_away HO_6.out (fun _ hk => hk.2.2))) | (dsimp only; exact Kd.own_blk (Kd.R_away HO_6.out (fun _ hk => hk.2.2)))) _).trans (hHeld.2.2.1)))), ((cell_far (p := ⟨gb220, _, none⟩) (by first | exact Kd.own_blk (Kd.R_away HO_6.out (fun _ hk => hk.2.2)) | (rw [add_block]; exact Kd.own_blk (Kd.R_away HO_6.out (fun _ hk => hk.2.2))) | (show (Addr.add _ _).block ≠ _; rw [add_block]; exact Kd.own_blk (Kd.R_away HO_6.out (fun _ hk => hk.2.2))) | (dsimp only; exact Kd.own_blk (Kd.R_away HO_6.out (fun _ hk => hk.2.2)))) _).trans (((cell_far (p := ⟨gb220, _, none⟩) (by first | exact Kd.own_blk (Kd.R_away HO_6.out (fun _ hk => hk.2.2)) | (rw [add_block]; exact Kd.own_blk (Kd.R_away HO_6.out (fun _ hk => hk.2.2))) | (show (Addr.add _ _).block ≠ _; rw [add_block]; exact Kd.own_blk (Kd.R_away HO_6.out (fun _ hk => hk.2.2))) | (dsimp only; exact Kd.own_blk (Kd.R_away HO_6.out (fun _ hk => hk.2.2)))) _).trans (hHeld.2.2.2))))⟩ (fun hHeld => ?_)
             clear hK K
             refine pI (v := ?_) (a' := ?_) rfl (any_of HT_.out (by kernel_rfl)) (fun _ _ _ h => h) (Or.inl ⟨by rfl, ?_⟩) ?_ ?_
             rotate_left
             ·intro w'
              go_simp
              with_reducible rfl
             rotate_left
             ·show Act.put _ (some _) _ = _
              simp only [Act.put, List.setIfInBounds_toArray, List.set_cons_zero, List.set_cons_succ, i64_w, i32_w]
              rfl
             refine done_ (done_of HT_.out (by kernel_rfl)) ?_
             have hnb111 := NB220_157.out; have hnc111 := NB157_220.out
             have hcz112_0 := c20 BK220.out
             have hcz112_1 := c21 BK220.out
             have hfz112_0 := kF BK220.out 0
             have hfz112_1 := kF BK220.out 1
             try go_wp2_with (first | ((with_reducible refine gate_dst (N := 97) rfl ?_); refine Kd.R_lit k26 _ 26 ?hg (N := 97) ?hd (xs := ([(⟨t217, t218⟩ : S26)] : List (S26))) (inner := [.int .i64 t217, .int .i64 t218]) (ok := fun _ => True) (okp := fun _ => True) ?hr ?hp (fun _ hk => hk) trivial (Below.refl _ _) (Nat.le_refl _) (by simp) ?_; (case hd => rfl); (case hg => rfl); (case hr => first | (go_simp; done) | (go_simp; rfl)); (case hp => exact (Reps.c2 (show Kd.M k26 _ _ _ (⟨t217, t218⟩ : S26) [.int .i64 t217, .int .i64 t218] from (k26_mkM _ _ _ (⟨t217, t218⟩ : S26) )) (Reps.none _ _))); intro v222 w113 ho114 hb hg_ hnew_; clear hg_ hnew_; (first | rw [← Ny221.out] at ho114 | (simp only [Int.reduceToNat] at ho114; rw [← Ny221.out] at ho114)); have n0_ := Am (Kd.R_elder' (by (with_reducible repeat (first | apply Kd.R_alloc | apply Kd.R_drewN | apply Kd.R_drew)); exact (Kd.R_mono (Kd.R_far (p := ⟨gb220, 1, none⟩) (Kd.R_far (p := ⟨gb220, 0, none⟩) (Kd.R_mono HO_6.out (fun k_ hk => (⟨hk, hk.2.2⟩ : _ ∧ k_ ≠ gb220))) (fun _ hk => hk.2) (.int .i64 t217)) (fun _ hk => hk.2) (.int .i64 t218)) (fun _ h_ => h_.1))) (Kd.R_base ho114) hb); have n1_ := Am (Kd.R_elder' (by (with_reducible repeat (first | apply Kd.R_alloc | apply Kd.R_drewN | apply Kd.R_drew)); exact (Kd.R_mono (Kd.R_far (p := ⟨gb220, 1, none⟩) (Kd.R_far (p := ⟨gb220, 0, none⟩) (Kd.R_mono HO_13.out (fun k_ hk => (⟨hk, hk.2.2⟩ : _ ∧ k_ ≠ gb220))) (fun _ hk => hk.2) (.int .i64 t217)) (fun _ hk => hk.2) (.int .i64 t218)) (fun _ h_ => h_.1))) (Kd.R_base ho114) hb); have n2_ := Am (Kd.R_lower (Kd.R_newB (Kd.R_newB (Kd.R_new' (Kd.R_new' ho114 (Kd.R_lt (by (with_reducible repeat (first | apply Kd.R_alloc | apply Kd.R_drewN | apply Kd.R_drew)); exact (Kd.R_mono (Kd.R_far (p := ⟨gb220, 1, none⟩) (Kd.R_far (p := ⟨gb220, 0, none⟩) (Kd.R_mono HO_6.out (fun k_ hk => (⟨hk, hk.2.2⟩ : _ ∧ k_ ≠ gb220))) (fun _ hk => hk.2) (.int .i64 t217)) (fun _ hk => hk.2) (.int .i64 t218)) (fun _ h_ => h_.1))))) (Kd.R_lt (by (with_reducible repeat (first | apply Kd.R_alloc | apply Kd.R_drewN | apply Kd.R_drew)); exact (Kd.R_mono (Kd.R_far (p := ⟨gb220, 1, none⟩) (Kd.R_far (p := ⟨gb220, 0, none⟩) (Kd.R_mono HO_13.out (fun k_ hk => (⟨hk, hk.2.2⟩ : _ ∧ k_ ≠ gb220))) (fun _ hk => hk.2) (.int .i64 t217)) (fun _ hk => hk.2) (.int .i64 t218)) (fun _ h_ => h_.1))))) (g := gb157) (o := .cells #[.int .i64 a1_0, .int .i64 a1_1] 26 (0, 0)) (by (with_reducible repeat (first | refine kN ?_ _ | refine kD ?_ | refine kA ?_ _)); refine kR ?_ NB157_220.out _; (with_reducible repeat (first | refine kN ?_ _ | refine kD ?_ | refine kA ?_ _)); refine kR ?_ NB157_220.out _; (with_reducible repeat (first | refine kN ?_ _ | refine kD ?_ | refine kA ?_ _)); exact BK157.out)) (g := gb220) (o := .cells #[.int .i64 t217, .int .i64 t218] 26 (0, 0)) (by (with_reducible repeat (first | refine kN ?_ _ | refine kD ?_ | refine kA ?_ _)); refine kP (cs := #[.int .i64 t217, .int .i64 0]) ?_ 1 _ rfl; (with_reducible repeat (first | refine kN ?_ _ | refine kD ?_ | refine kA ?_ _)); refine kP (cs := #[.int .i64 0, .int .i64 0]) ?_ 0 _ rfl; (with_reducible repeat (first | refine kN ?_ _ | refine kD ?_ | refine kA ?_ _)); exact BK220.out)) (bZ (by repeat (first | (with_reducible first | exact HB.out | apply bA | apply bN | apply bD | refine bX ?_ (by assumption)) | exact HB.out)))); have hp0 := hpB gb220 BK157.out hb (fun _ _ q_ h_ => by (with_reducible repeat (first | refine kN ?_ _ | refine kD ?_ | refine kA ?_ _ | refine kZ ?_ q_ _)); exact h_); have n4_ := Am (kB (g := gb220) (o := .cells #[.int .i64 t217, .int .i64 t218] 26 (0, 0)) (by (with_reducible repeat (first | refine kN ?_ _ | refine kD ?_ | refine kA ?_ _)); refine kP (cs := #[.int .i64 t217, .int .i64 0]) ?_ 1 _ rfl; (with_reducible repeat (first | refine kN ?_ _ | refine kD ?_ | refine kA ?_ _)); refine kP (cs := #[.int .i64 0, .int .i64 0]) ?_ 0 _ rfl; (with_reducible repeat (first | refine kN ?_ _ | refine kD ?_ | refine kA ?_ _)); exact BK220.out) hb); have hv := hvK (w := w) hb (by repeat (first | (with_reducible first | exact HB.out | apply bA | apply bN | apply bD | refine bX ?_ (by assumption)) | exact HB.out)); have n5_ := Am (bT hv hb); clear HO_6; clear HO_13; clear BK220; clear HB; have HO_6 := n0_; have HO_13 := n1_; have HO223 := n2_; replace BK157 := hp0 NB157_220 BK157; have BK220 := n4_; have HB := n5_; clear n0_ n1_ n2_ n4_ n5_ hp0 hv; clear hb ho114; obtain ⟨Ao116, co116, eo116⟩ := Kd.R_slice HO223.out; subst eo116) | ((with_reducible refine gate_builtin (b := .append) (xs := #[.tmp 95, .tmp 97]) rfl ?_); at_builtin; refine Kd.R_append_rows k26 (w0 := w) w.heap.size rfl (.tmp 95) (.tmp 97) 35 26 (.agg #[(.int .i64 0), (.int .i64 0)]) 16 rfl Try.underlying35 info26 rfl (by decide) (by omega) u13 x13_3 y221 _ _ _ (fun k_ => some k_ ≠ (.slice (some ad215) x6_2.length co94 : Value).ownBlock ∧ some k_ ≠ (.slice Ao116 y221.length co116 : Value).ownBlock ∧ k_ ≠ gb157 ∧ k_ ≠ gb220) (fun _ => False) rfl rfl ?aO ?aR (fun _ _ h => h) (fun _ h => h.elim) ?aF ?aB ?aS ?aL ?_; (case aR => repeat (first | exact (Kd.R_reads' HO223.out).2.2 | (with_reducible refine Kd.C_alloc ?_ _) | (with_reducible refine Kd.C_drewN ?_ _) | (with_reducible refine Kd.C_drew ?_))); (case aB => exact (by repeat (first | (with_reducible first | exact HB.out | apply bA | apply bN | apply bD | refine bX ?_ (by assumption)) | exact HB.out))); (case aF => exact (fun k_ hk => ⟨Kd.fresh' (Kd.R_lt (by (with_reducible repeat (first | apply Kd.R_alloc | apply Kd.R_drewN | apply Kd.R_drew)); exact HO_6.out)) k_ hk, Kd.fresh' (Kd.R_lt (by (with_reducible repeat (first | apply Kd.R_alloc | apply Kd.R_drewN | apply Kd.R_drew)); exact HO223.out)) k_ hk, Kd.freshB (g := gb157) (o := .cells #[.int .i64 a1_0, .int .i64 a1_1] 26 (0, 0)) (by (with_reducible repeat (first | refine kN ?_ _ | refine kD ?_ | refine kA ?_ _)); exact BK157.out) k_ hk, Kd.freshB (g := gb220) (o := .cells #[.int .i64 t217, .int .i64 t218] 26 (0, 0)) (by (with_reducible repeat (first | refine kN ?_ _ | refine kD ?_ | refine kA ?_ _)); exact BK220.out) k_ hk⟩)); (case aO => exact (by (with_reducible repeat (first | apply Kd.R_alloc | apply Kd.R_drewN | apply Kd.R_drew)); exact Kd.R_mono HO_13.out (fun _ hk => ⟨hk.1.1, ⟨hk.2, ⟨hk.1.2.1, hk.1.2.2⟩⟩⟩))); (case aS => exact (bZ (by repeat (first | (with_reducible first | exact HB.out | apply bA | apply bN | apply bD | refine bX ?_ (by assumption)) | exact HB.out)))); (case aL => have := LMc104.out; omega); intro v225 w115 ho hb hg hat; rw [← Ny224.out] at ho; have n0_ := Am (Kd.R_after (ok := (fun k_ => some k_ ≠ (.slice Ao116 y221.length co116 : Value).ownBlock ∧ k_ ≠ gb157 ∧ k_ ≠ gb220)) (by (with_reducible repeat (first | apply Kd.R_alloc | apply Kd.R_drewN | apply Kd.R_drew)); exact Kd.R_mono HO_6.out (fun _ hk => ⟨⟨hk.2, ⟨hk.1.2.1, hk.1.2.2⟩⟩, hk.1.1⟩)) hg hat); have n1_ := Am (blk_grown (g := gb157) (o := .cells #[.int .i64 a1_0, .int .i64 a1_1] 26 (0, 0)) (by (with_reducible repeat (first | refine kN ?_ _ | refine kD ?_ | refine kA ?_ _)); exact BK157.out) hg (Kd.R_away HO_13.out (fun _ hk => hk.1.2.1))); have n2_ := Am (blk_grown (g := gb220) (o := .cells #[.int .i64 t217, .int .i64 t218] 26 (0, 0)) (by (with_reducible repeat (first | refine kN ?_ _ | refine kD ?_ | refine kA ?_ _)); exact BK220.out) hg (Kd.R_away HO_13.out (fun _ hk => hk.1.2.2))); have n3_ := Am (Kd.R_after (ok := (fun k_ => some k_ ≠ (.slice (some ad215) x6_2.length co94 : Value).ownBlock ∧ k_ ≠ gb157 ∧ k_ ≠ gb220)) (by (with_reducible repeat (first | apply Kd.R_alloc | apply Kd.R_drewN | apply Kd.R_drew)); exact Kd.R_mono HO223.out (fun _ hk => ⟨⟨hk.1.1.1.2, ⟨hk.1.2, hk.2⟩⟩, hk.1.1.2⟩)) hg hat); have n4_ := Am (hb); have n5_ := Am (ho); clear HO_6; clear BK157; clear BK220; clear HO223; clear HB; clear HO_13; have HO_6 := n0_; have BK157 := n1_; have BK220 := n2_; have HO223 := n3_; have HB := n4_; have HO226 := n5_; clear n0_ n1_ n2_ n3_ n4_ n5_; clear ho hb hg hat))
             go_roundg k3
             case measure => have := HJ2.out; have := HK2.out; have := HK3.out; omega
             case rel => exact ⟨(y224), (wrap64 (x74_3 + 1)), (by first | rfl | (simp; done) | (simp [*]; done)), H', ⟨by have := HJ2.out; have := HK2.out; have := HK3.out; omega⟩, ⟨by (with_reducible repeat (first | apply Kd.R_alloc | apply Kd.R_drewN | apply Kd.R_drew)); exact Kd.R_mono HO_6.out (fun _ hk => ⟨hk.2, hk.1.2.1⟩)⟩, ⟨by (with_reducible repeat (first | apply Kd.R_alloc | apply Kd.R_drewN | apply Kd.R_drew)); exact Kd.R_mono HO226.out (fun _ hk => ⟨hk.1, hk.2.2.1⟩)⟩, ⟨by (with_reducible repeat (first | refine kN ?_ _ | refine kD ?_ | refine kA ?_ _)); exact BK157.out⟩, ⟨by repeat (first | (with_reducible first | exact HB.out | apply bA | apply bN | apply bD | refine bX ?_ (by assumption)) | exact HB.out)⟩⟩
            rw [if_neg c104] at H
            exact absurd H (by simp)
           replace c103 := Bool.eq_false_iff.mpr c103
           subst c103
           have H1 : (some (([] : List (S26)), false)) = some (r1, r2) := by rw [if_neg (show ¬ (false = true) by decide)] at H; exact H
           clear H
           have H := H1
           clear H1
           simp only [Option.some.injEq, Prod.mk.injEq] at H
           obtain ⟨rfl, rfl⟩ := H
           try go_wp2
           have n0_ := Am (Kd.R_drew HO_6.out)
           have n1_ := Am (Kd.R_drew HO_13.out)
           have n2_ := Am (kD BK157.out)
           have n3_ := Am (bD HB.out)
           clear HO_6 HO_13 BK157 HB
           have HO_6 := n0_; have HO_13 := n1_; have BK157 := n2_; have HB := n3_
           clear n0_ n1_ n2_ n3_
           have p215 : 0 ≤ ((ji97) : Int) := of_decide_eq_true (by first | (with_reducible assumption) | assumption)
           have q215 : (ji97) < (x6_2.length : Int) := of_decide_eq_true (by first | (with_reducible assumption) | assumption)
           obtain ⟨ad215, e215, hx215_0, hx215_1⟩ := at_T26 (Kd.R_reads' HO_6.out).2.2 (ji97) p215 q215
           cases e215
           replace p215 := eq_true p215
           replace q215 := eq_true q215
           have p216 : 0 ≤ (x74_3 : Int) := of_decide_eq_true (by first | (with_reducible assumption) | assumption)
           have q216 : x74_3 < (x6_2.length : Int) := of_decide_eq_true (by first | (with_reducible assumption) | assumption)
           obtain ⟨ad216, e216, hx216_0, hx216_1⟩ := at_T26 (Kd.R_reads' HO_6.out).2.2 x74_3 p216 q216
           obtain rfl : ad215 = ad216 := (by injection e216)
           replace p216 := eq_true p216
           replace q216 := eq_true q216
           refine start_ (n := 19) (S := fun w' => w'.cell? (ad215.add (((ji97)).toNat * 2)) = some (.int .i64 ((rd_T26 x6_2 (ji97)).f0)) ∧ w'.cell? ⟨(ad215.add (((ji97)).toNat * 2)).block, (ad215.add (((ji97)).toNat * 2)).off + 1, none⟩ = some (.int .i64 ((rd_T26 x6_2 (ji97)).f1)) ∧ w'.cell? (ad215.add ((x74_3).toNat * 2)) = some (.int .i64 ((rd_T26 x6_2 x74_3).f0)) ∧ w'.cell? ⟨(ad215.add ((x74_3).toNat * 2)).block, (ad215.add ((x74_3).toNat * 2)).off + 1, none⟩ = some (.int .i64 ((rd_T26 x6_2 x74_3).f1))) (ds := []) (pT 19 0) (by kernel_rfl) rfl rfl ⟨hx215_0, hx215_1, hx216_0, hx216_1⟩ (fun hHeld => ?_); refine with_tabW spec_meGaps.tab22 spec_meGaps.bits22 (fun HT_ HW_ => ?_)
           generalize wr.drew = w117 at HO_6 HO_13 BK157 HB hx215_0 hx215_1 hx216_0 hx216_1 hHeld ⊢
           iterate 7
            refine pI (v := ?_) (a' := ?_) rfl (any_of HT_.out (by kernel_rfl)) (fun _ _ _ h => h) (Or.inl ⟨by rfl, ?_⟩) ?_ ?_
            rotate_left
            ·intro w'
             go_simp
             with_reducible rfl
            rotate_left
            ·show Act.put _ (some _) _ = _
             simp only [Act.put, List.setIfInBounds_toArray, List.set_cons_zero, List.set_cons_succ, i64_w, i32_w]
             rfl
           refine pure_ (i := 8) (N := some 86) (v := ?_) (a' := ?_) #[true, true, true, true, true, true, true, false, true, false, false, false, false, false, false, false, false, false, false] rfl rfl (any_of HT_.out (by kernel_rfl)) (fun _ _ _ h => h) (Or.inl ⟨by rfl, ?_⟩) ?_ ?_
           rotate_left
           ·intro w'
            go_simp
            with_reducible rfl
           rotate_left
           ·simp only [Act.put, List.setIfInBounds_toArray, List.set_cons_zero, List.set_cons_succ, i64_w, i32_w]
            rfl
           refine pure_ (i := 9) (N := some 87) (v := ?_) (a' := ?_) #[true, true, true, true, true, true, true, false, true, true, false, false, false, false, false, false, false, false, false] rfl rfl (any_of HT_.out (by kernel_rfl)) (fun _ _ _ h => h) (Or.inl ⟨by rfl, ?_⟩) ?_ ?_
           rotate_left
           ·intro w'
            go_simp
            with_reducible rfl
           rotate_left
           ·simp only [Act.put, List.setIfInBounds_toArray, List.set_cons_zero, List.set_cons_succ, i64_w, i32_w]
            rfl
           refine pure_ (i := 10) (N := some 88) (v := ?_) (a' := ?_) #[true, true, true, true, true, true, true, false, true, true, true, false, false, false, false, false, false, false, false] rfl rfl (any_of HT_.out (by kernel_rfl)) (fun _ _ _ h => h) (Or.inl ⟨by rfl, ?_⟩) ?_ ?_
           rotate_left
           ·intro w'
            go_simp
            with_reducible rfl
           rotate_left
           ·simp only [Act.put, List.setIfInBounds_toArray, List.set_cons_zero, List.set_cons_succ, i64_w, i32_w]
            rfl
           refine take_ (i := 7) (N := some 85) (v := ?_) (a' := ?_) (pT 19 11) rfl rfl (take_ofW HT_.out HW_.out (by kernel_rfl)) (fun _ _ _ h => h) (Or.inl ⟨by rfl, ?_⟩) hHeld ?_ ?_
           rotate_left
           ·rintro w' ⟨s0, s1, s2, s3⟩
            go_simp
            with_reducible rfl
           rotate_left
           ·simp only [Act.put, List.setIfInBounds_toArray, List.set_cons_zero, List.set_cons_succ, i64_w, i32_w]
            rfl
           refine tI (v := ?_) (a' := ?_) rfl (take_ofW HT_.out HW_.out (by kernel_rfl)) (fun _ _ _ h => h) (Or.inl ⟨by rfl, ?_⟩) hHeld ?_ ?_
           rotate_left
           ·rintro w' ⟨s0, s1, s2, s3⟩
            go_simp
            with_reducible rfl
           rotate_left
           ·show Act.put _ (some _) _ = _
            simp only [Act.put, List.setIfInBounds_toArray, List.set_cons_zero, List.set_cons_succ, i64_w, i32_w]
            rfl
           refine join_ (σ := Nat) 2 (pT 19 17) (fun s_ => [(90, .tuple #[.agg #[.int .i64 t217, .int .i64 t218], .bool false]), (15, .pointer (some ⟨s_, 0, none⟩)), (77, .tuple #[.agg #[.int .i64 t217, .int .i64 t218], .bool false]), (91, .agg #[.int .i64 t217, .int .i64 t218]), (92, .bool false)]) (fun s_ w' => (w'.cell? (ad215.add (((ji97)).toNat * 2)) = some (.int .i64 ((rd_T26 x6_2 (ji97)).f0)) ∧ w'.cell? ⟨(ad215.add (((ji97)).toNat * 2)).block, (ad215.add (((ji97)).toNat * 2)).off + 1, none⟩ = some (.int .i64 ((rd_T26 x6_2 (ji97)).f1)) ∧ w'.cell? (ad215.add ((x74_3).toNat * 2)) = some (.int .i64 ((rd_T26 x6_2 x74_3).f0)) ∧ w'.cell? ⟨(ad215.add ((x74_3).toNat * 2)).block, (ad215.add ((x74_3).toNat * 2)).off + 1, none⟩ = some (.int .i64 ((rd_T26 x6_2 x74_3).f1))) ∧ (Kd.R k26 26 w' w.heap.size (fun k_ => some k_ ≠ (.slice (some ad215) x6_2.length co94 : Value).ownBlock ∧ k_ ≠ gb157 ∧ k_ ≠ s_) u13 x13_3) ∧ (Kd.R k26 26 w' w.heap.size (fun k_ => some k_ ≠ (u13 : Value).ownBlock ∧ k_ ≠ gb157 ∧ k_ ≠ s_) (.slice (some ad215) x6_2.length co94) x6_2) ∧ (w'.heap[gb157]? = some (.cells #[.int .i64 a1_0, .int .i64 a1_1] 26 (0, 0))) ∧ (w'.heap[s_]? = some (.cells #[.int .i64 0, .int .i64 0] 26 (0, 0))) ∧ (w.heap.size ≤ s_) ∧ (w.heap.size ≤ s_) ∧ (gb157 ≠ s_) ∧ (s_ ≠ gb157) ∧ (Below w.heap.size w w')) ?_ ?_
           rotate_left
           ·intro hCont
            refine two_ (i := 12) (j := 16) (Ni := some 90) (Nj := some 15) (pT 19 13) #[true, true, true, true, true, true, true, true, true, true, true, true, false, false, false, false, true, false, false] rfl rfl rfl rfl (two_of HT_.out (by kernel_rfl)) (by decide) (by decide) (fun K hK => ?_) (fun K hK => ?_)
            ·skip
             refine goes_ Try.func99 (by kernel_rfl) rfl #[.agg #[.int .i64 ((rd_T26 x6_2 (ji97)).f0), .int .i64 ((rd_T26 x6_2 (ji97)).f1)], .agg #[.int .i64 ((rd_T26 x6_2 x74_3).f0), .int .i64 ((rd_T26 x6_2 x74_3).f1)], .int .i64 (-1)] (by rfl) rfl rfl (by (try simp only [List.map_toArray, List.map_cons, List.map_nil]); first | done | (simp only [hji97]; rfl) | rfl | (simp only [List.length_drop, List.length_take]; rfl)) ?_
             with_reducible refine (spec_diAdd.calls k3 ((rd_T26 x6_2 (ji97)).f0) ((rd_T26 x6_2 (ji97)).f1) ((rd_T26 x6_2 x74_3).f0) ((rd_T26 x6_2 x74_3).f1) (-1) t217 t218 false _ A102.out).mono ?_
             rintro e w118 ⟨rfl, hb⟩
             have HS0_ := (hb.cell (World.block_lt_of_cell? _ _ (hHeld.1))).trans (hHeld.1)
             have HS1_ := (hb.cell (World.block_lt_of_cell? _ _ (hHeld.2.1))).trans (hHeld.2.1)
             have HS2_ := (hb.cell (World.block_lt_of_cell? _ _ (hHeld.2.2.1))).trans (hHeld.2.2.1)
             have HS3_ := (hb.cell (World.block_lt_of_cell? _ _ (hHeld.2.2.2))).trans (hHeld.2.2.2)
             refine ⟨_, rfl, ?_⟩
             have n0_ := Am (Kd.R_below (by (with_reducible repeat (first | apply Kd.R_alloc | apply Kd.R_drewN | apply Kd.R_drew)); exact HO_6.out) hb)
             have n1_ := Am (Kd.R_below (by (with_reducible repeat (first | apply Kd.R_alloc | apply Kd.R_drewN | apply Kd.R_drew)); exact HO_13.out) hb)
             have hp0 := hpA BK157.out hb (fun _ _ h_ => by (with_reducible repeat (first | refine kN ?_ _ | refine kD ?_ | refine kA ?_ _)); exact h_)
             have hv := hvK (w := w) hb (by repeat (first | (with_reducible first | exact HB.out | apply bA | apply bN | apply bD | refine bX ?_ (by assumption)) | exact HB.out))
             have n3_ := Am (bT hv hb)
             clear HO_6 HO_13 HB
             have HO_6 := n0_; have HO_13 := n1_
             replace BK157 := hp0 BK157
             have HB := n3_
             clear n0_ n1_ n3_ hp0 hv
             (try clear hb)
             refine hK.out _ _ ⟨HS0_, HS1_, HS2_, HS3_⟩ (fun hHeld => ?_)
             clear hK K
             refine norm_ (a' := ?_) ?_ ?_
             rotate_left
             ·show Act.put _ (some 90) _ = _
              simp only [Act.put, List.setIfInBounds_toArray, List.set_cons_zero, List.set_cons_succ, i64_w, i32_w]
              rfl
             iterate 3
              refine pI (v := ?_) (a' := ?_) rfl (any_of HT_.out (by kernel_rfl)) (fun _ _ _ h => h) (Or.inl ⟨by rfl, ?_⟩) ?_ ?_
              rotate_left
              ·intro w'
               go_simp
               with_reducible rfl
              rotate_left
              ·show Act.put _ (some _) _ = _
               simp only [Act.put, List.setIfInBounds_toArray, List.set_cons_zero, List.set_cons_succ, i64_w, i32_w]
               rfl
             refine one_ (i := 16) (N := some 15) (pT 19 17) rfl rfl (one_of HT_.out (by kernel_rfl)) (by decide) (fun K hK => ?_)
             refine box_step ?hg (N := 15) ?hd (cs := #[.int .i64 0, .int .i64 0]) (t := 26) ?hr ?_; (case hd => rfl); (case hg => rfl); (case hr => first | (go_simp; done) | (go_simp; rfl))
             intro gb220 hg w119 hbox hb
             have HS0_ := (hb.cell (World.block_lt_of_cell? _ _ (hHeld.1))).trans (hHeld.1)
             have HS1_ := (hb.cell (World.block_lt_of_cell? _ _ (hHeld.2.1))).trans (hHeld.2.1)
             have HS2_ := (hb.cell (World.block_lt_of_cell? _ _ (hHeld.2.2.1))).trans (hHeld.2.2.1)
             have HS3_ := (hb.cell (World.block_lt_of_cell? _ _ (hHeld.2.2.2))).trans (hHeld.2.2.2)
             have n0_ := Am (Kd.R_below (Kd.R_elderB (by (with_reducible repeat (first | apply Kd.R_alloc | apply Kd.R_drewN | apply Kd.R_drew)); exact HO_6.out) gb220 (Nat.le_of_eq hg.symm)) hb)
             have n1_ := Am (Kd.R_below (Kd.R_elderB (by (with_reducible repeat (first | apply Kd.R_alloc | apply Kd.R_drewN | apply Kd.R_drew)); exact HO_13.out) gb220 (Nat.le_of_eq hg.symm)) hb)
             have hp0 := hpA BK157.out hb (fun _ _ h_ => by (with_reducible repeat (first | refine kN ?_ _ | refine kD ?_ | refine kA ?_ _)); exact h_)
             have hv := hvK (w := w) hb (by repeat (first | (with_reducible first | exact HB.out | apply bA | apply bN | apply bD | refine bX ?_ (by assumption)) | exact HB.out))
             have n3_ := Am (bT hv hb)
             have n4_ := Am (hbox)
             have GW220 := kG hg hv
             have GE220 := kG hg hv
             have hp1 := hpK BK157.out hb (fun _ _ h_ => by (with_reducible repeat (first | refine kN ?_ _ | refine kD ?_ | refine kA ?_ _)); exact h_)
             have NB157_220 := kX hg (hp1 BK157.out)
             have NB220_157 := kY hg (hp1 BK157.out)
             clear HO_6 HO_13 HB
             have HO_6 := n0_; have HO_13 := n1_
             replace BK157 := hp0 BK157
             have HB := n3_; have BK220 := n4_
             clear n3_ n4_ hp0 hp1 hv hb hbox hg
             refine hK.out _ _ ⟨HS0_, HS1_, HS2_, HS3_⟩ (fun hHeld => ?_)
             clear hK K
             refine norm_ (a' := ?_) ?_ ?_
             rotate_left
             ·show Act.put _ (some 15) _ = _
              simp only [Act.put, List.setIfInBounds_toArray, List.set_cons_zero, List.set_cons_succ, i64_w, i32_w]
              rfl
             exact norm_ (by simp only [putAll, Act.put, List.setIfInBounds_toArray, List.set_cons_zero, List.set_cons_succ]) (hCont (gb220) _ ⟨hHeld, (by (with_reducible repeat (first | apply Kd.R_alloc | apply Kd.R_drewN | apply Kd.R_drew)); exact Kd.R_mono HO_13.out (fun _ hk => ⟨hk.1.1, ⟨hk.1.2, hk.2⟩⟩)), (by (with_reducible repeat (first | apply Kd.R_alloc | apply Kd.R_drewN | apply Kd.R_drew)); exact Kd.R_mono HO_6.out (fun _ hk => ⟨hk.1.1, ⟨hk.1.2, hk.2⟩⟩)), (by (with_reducible repeat (first | refine kN ?_ _ | refine kD ?_ | refine kA ?_ _)); exact BK157.out), (by (with_reducible repeat (first | refine kN ?_ _ | refine kD ?_ | refine kA ?_ _)); exact BK220.out), GW220.out, GE220.out, NB157_220.out, NB220_157.out, (by repeat (first | (with_reducible first | exact HB.out | apply bA | apply bN | apply bD | refine bX ?_ (by assumption)) | exact HB.out))⟩)
            skip
            refine box_step ?hg (N := 15) ?hd (cs := #[.int .i64 0, .int .i64 0]) (t := 26) ?hr ?_; (case hd => rfl); (case hg => rfl); (case hr => first | (go_simp; done) | (go_simp; rfl))
            intro gb220 hg w118 hbox hb
            have HS0_ := (hb.cell (World.block_lt_of_cell? _ _ (hHeld.1))).trans (hHeld.1)
            have HS1_ := (hb.cell (World.block_lt_of_cell? _ _ (hHeld.2.1))).trans (hHeld.2.1)
            have HS2_ := (hb.cell (World.block_lt_of_cell? _ _ (hHeld.2.2.1))).trans (hHeld.2.2.1)
            have HS3_ := (hb.cell (World.block_lt_of_cell? _ _ (hHeld.2.2.2))).trans (hHeld.2.2.2)
            have n0_ := Am (Kd.R_below (Kd.R_elderB (by (with_reducible repeat (first | apply Kd.R_alloc | apply Kd.R_drewN | apply Kd.R_drew)); exact HO_6.out) gb220 (Nat.le_of_eq hg.symm)) hb)
            have n1_ := Am (Kd.R_below (Kd.R_elderB (by (with_reducible repeat (first | apply Kd.R_alloc | apply Kd.R_drewN | apply Kd.R_drew)); exact HO_13.out) gb220 (Nat.le_of_eq hg.symm)) hb)
            have hp0 := hpA BK157.out hb (fun _ _ h_ => by (with_reducible repeat (first | refine kN ?_ _ | refine kD ?_ | refine kA ?_ _)); exact h_)
            have hv := hvK (w := w) hb (by repeat (first | (with_reducible first | exact HB.out | apply bA | apply bN | apply bD | refine bX ?_ (by assumption)) | exact HB.out))
            have n3_ := Am (bT hv hb)
            have n4_ := Am (hbox)
            have GW220 := kG hg hv
            have GE220 := kG hg hv
            have hp1 := hpK BK157.out hb (fun _ _ h_ => by (with_reducible repeat (first | refine kN ?_ _ | refine kD ?_ | refine kA ?_ _)); exact h_)
            have NB157_220 := kX hg (hp1 BK157.out)
            have NB220_157 := kY hg (hp1 BK157.out)
            clear HO_6 HO_13 HB
            have HO_6 := n0_; have HO_13 := n1_
            replace BK157 := hp0 BK157
            have HB := n3_; have BK220 := n4_
            clear n3_ n4_ hp0 hp1 hv hb hbox hg
            refine hK.out _ _ ⟨HS0_, HS1_, HS2_, HS3_⟩ (fun hHeld => ?_)
            clear hK K
            refine norm_ (a' := ?_) ?_ ?_
            rotate_left
            ·show Act.put _ (some 15) _ = _
             simp only [Act.put, List.setIfInBounds_toArray, List.set_cons_zero, List.set_cons_succ, i64_w, i32_w]
             rfl
            refine one_ (i := 12) (N := some 90) #[true, true, true, true, true, true, true, true, true, true, true, true, true, false, false, false, true, false, false] rfl rfl (one_of HT_.out (by kernel_rfl)) (by decide) (fun K hK => ?_)
            refine goes_ Try.func99 (by kernel_rfl) rfl #[.agg #[.int .i64 ((rd_T26 x6_2 (ji97)).f0), .int .i64 ((rd_T26 x6_2 (ji97)).f1)], .agg #[.int .i64 ((rd_T26 x6_2 x74_3).f0), .int .i64 ((rd_T26 x6_2 x74_3).f1)], .int .i64 (-1)] (by rfl) rfl rfl (by (try simp only [List.map_toArray, List.map_cons, List.map_nil]); first | done | (simp only [hji97]; rfl) | rfl | (simp only [List.length_drop, List.length_take]; rfl)) ?_
            with_reducible refine (spec_diAdd.calls k3 ((rd_T26 x6_2 (ji97)).f0) ((rd_T26 x6_2 (ji97)).f1) ((rd_T26 x6_2 x74_3).f0) ((rd_T26 x6_2 x74_3).f1) (-1) t217 t218 false _ A102.out).mono ?_
            rintro e w119 ⟨rfl, hb⟩
            have HS0_ := (hb.cell (World.block_lt_of_cell? _ _ (hHeld.1))).trans (hHeld.1)
            have HS1_ := (hb.cell (World.block_lt_of_cell? _ _ (hHeld.2.1))).trans (hHeld.2.1)
            have HS2_ := (hb.cell (World.block_lt_of_cell? _ _ (hHeld.2.2.1))).trans (hHeld.2.2.1)
            have HS3_ := (hb.cell (World.block_lt_of_cell? _ _ (hHeld.2.2.2))).trans (hHeld.2.2.2)
            refine ⟨_, rfl, ?_⟩
            have n0_ := Am (Kd.R_below (by (with_reducible repeat (first | apply Kd.R_alloc | apply Kd.R_drewN | apply Kd.R_drew)); exact HO_6.out) hb)
            have n1_ := Am (Kd.R_below (by (with_reducible repeat (first | apply Kd.R_alloc | apply Kd.R_drewN | apply Kd.R_drew)); exact HO_13.out) hb)
            have hp0 := hpA BK157.out hb (fun _ _ h_ => by (with_reducible repeat (first | refine kN ?_ _ | refine kD ?_ | refine kA ?_ _)); exact h_)
            have hv := hvK (w := w) hb (by repeat (first | (with_reducible first | exact HB.out | apply bA | apply bN | apply bD | refine bX ?_ (by assumption)) | exact HB.out))
            have n4_ := Am (bT hv hb)
            clear HO_6 HO_13 HB
            have HO_6 := n0_; have HO_13 := n1_
            replace BK157 := hp0 BK157; replace BK220 := hp0 BK220
            have HB := n4_
            clear n0_ n1_ n4_ hp0 hv
            (try clear hb)
            refine hK.out _ _ ⟨HS0_, HS1_, HS2_, HS3_⟩ (fun hHeld => ?_)
            clear hK K
            refine norm_ (a' := ?_) ?_ ?_
            rotate_left
            ·show Act.put _ (some 90) _ = _
             simp only [Act.put, List.setIfInBounds_toArray, List.set_cons_zero, List.set_cons_succ, i64_w, i32_w]
             rfl
            refine pure_ (i := 13) (N := some 77) (v := ?_) (a' := ?_) #[true, true, true, true, true, true, true, true, true, true, true, true, true, true, false, false, true, false, false] rfl rfl (any_of HT_.out (by kernel_rfl)) (fun _ _ _ h => h) (Or.inl ⟨by rfl, ?_⟩) ?_ ?_
            rotate_left
            ·intro w'
             go_simp
             with_reducible rfl
            rotate_left
            ·simp only [Act.put, List.setIfInBounds_toArray, List.set_cons_zero, List.set_cons_succ, i64_w, i32_w]
             rfl
            refine pure_ (i := 14) (N := some 91) (v := ?_) (a' := ?_) #[true, true, true, true, true, true, true, true, true, true, true, true, true, true, true, false, true, false, false] rfl rfl (any_of HT_.out (by kernel_rfl)) (fun _ _ _ h => h) (Or.inl ⟨by rfl, ?_⟩) ?_ ?_
            rotate_left
            ·intro w'
             go_simp
             with_reducible rfl
            rotate_left
            ·simp only [Act.put, List.setIfInBounds_toArray, List.set_cons_zero, List.set_cons_succ, i64_w, i32_w]
             rfl
            refine pure_ (i := 15) (N := some 92) (v := ?_) (a' := ?_) (pT 19 17) rfl rfl (any_of HT_.out (by kernel_rfl)) (fun _ _ _ h => h) (Or.inl ⟨by rfl, ?_⟩) ?_ ?_
            rotate_left
            ·intro w'
             go_simp
             with_reducible rfl
            rotate_left
            ·simp only [Act.put, List.setIfInBounds_toArray, List.set_cons_zero, List.set_cons_succ, i64_w, i32_w]
             rfl
            exact norm_ (by simp only [putAll, Act.put, List.setIfInBounds_toArray, List.set_cons_zero, List.set_cons_succ]) (hCont (gb220) _ ⟨hHeld, (by (with_reducible repeat (first | apply Kd.R_alloc | apply Kd.R_drewN | apply Kd.R_drew)); exact Kd.R_mono HO_13.out (fun _ hk => ⟨hk.1.1, ⟨hk.1.2, hk.2⟩⟩)), (by (with_reducible repeat (first | apply Kd.R_alloc | apply Kd.R_drewN | apply Kd.R_drew)); exact Kd.R_mono HO_6.out (fun _ hk => ⟨hk.1.1, ⟨hk.1.2, hk.2⟩⟩)), (by (with_reducible repeat (first | refine kN ?_ _ | refine kD ?_ | refine kA ?_ _)); exact BK157.out), (by (with_reducible repeat (first | refine kN ?_ _ | refine kD ?_ | refine kA ?_ _)); exact BK220.out), GW220.out, GE220.out, NB157_220.out, NB220_157.out, (by repeat (first | (with_reducible first | exact HB.out | apply bA | apply bN | apply bD | refine bX ?_ (by assumption)) | exact HB.out))⟩)
           rintro gb220 w120 ⟨hS_, h0_, h1_, h2_, h3_, h4_, h5_, h6_, h7_, h8_⟩
           have n0_ : Aside0 (Kd.R k26 26 w120 w.heap.size (fun k_ => some k_ ≠ (.slice (some ad215) x6_2.length co94 : Value).ownBlock ∧ k_ ≠ gb157 ∧ k_ ≠ gb220) u13 x13_3) := ⟨h0_⟩
           have n1_ : Aside0 (Kd.R k26 26 w120 w.heap.size (fun k_ => some k_ ≠ (u13 : Value).ownBlock ∧ k_ ≠ gb157 ∧ k_ ≠ gb220) (.slice (some ad215) x6_2.length co94) x6_2) := ⟨h1_⟩
           have n2_ : Aside0 (w120.heap[gb157]? = some (.cells #[.int .i64 a1_0, .int .i64 a1_1] 26 (0, 0))) := ⟨h2_⟩
           have n3_ : Aside0 (w120.heap[gb220]? = some (.cells #[.int .i64 0, .int .i64 0] 26 (0, 0))) := ⟨h3_⟩
           have n4_ : Aside0 (w.heap.size ≤ gb220) := ⟨h4_⟩
           have n5_ : Aside0 (w.heap.size ≤ gb220) := ⟨h5_⟩
           have n6_ : Aside0 (gb157 ≠ gb220) := ⟨h6_⟩
           have n7_ : Aside0 (gb220 ≠ gb157) := ⟨h7_⟩
           have n8_ : Aside0 (Below w.heap.size w w120) := ⟨h8_⟩
           clear HO_6 HO_13 BK157 HB h0_ h1_ h2_ h3_ h4_ h5_ h6_ h7_ h8_
           have HO_13 := n0_; have HO_6 := n1_; have BK157 := n2_; have BK220 := n3_; have GW220 := n4_; have GE220 := n5_; have NB157_220 := n6_; have NB220_157 := n7_; have HB := n8_
           clear n0_ n1_ n2_ n3_ n4_ n5_ n6_ n7_ n8_
           have hHeld : w120.cell? (ad215.add (((ji97)).toNat * 2)) = some (.int .i64 ((rd_T26 x6_2 (ji97)).f0)) ∧ w120.cell? ⟨(ad215.add (((ji97)).toNat * 2)).block, (ad215.add (((ji97)).toNat * 2)).off + 1, none⟩ = some (.int .i64 ((rd_T26 x6_2 (ji97)).f1)) ∧ w120.cell? (ad215.add ((x74_3).toNat * 2)) = some (.int .i64 ((rd_T26 x6_2 x74_3).f0)) ∧ w120.cell? ⟨(ad215.add ((x74_3).toNat * 2)).block, (ad215.add ((x74_3).toNat * 2)).off + 1, none⟩ = some (.int .i64 ((rd_T26 x6_2 x74_3).f1)) := hS_
           refine norm_ (a' := ?_) ?_ ?_
           rotate_left
           ·simp only [putAll, Act.put, List.setIfInBounds_toArray, List.set_cons_zero, List.set_cons_succ]
            rfl
           refine one_ (i := 17) (N := none) (pT 19 18) rfl rfl (one_of HT_.out (by kernel_rfl)) (by decide) (fun K hK => ?_)
           have hs121 : w120.cell? ⟨gb220, 0, none⟩ = some (.int .i64 0) := c20 BK220.out
           have hfs121 := kF BK220.out 0
           have hns121_0 := NB157_220.out; have hms121_0 := NB220_157.out
           have hs122 : w120.cell? ⟨gb220, 1, none⟩ = some (.int .i64 0) := c21 BK220.out
           have hfs122 := kF BK220.out 1
           have hns122_0 := NB157_220.out; have hms122_0 := NB220_157.out
           refine skip_ (w1 := ?_) (by rfl) rfl ?_ ?_
           rotate_left
           ·go_simp
            rfl
           refine hK.out _ _ ⟨((cell_far (p := ⟨gb220, _, none⟩) (by first | exact Kd.own_blk (Kd.R_away HO_6.out (fun _ hk => hk.2.2)) | (rw [add_block]; exact Kd.own_blk (Kd.R_away HO_6.out (fun _ hk => hk.2.2))) | (show (Addr.add _ _).block ≠ _; rw [add_block]; exact Kd.own_blk (Kd.R_away HO_6.out (fun _ hk => hk.2.2))) | (dsimp only; exact Kd.own_blk (Kd.R_away HO_6.out (fun _ hk => hk.2.2)))) _).trans (((cell_far (p := ⟨gb220, _, none⟩) (by first | exact Kd.own_blk (Kd.R_away HO_6.out (fun _ hk => hk.2.2)) | (rw [add_block]; exact Kd.own_blk (Kd.R_away HO_6.out (fun _ hk => hk.2.2))) | (show (Addr.add _ _).block ≠ _; rw [add_block]; exact Kd.own_blk (Kd.R_away HO_6.out (fun _ hk => hk.2.2))) | (dsimp only; exact Kd.own_blk (Kd.R_away HO_6.out (fun _ hk => hk.2.2)))) _).trans (hHeld.1)))), ((cell_far (p := ⟨gb220, _, none⟩) (by first | exact Kd.own_blk (Kd.R_away HO_6.out (fun _ hk => hk.2.2)) | (rw [add_block]; exact Kd.own_blk (Kd.R_away HO_6.out (fun _ hk => hk.2.2))) | (show (Addr.add _ _).block ≠ _; rw [add_block]; exact Kd.own_blk (Kd.R_away HO_6.out (fun _ hk => hk.2.2))) | (dsimp only; exact Kd.own_blk (Kd.R_away HO_6.out (fun _ hk => hk.2.2)))) _).trans (((cell_far (p := ⟨gb220, _, none⟩) (by first | exact Kd.own_blk (Kd.R_away HO_6.out (fun _ hk => hk.2.2)) | (rw [add_block]; exact Kd.own_blk (Kd.R_away HO_6.out (fun _ hk => hk.2.2))) | (show (Addr.add _ _).block ≠ _; rw [add_block]; exact Kd.own_blk (Kd.R_away HO_6.out (fun _ hk => hk.2.2))) | (dsimp only; exact Kd.own_blk (Kd.R_away HO_6.out (fun _ hk => hk.2.2)))) _).trans (hHeld.2.1)))), ((cell_far (p := ⟨gb220, _, none⟩) (by first | exact Kd.own_blk (Kd.R_away HO_6.out (fun _ hk => hk.2.2)) | (rw [add_block]; exact Kd.own_blk (Kd.R_away HO_6.out (fun _ hk => hk.2.2))) | (show (Addr.add _ _).block ≠ _; rw [add_block]; exact Kd.own_blk (Kd.R_away HO_6.out (fun _ hk => hk.2.2))) | (dsimp only; exact Kd.own_blk (Kd.R_away HO_6.out (fun _ hk => hk.2.2)))) _).trans (((cell_far (p := ⟨gb220, _, none⟩) (by first | exact Kd.own_blk (Kd.R_away HO_6.out (fun _ hk => hk.2.2)) | (rw [add_block]; exact Kd.own_blk (Kd.R_away HO_6.out (fun _ hk => hk.2.2))) | (show (Addr.add _ _).block ≠ _; rw [add_block]; exact Kd.own_blk (Kd.R_away HO_6.out (fun _ hk => hk.2.2))) | (dsimp only; exact Kd.own_blk (Kd.R_away HO_6.out (fun _ hk => hk.2.2)))) _).trans (hHeld.2.2.1)))), ((cell_far (p := ⟨gb220, _, none⟩) (by first | exact Kd.own_blk (Kd.R_away HO_6.out (fun _ hk => hk.2.2)) | (rw [add_block]; exact Kd.own_blk (Kd.R_away HO_6.out (fun _ hk => hk.2.2))) | (show (Addr.add _ _).block ≠ _; rw [add_block]; exact Kd.own_blk (Kd.R_away HO_6.out (fun _ hk => hk.2.2))) | (dsimp only; exact Kd.own_blk (Kd.R_away HO_6.out (fun _ hk => hk.2.2)))) _).trans (((cell_far (p := ⟨gb220, _, none⟩) (by first | exact Kd.own_blk (Kd.R_away HO_6.out (fun _ hk => hk.2.2)) | (rw [add_block]; exact Kd.own_blk (Kd.R_away HO_6.out (fun _ hk => hk.2.2))) | (show (Addr.add _ _).block ≠ _; rw [add_block]; exact Kd.own_blk (Kd.R_away HO_6.out (fun _ hk => hk.2.2))) | (dsimp only; exact Kd.own_blk (Kd.R_away HO_6.out (fun _ hk => hk.2.2)))) _).trans (hHeld.2.2.2))))⟩ (fun hHeld => ?_)
           clear hK K
           refine pI (v := ?_) (a' := ?_) rfl (any_of HT_.out (by kernel_rfl)) (fun _ _ _ h => h) (Or.inl ⟨by rfl, ?_⟩) ?_ ?_
           rotate_left
           ·intro w'
            go_simp
            with_reducible rfl
           rotate_left
           ·show Act.put _ (some _) _ = _
            simp only [Act.put, List.setIfInBounds_toArray, List.set_cons_zero, List.set_cons_succ, i64_w, i32_w]
            rfl
           refine done_ (done_of HT_.out (by kernel_rfl)) ?_
           try go_wp2
           go_ret2
           exact ⟨_, by first | rfl | (simp [errW_none, errW_some] <;> rfl) | (simp only [← hji97]; first | rfl | (simp [errW_none, errW_some] <;> rfl)) | (simp [*, errW_none, errW_some] <;> rfl), by first | exact Kd.R_nil _ _ _ _ _ | exact Kd.N_nil _ _ _ _ _ | exact Kd.V_nil _ _ _ _ _ | exact Kd.Q_nil _ _ _ _ _ | exact Kd.S_nil _ _ _ _ _, by repeat (first | (with_reducible first | exact HB.out | apply bA | apply bN | apply bD | refine bX ?_ (by assumption)) | exact HB.out)⟩
          rw [if_neg c101] at H
          exact absurd H (by simp)
         rw [if_neg c100] at H
         exact absurd H (by simp)
        rw [if_neg c99] at H
        exact absurd H (by simp)
       rw [if_neg c98] at H
       exact absurd H (by simp)
      rw [if_neg c95] at H
      have c95b0 : decide (x74_3 < (x6_2.length : Int)) = false := decide_eq_false c95
      clear c95
      simp only [Option.some.injEq, Prod.mk.injEq] at H
      obtain ⟨rfl, rfl⟩ := H
      go_wp2
      go_ret2
      exact ⟨_, by first | rfl | (simp [errW_none, errW_some] <;> rfl) | (simp [*, errW_none, errW_some] <;> rfl), by (with_reducible repeat (first | apply Kd.R_alloc | apply Kd.R_drewN | apply Kd.R_drew)); exact Kd.R_mono HO_13.out (fun _ hk => trivial), by repeat (first | (with_reducible first | exact HB.out | apply bA | apply bN | apply bD | refine bX ?_ (by assumption)) | exact HB.out)⟩
end Go.Proofs.Ytioggbokjfdoaaa.PFnExactGapsAt
