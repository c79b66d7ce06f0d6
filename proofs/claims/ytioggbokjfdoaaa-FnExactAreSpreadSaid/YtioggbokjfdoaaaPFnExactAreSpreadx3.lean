-- WRITTEN BY A PROGRAM OF THIS SESSION (wip/tools): its own text, not the kit's printed one.
import Derived.Test.YtioggbokjfdoaaaPFnExactAreSpreadx0
import Derived.Test.YtioggbokjfdoaaaPFnExactAreSpreadx2
namespace Go.Proofs.Ytioggbokjfdoaaa.PFnExactAreSpread
open Go.RowKit Go.Proofs.YtioggbokjfdoaaaW.PrintWords Go.Proofs.YtioggbokjfdoaaaW.PrintLast Go.Proofs.YtioggbokjfdoaaaW.PrintMore
attribute [local go_sem] max2_int min2_int max_two min_two max_three min_three max_four min_four   -- for this text's walks alone
set_option linter.unusedVariables false
set_option linter.unusedSimpArgs false

/-! ### spec_meGaps: function 79 -/
mutual
def spec_meGaps.j0 : Nat → List (S30) → Bool → Int → Int → Option ((List (S26)) × Bool)
 | 0, _, _, _, _ => none
 | k + 1, x0, x25, x130000, x130001 => if x25 = true then (some (([] : List (S26)), false)) else (spec_meGaps.l0 k ([] : List (S26)) x0 (x0.length : Int) 0 x130000 x130001)
def spec_meGaps.l0 : Nat → List (S26) → List (S30) → Int → Int → Int → Int → Option ((List (S26)) × Bool)
 | 0, _, _, _, _, _, _ => none
 | k + 1, x6, x26, x27, x28, x130000, x130001 => if x28 < x27 then (if 0 ≤ x28 then (if x28 < (x26.length : Int) then ((spec_meGood.f k ((rd_T30 x26 x28).f0.f0) ((rd_T30 x26 x28).f0.f1) ((rd_T30 x26 x28).f1)).bind fun t134 => (if t134 = true then ((spec_meAt.f k ((rd_T30 x26 x28).f0.f0) ((rd_T30 x26 x28).f0.f1) ((rd_T30 x26 x28).f1) x130000 x130001).bind fun bt135 => (if bt135.2.2 = true then (spec_meGaps.l1 k x6 0 x26 x27 x28 x130000 x130001 bt135.1 bt135.2.1) else (some (([] : List (S26)), false)))) else (some (([] : List (S26)), false)))) else (none)) else (none)) else (spec_meGaps.l2 k x6 ([] : List (S26)) (x6.length : Int) 0)
def spec_meGaps.l1 : Nat → List (S26) → Int → List (S30) → Int → Int → Int → Int → Int → Int → Option ((List (S26)) × Bool)
 | 0, _, _, _, _, _, _, _, _, _ => none
 | k + 1, x6, x11, x26, x27, x28, x130000, x130001, x139000, x139001 => if x11 < (x6.length : Int) then (if 0 ≤ x11 then ((spec_diCompare.f ((rd_T26 x6 x11).f0) ((rd_T26 x6 x11).f1) x139000 x139001).bind fun t140 => (if t140 ≤ 0 then (spec_meGaps.l1 k x6 (wrap64 (x11 + 1)) x26 x27 x28 x130000 x130001 x139000 x139001) else ((some (([] : List (S26)) : List (S26))).bind fun y141 => (if x11 ≤ (x6.length : Int) then ((some (x6.take (x11 : Int).toNat : List (S26))).bind fun y144 => (if y141.length + y144.length < 8796093022208 then ((some (y141 ++ y144 : List (S26))).bind fun y148 => ((some (([(⟨x139000, x139001⟩ : S26)] : List (S26)) : List (S26))).bind fun y151 => (if y148.length + y151.length < 8796093022208 then ((some (y148 ++ y151 : List (S26))).bind fun y154 => ((some (x6.drop (x11 : Int).toNat : List (S26))).bind fun y157 => (if y154.length + y157.length < 8796093022208 then (spec_meGaps.l0 k (y154 ++ y157) x26 x27 (wrap64 (x28 + 1)) x130000 x130001) else (none)))) else (none)))) else (none))) else (none))))) else (none)) else ((some (([] : List (S26)) : List (S26))).bind fun y164 => (if 0 ≤ x11 then (if x11 ≤ (x6.length : Int) then ((some (x6.take (x11 : Int).toNat : List (S26))).bind fun y167 => (if y164.length + y167.length < 8796093022208 then ((some (y164 ++ y167 : List (S26))).bind fun y171 => ((some (([(⟨x139000, x139001⟩ : S26)] : List (S26)) : List (S26))).bind fun y174 => (if y171.length + y174.length < 8796093022208 then ((some (y171 ++ y174 : List (S26))).bind fun y177 => ((some (x6.drop (x11 : Int).toNat : List (S26))).bind fun y180 => (if y177.length + y180.length < 8796093022208 then (spec_meGaps.l0 k (y177 ++ y180) x26 x27 (wrap64 (x28 + 1)) x130000 x130001) else (none)))) else (none)))) else (none))) else (none)) else (none)))
def spec_meGaps.l2 : Nat → List (S26) → List (S26) → Int → Int → Option ((List (S26)) × Bool)
 | 0, _, _, _, _ => none
 | k + 1, x6, x13, x73, x74 => if x74 < x73 then (if (x6.length : Int) = 0 then (none) else (if 0 ≤ (Int.tmod (wrap64 (x74 + 1)) (x6.length : Int)) then (if (Int.tmod (wrap64 (x74 + 1)) (x6.length : Int)) < (x6.length : Int) then (if 0 ≤ x74 then (if x74 < (x6.length : Int) then ((spec_diAdd.f k ((rd_T26 x6 (Int.tmod (wrap64 (x74 + 1)) (x6.length : Int))).f0) ((rd_T26 x6 (Int.tmod (wrap64 (x74 + 1)) (x6.length : Int))).f1) ((rd_T26 x6 x74).f0) ((rd_T26 x6 x74).f1) (-1)).bind fun bt189 => (if bt189.2.2 = true then ((some (([(⟨bt189.1, bt189.2.1⟩ : S26)] : List (S26)) : List (S26))).bind fun y193 => (if x13.length + y193.length < 8796093022208 then (spec_meGaps.l2 k x6 (x13 ++ y193) x73 (wrap64 (x74 + 1))) else (none))) else (some (([] : List (S26)), false)))) else (none)) else (none)) else (none)) else (none))) else (some (x13, true))
end
def spec_meGaps.f (k : Nat) (l0 : List (S30)) (a1_0 : Int) (a1_1 : Int) : Option ((List (S26)) × Bool) := (spec_l1In.f (l0.length : Int) 1 12).bind fun t130 => (if t130 = true then ((spec_diGood.f k a1_0 a1_1).bind fun t131 => (spec_meGaps.j0 k l0 (!t131) a1_0 a1_1)) else (spec_meGaps.j0 k l0 true a1_0 a1_1))
theorem spec_meGaps.mono_l : ∀ k, (∀ y0 y1 y2 y3, LeO (spec_meGaps.j0 k y0 y1 y2 y3) (spec_meGaps.j0 (k + 1) y0 y1 y2 y3)) ∧ (∀ y0 y1 y2 y3 y4 y5, LeO (spec_meGaps.l0 k y0 y1 y2 y3 y4 y5) (spec_meGaps.l0 (k + 1) y0 y1 y2 y3 y4 y5)) ∧ (∀ y0 y1 y2 y3 y4 y5 y6 y7 y8, LeO (spec_meGaps.l1 k y0 y1 y2 y3 y4 y5 y6 y7 y8) (spec_meGaps.l1 (k + 1) y0 y1 y2 y3 y4 y5 y6 y7 y8)) ∧ (∀ y0 y1 y2 y3, LeO (spec_meGaps.l2 k y0 y1 y2 y3) (spec_meGaps.l2 (k + 1) y0 y1 y2 y3))
 | 0 => ⟨fun _ _ _ _ r h => by simp [spec_meGaps.j0] at h, fun _ _ _ _ _ _ r h => by simp [spec_meGaps.l0] at h, fun _ _ _ _ _ _ _ _ _ r h => by simp [spec_meGaps.l1] at h, fun _ _ _ _ r h => by simp [spec_meGaps.l2] at h⟩
 | k + 1 => by
  obtain ⟨ih0, ih1, ih2, ih3⟩ := spec_meGaps.mono_l k
  refine ⟨?_, ?_, ?_, ?_⟩
  ·intro y0 y1 y2 y3
   unfold spec_meGaps.j0
   repeat' first
   | (with_reducible exact ih0 _ _ _ _)
   | (with_reducible exact ih1 _ _ _ _ _ _)
   | (with_reducible exact ih2 _ _ _ _ _ _ _ _ _)
   | (with_reducible exact ih3 _ _ _ _)
   | (with_reducible exact spec_diAdd.mono _ _ _ _ _ _)
   | (with_reducible exact spec_diGood.mono _ _ _)
   | (with_reducible exact spec_meAt.mono _ _ _ _ _ _)
   | (with_reducible exact spec_meGood.mono _ _ _ _)
   | (with_reducible exact LeO.refl _)
   | (with_reducible exact LeO.none _)
   | (with_reducible refine LeO.ite ?_ ?_)
   | (with_reducible refine LeO.bind ?_ (fun _ => ?_))
   | exact ih0 _ _ _ _
   | exact ih1 _ _ _ _ _ _
   | exact ih2 _ _ _ _ _ _ _ _ _
   | exact ih3 _ _ _ _
   | exact spec_diAdd.mono _ _ _ _ _ _
   | exact spec_diGood.mono _ _ _
   | exact spec_meAt.mono _ _ _ _ _ _
   | exact spec_meGood.mono _ _ _ _
   | exact LeO.none _
   | refine LeO.ite ?_ ?_
   | refine LeO.bind ?_ (fun _ => ?_)
  ·intro y0 y1 y2 y3 y4 y5
   unfold spec_meGaps.l0
   repeat' first
   | (with_reducible exact ih0 _ _ _ _)
   | (with_reducible exact ih1 _ _ _ _ _ _)
   | (with_reducible exact ih2 _ _ _ _ _ _ _ _ _)
   | (with_reducible exact ih3 _ _ _ _)
   | (with_reducible exact spec_diAdd.mono _ _ _ _ _ _)
   | (with_reducible exact spec_diGood.mono _ _ _)
   | (with_reducible exact spec_meAt.mono _ _ _ _ _ _)
   | (with_reducible exact spec_meGood.mono _ _ _ _)
   | (with_reducible exact LeO.refl _)
   | (with_reducible exact LeO.none _)
   | (with_reducible refine LeO.ite ?_ ?_)
   | (with_reducible refine LeO.bind ?_ (fun _ => ?_))
   | exact ih0 _ _ _ _
   | exact ih1 _ _ _ _ _ _
   | exact ih2 _ _ _ _ _ _ _ _ _
   | exact ih3 _ _ _ _
   | exact spec_diAdd.mono _ _ _ _ _ _
   | exact spec_diGood.mono _ _ _
   | exact spec_meAt.mono _ _ _ _ _ _
   | exact spec_meGood.mono _ _ _ _
   | exact LeO.none _
   | refine LeO.ite ?_ ?_
   | refine LeO.bind ?_ (fun _ => ?_)
  ·intro y0 y1 y2 y3 y4 y5 y6 y7 y8
   unfold spec_meGaps.l1
   repeat' first
   | (with_reducible exact ih0 _ _ _ _)
   | (with_reducible exact ih1 _ _ _ _ _ _)
   | (with_reducible exact ih2 _ _ _ _ _ _ _ _ _)
   | (with_reducible exact ih3 _ _ _ _)
   | (with_reducible exact spec_diAdd.mono _ _ _ _ _ _)
   | (with_reducible exact spec_diGood.mono _ _ _)
   | (with_reducible exact spec_meAt.mono _ _ _ _ _ _)
   | (with_reducible exact spec_meGood.mono _ _ _ _)
   | (with_reducible exact LeO.refl _)
   | (with_reducible exact LeO.none _)
   | (with_reducible refine LeO.ite ?_ ?_)
   | (with_reducible refine LeO.bind ?_ (fun _ => ?_))
   | exact ih0 _ _ _ _
   | exact ih1 _ _ _ _ _ _
   | exact ih2 _ _ _ _ _ _ _ _ _
   | exact ih3 _ _ _ _
   | exact spec_diAdd.mono _ _ _ _ _ _
   | exact spec_diGood.mono _ _ _
   | exact spec_meAt.mono _ _ _ _ _ _
   | exact spec_meGood.mono _ _ _ _
   | exact LeO.none _
   | refine LeO.ite ?_ ?_
   | refine LeO.bind ?_ (fun _ => ?_)
  ·intro y0 y1 y2 y3
   unfold spec_meGaps.l2
   repeat' first
   | (with_reducible exact ih0 _ _ _ _)
   | (with_reducible exact ih1 _ _ _ _ _ _)
   | (with_reducible exact ih2 _ _ _ _ _ _ _ _ _)
   | (with_reducible exact ih3 _ _ _ _)
   | (with_reducible exact spec_diAdd.mono _ _ _ _ _ _)
   | (with_reducible exact spec_diGood.mono _ _ _)
   | (with_reducible exact spec_meAt.mono _ _ _ _ _ _)
   | (with_reducible exact spec_meGood.mono _ _ _ _)
   | (with_reducible exact LeO.refl _)
   | (with_reducible exact LeO.none _)
   | (with_reducible refine LeO.ite ?_ ?_)
   | (with_reducible refine LeO.bind ?_ (fun _ => ?_))
   | exact ih0 _ _ _ _
   | exact ih1 _ _ _ _ _ _
   | exact ih2 _ _ _ _ _ _ _ _ _
   | exact ih3 _ _ _ _
   | exact spec_diAdd.mono _ _ _ _ _ _
   | exact spec_diGood.mono _ _ _
   | exact spec_meAt.mono _ _ _ _ _ _
   | exact spec_meGood.mono _ _ _ _
   | exact LeO.none _
   | refine LeO.ite ?_ ?_
   | refine LeO.bind ?_ (fun _ => ?_)
theorem spec_meGaps.mono : ∀ a0 a1 a2 k, LeO (spec_meGaps.f k a0 a1 a2) (spec_meGaps.f (k + 1) a0 a1 a2) := by
 intro a0 a1 a2 k
 obtain ⟨ih0, ih1, ih2, ih3⟩ := spec_meGaps.mono_l k
 unfold spec_meGaps.f
 repeat' first
   | (with_reducible exact ih0 _ _ _ _)
   | (with_reducible exact ih1 _ _ _ _ _ _)
   | (with_reducible exact ih2 _ _ _ _ _ _ _ _ _)
   | (with_reducible exact ih3 _ _ _ _)
   | (with_reducible exact spec_diAdd.mono _ _ _ _ _ _)
   | (with_reducible exact spec_diGood.mono _ _ _)
   | (with_reducible exact spec_meAt.mono _ _ _ _ _ _)
   | (with_reducible exact spec_meGood.mono _ _ _ _)
   | (with_reducible exact LeO.refl _)
   | (with_reducible exact LeO.none _)
   | (with_reducible refine LeO.ite ?_ ?_)
   | (with_reducible refine LeO.bind ?_ (fun _ => ?_))
   | exact ih0 _ _ _ _
   | exact ih1 _ _ _ _ _ _
   | exact ih2 _ _ _ _ _ _ _ _ _
   | exact ih3 _ _ _ _
   | exact spec_diAdd.mono _ _ _ _ _ _
   | exact spec_diGood.mono _ _ _
   | exact spec_meAt.mono _ _ _ _ _ _
   | exact spec_meGood.mono _ _ _ _
   | exact LeO.none _
   | refine LeO.ite ?_ ?_
   | refine LeO.bind ?_ (fun _ => ?_)
def spec_meGaps.T13 : Bool × List (List Nat × List Nat) := (true, [([], []), ([], []), ([1], [1]), ([0, 2], [0, 2]), ([3], [3]), ([4], [4]), ([4], [4]), ([5, 6, 4], [4, 5, 6]), ([7, 4], [4, 7]), ([4], [4]), ([8, 9, 4, 4], [4, 8, 9]), ([10, 4], [4, 10]), ([4, 11], [4, 11])])
def spec_meGaps.B13 : List Nat := [0, 0, 2, 7, 15, 31, 31, 127, 255, 31, 1023, 2047, 4095]
theorem spec_meGaps.tab13 : rtab .any (opsOf Try.f79 13) = spec_meGaps.T13 := by kernel_rfl
theorem spec_meGaps.bits13 : waitsOk spec_meGaps.T13.2 spec_meGaps.B13 = true := by kernel_rfl
def spec_meGaps.T15 : Bool × List (List Nat × List Nat) := (true, [([], []), ([], []), ([], []), ([1, 2], [1, 2]), ([0, 3], [0, 3]), ([], []), ([5], [5]), ([4, 6, 4], [4, 6]), ([7, 7, 0, 1, 2, 3, 4, 5, 6, 7], [7])])
def spec_meGaps.B15 : List Nat := [0, 0, 0, 6, 15, 0, 32, 127, 255]
theorem spec_meGaps.tab15 : rtab .any (opsOf Try.f79 15) = spec_meGaps.T15 := by kernel_rfl
theorem spec_meGaps.bits15 : waitsOk spec_meGaps.T15.2 spec_meGaps.B15 = true := by kernel_rfl
def spec_meGaps.T22 : Bool × List (List Nat × List Nat) := (true, [([], []), ([], []), ([1], [1]), ([], []), ([3], [3]), ([2, 4], [2, 4]), ([0, 5], [0, 5]), ([6], [6]), ([], []), ([], []), ([8, 9], [8, 9]), ([10], [10]), ([7, 11], [7, 11]), ([12], [12]), ([13], [13]), ([13], [13]), ([], []), ([16, 14, 12, 0, 1, 2, 3, 4, 5, 6, 7, 8, 9, 10, 11, 12, 13, 14, 16], [14, 16]), ([15, 17, 0, 1, 2, 3, 4, 5, 6, 7, 8, 9, 10, 11, 12, 13, 14, 15, 16, 17], [15])])
def spec_meGaps.B22 : List Nat := [0, 0, 2, 0, 8, 30, 63, 127, 0, 0, 768, 1792, 4095, 8191, 16383, 16383, 0, 98303, 262143]
theorem spec_meGaps.tab22 : rtab .any (opsOf Try.f79 22) = spec_meGaps.T22 := by kernel_rfl
theorem spec_meGaps.bits22 : waitsOk spec_meGaps.T22.2 spec_meGaps.B22 = true := by kernel_rfl
set_option maxHeartbeats 8000000 in
set_option maxRecDepth 100000 in
theorem spec_meGaps.calls (k : Nat) (A0 : Option Addr) (c0 : Nat) (l0 : List (S30)) (a1_0 : Int) (a1_1 : Int) (r1 : List (S26)) (r2 : Bool) (w : World) (hr0 : Kd.C k30 w A0 l0.length l0) (hc0 : l0.length ≤ c0) (h : spec_meGaps.f k l0 a1_0 a1_1 = some (r1, r2)) :
  Calls Try.prog 79 #[.slice A0 l0.length c0, .agg #[.int .i64 a1_0, .int .i64 a1_1]] w fun e w' => ∃ v0_ : Value, e = .returned (.tuple #[v0_, .bool r2]) ∧ Kd.R k26 26 w' w.heap.size (fun _ => True) v0_ r1 ∧ Below w.heap.size w w' := by
 have hu26 := Try.underlying26; have hu30 := Try.underlying30
 have HR0 := Am hr0
 have HC0 := Am hc0
 clear hr0 hc0
 have HB := Am (Below.refl w.heap.size w)
 have H : ((spec_l1In.f (l0.length : Int) 1 12).bind fun t130 => (if t130 = true then ((spec_diGood.f k a1_0 a1_1).bind fun t131 => (spec_meGaps.j0 k l0 (!t131) a1_0 a1_1)) else (spec_meGaps.j0 k l0 true a1_0 a1_1))) = some (r1, r2) := h
 clear h
 have HC3 := Am H
 clear H
 go_enter Try.func79, Try.ntmps79
 go_upto_region 1 with (first | ((with_reducible refine gate_dst (N := 3) rfl ?_); refine box_event ?hg (N := 3) ?hd (cs := #[.int .i64 a1_0, .int .i64 a1_1]) (t := 26) ?hr ?_; (case hd => rfl); (case hg => rfl); (case hr => first | (go_simp; done) | (go_simp; rfl)); intro gb129 hg w4 hbox hb; have hv := hvK (w := w) hb (by repeat (first | (with_reducible first | exact HB.out | apply bA | apply bN | apply bD) | exact HB.out)); have n0_ := Am (bT hv hb); have n1_ := Am (hbox); have GW129 := kG hg hv; have GE129 := kG hg hv; clear HB; have HB := n0_; have BK129 := n1_; clear n0_ n1_ hv; clear hb hbox hg))
 (try simp only [Act.put, List.setIfInBounds_toArray, List.set_cons_zero, List.set_cons_succ])
 go_cut [25] (fun v25 wc => ∃ (kq : Nat) (x25_2 : Bool), v25 = .bool x25_2 ∧ Aside0 (spec_meGaps.j0 kq l0 x25_2 a1_0 a1_1 = some (r1, r2)) ∧ Aside0 (kq ≤ k) ∧ Aside0 (wc.heap[gb129]? = some (.cells #[.int .i64 a1_0, .int .i64 a1_1] 26 (0, 0))) ∧ Aside0 (Below w.heap.size w wc))
 case first =>
  have H := HC3.out
  clear HC3
  replace H := Option.bind_eq_some_iff.mp H
  obtain ⟨t130, A50, H⟩ := H
  try dsimp only at H
  have A5 := Am A50
  clear A50
  by_cases c6 : t130 = true
  ·subst c6
   have H1 : ((spec_diGood.f k a1_0 a1_1).bind fun t131 => (spec_meGaps.j0 k l0 (!t131) a1_0 a1_1)) = some (r1, r2) := by rw [if_pos rfl] at H; exact H
   clear H
   have H := H1
   clear H1
   replace H := Option.bind_eq_some_iff.mp H
   obtain ⟨t131, A70, H⟩ := H
   try dsimp only at H
   have A7 := Am A70
   clear A70
   have H' := Am H
   clear H
   go_wp2_with (first | ((with_reducible refine gate_callee (f := 94) rfl ?_); refine goesL_ (some 19) rfl rfl Try.func94 (by kernel_rfl) rfl #[.int .i64 (l0.length : Int), .int .i64 1, .int .i64 12] rfl (by (try simp only [List.map_toArray, List.map_cons, List.map_nil]); first | done | rfl | (simp only [List.length_drop, List.length_take]; rfl)) ?_; (with_reducible refine (spec_l1In.calls (l0.length : Int) 1 12 true _ A5.out).mono ?_); rintro e w' ⟨rfl, ⟨nd, rfl⟩⟩; refine ⟨_, rfl, ?_⟩; have hcz8_0 := c20 BK129.out; have hcz8_1 := c21 BK129.out; have hfz8_0 := kF BK129.out 0; have hfz8_1 := kF BK129.out 1) | (go_at_call 57; (with_reducible refine (spec_diGood.calls k a1_0 a1_1 t131 _ A7.out).mono ?_); rintro e w9 ⟨rfl, hb⟩; have hp0 := hpA BK129.out hb (fun _ _ h_ => by (with_reducible repeat (first | refine kN ?_ _ | refine kD ?_ | refine kA ?_ _)); exact h_); have hv := hvK (w := w) hb (by repeat (first | (with_reducible first | exact HB.out | apply bA | apply bN | apply bD | refine bX ?_ (by assumption)) | exact HB.out)); have n1_ := Am (bT hv hb); clear HB; replace BK129 := hp0 BK129; have HB := n1_; clear n1_ hp0 hv; (try clear hb)))
   go_meet
   case rel => exact ⟨_, (!t131), (by first | rfl | (simp; done) | (simp [*]; done)), H', ⟨by first | omega | exact Nat.le_refl _⟩, ⟨by (with_reducible repeat (first | refine kN ?_ _ | refine kD ?_ | refine kA ?_ _)); exact BK129.out⟩, ⟨by repeat (first | (with_reducible first | exact HB.out | apply bA | apply bN | apply bD | refine bX ?_ (by assumption)) | exact HB.out)⟩⟩
  replace c6 := Bool.eq_false_iff.mpr c6
  subst c6
  have H1 : (spec_meGaps.j0 k l0 true a1_0 a1_1) = some (r1, r2) := by rw [if_neg (show ¬ (false = true) by decide)] at H; exact H
  clear H
  have H := H1
  clear H1
  have H' := Am H
  clear H
  go_wp2_with (first | ((with_reducible refine gate_callee (f := 94) rfl ?_); refine goesL_ (some 19) rfl rfl Try.func94 (by kernel_rfl) rfl #[.int .i64 (l0.length : Int), .int .i64 1, .int .i64 12] rfl (by (try simp only [List.map_toArray, List.map_cons, List.map_nil]); first | done | rfl | (simp only [List.length_drop, List.length_take]; rfl)) ?_; (with_reducible refine (spec_l1In.calls (l0.length : Int) 1 12 false _ A5.out).mono ?_); rintro e w' ⟨rfl, ⟨nd, rfl⟩⟩; refine ⟨_, rfl, ?_⟩))
  go_meet
  case rel => exact ⟨_, (true), (by first | rfl | (simp; done) | (simp [*]; done)), H', ⟨by first | omega | exact Nat.le_refl _⟩, ⟨by (with_reducible repeat (first | refine kN ?_ _ | refine kD ?_ | refine kA ?_ _)); exact BK129.out⟩, ⟨by repeat (first | (with_reducible first | exact HB.out | apply bA | apply bN | apply bD | refine bX ?_ (by assumption)) | exact HB.out)⟩⟩
 clear HC3
 obtain ⟨kq, x25_2, rfl, HA, HJ2, BK129, HB⟩ := hcut
 cases kq with
 | zero => exact absurd HA.out (by simp [spec_meGaps.j0])
 | succ kj2 =>
  have H := HA.out
  clear HA
  simp only [spec_meGaps.j0] at H
  by_cases c10 : x25_2 = true
  ·subst c10
   have H1 : (some (([] : List (S26)), false)) = some (r1, r2) := by rw [if_pos rfl] at H; exact H
   clear H
   have H := H1
   clear H1
   simp only [Option.some.injEq, Prod.mk.injEq] at H
   obtain ⟨rfl, rfl⟩ := H
   go_wp2
   go_ret2
   exact ⟨_, by first | rfl | (simp [errW_none, errW_some] <;> rfl) | (simp [*, errW_none, errW_some] <;> rfl), by first | exact Kd.R_nil _ _ _ _ _ | exact Kd.N_nil _ _ _ _ _ | exact Kd.V_nil _ _ _ _ _ | exact Kd.Q_nil _ _ _ _ _ | exact Kd.S_nil _ _ _ _ _, by repeat (first | (with_reducible first | exact HB.out | apply bA | apply bN | apply bD | refine bX ?_ (by assumption)) | exact HB.out)⟩
  replace c10 := Bool.eq_false_iff.mpr c10
  subst c10
  have H1 : (spec_meGaps.l0 kj2 ([] : List (S26)) l0 (l0.length : Int) 0 a1_0 a1_1) = some (r1, r2) := by rw [if_neg (show ¬ (false = true) by decide)] at H; exact H
  clear H
  have H := H1
  clear H1
  have H' := Am H
  clear H
  go_wp2
  go_loopg [6, 28] kj2 (fun kq v6 v28 w' => ∃ (x6_2 : List (S26)) (x28_2 : Int), v28 = .int .i64 x28_2 ∧ Aside0 (spec_meGaps.l0 kq x6_2 l0 (l0.length : Int) x28_2 a1_0 a1_1 = some (r1, r2)) ∧ Aside0 (kq ≤ kj2) ∧ Aside0 (Kd.R k26 26 w' w.heap.size (fun k_ => k_ ≠ gb129) v6 x6_2) ∧ Aside0 (w'.heap[gb129]? = some (.cells #[.int .i64 a1_0, .int .i64 a1_1] 26 (0, 0))) ∧ Aside0 (Below w.heap.size w w'))
  case atStart => exact ⟨(([] : List (S26))), (0), (by first | rfl | (simp; done) | (simp [*]; done)), H', ⟨Nat.le_refl _⟩, ⟨by first | exact Kd.R_nil _ _ _ _ _ | exact Kd.N_nil _ _ _ _ _ | exact Kd.V_nil _ _ _ _ _ | exact Kd.Q_nil _ _ _ _ _ | exact Kd.S_nil _ _ _ _ _⟩, ⟨by (with_reducible repeat (first | refine kN ?_ _ | refine kD ?_ | refine kA ?_ _)); exact BK129.out⟩, ⟨by repeat (first | (with_reducible first | exact HB.out | apply bA | apply bN | apply bD | refine bX ?_ (by assumption)) | exact HB.out)⟩⟩
  case round =>
   clear H'
   (try clear c10)
   obtain ⟨x6_2, x28_2, rfl, HA, HK2, HO_6, BK129, HB⟩ := hrel
   cases gk with
   | zero => exact absurd HA.out (by simp [spec_meGaps.l0])
   | succ k2 =>
    have H := HA.out
    clear HA
    simp only [spec_meGaps.l0] at H
    by_cases c11 : x28_2 < (l0.length : Int)
    ·rw [if_pos c11] at H
     have c11b0 : decide (x28_2 < (l0.length : Int)) = true := decide_eq_true c11
     clear c11
     by_cases c12 : 0 ≤ x28_2
     ·rw [if_pos c12] at H
      have c12b0 : decide (0 ≤ x28_2) = true := decide_eq_true c12
      clear c12
      by_cases c13 : x28_2 < (l0.length : Int)
      ·rw [if_pos c13] at H
       have c13b0 : decide (x28_2 < (l0.length : Int)) = true := decide_eq_true c13
       clear c13
       replace H := Option.bind_eq_some_iff.mp H
       obtain ⟨t134, A140, H⟩ := H
       try dsimp only at H
       have A14 := Am A140
       clear A140
       by_cases c15 : t134 = true
       ·subst c15
        have H1 : ((spec_meAt.f k2 ((rd_T30 l0 x28_2).f0.f0) ((rd_T30 l0 x28_2).f0.f1) ((rd_T30 l0 x28_2).f1) a1_0 a1_1).bind fun bt135 => (if bt135.2.2 = true then (spec_meGaps.l1 k2 x6_2 0 l0 (l0.length : Int) x28_2 a1_0 a1_1 bt135.1 bt135.2.1) else (some (([] : List (S26)), false)))) = some (r1, r2) := by rw [if_pos rfl] at H; exact H
        clear H
        have H := H1
        clear H1
        replace H := Option.bind_eq_some_iff.mp H
        obtain ⟨⟨t135, t136, t137⟩, A160, H⟩ := H
        try dsimp only at H
        have A16 := Am A160
        clear A160
        by_cases c17 : t137 = true
        ·subst c17
         have H1 : (spec_meGaps.l1 k2 x6_2 0 l0 (l0.length : Int) x28_2 a1_0 a1_1 t135 t136) = some (r1, r2) := by rw [if_pos rfl] at H; exact H
         clear H
         have H := H1
         clear H1
         have H' := Am H
         clear H
         have p132 : 0 ≤ (x28_2 : Int) := of_decide_eq_true (by first | (with_reducible assumption) | assumption)
         have q132 : x28_2 < (l0.length : Int) := of_decide_eq_true (by first | (with_reducible assumption) | assumption)
         obtain ⟨ad132, e132, hx132_0, hx132_1, hx132_2⟩ := at_T30 HR0.out x28_2 p132 q132
         cases e132
         replace hx132_0 := (HB.out.cell (World.block_lt_of_cell? w _ hx132_0)).trans hx132_0
         replace hx132_1 := (HB.out.cell (World.block_lt_of_cell? w _ hx132_1)).trans hx132_1
         replace hx132_2 := (HB.out.cell (World.block_lt_of_cell? w _ hx132_2)).trans hx132_2
         replace p132 := eq_true p132
         replace q132 := eq_true q132
         go_wp2_with (first | ((with_reducible refine gate_dst (N := 8) rfl ?_); refine box_event ?hg (N := 8) ?hd (cs := #[.int .i64 0, .int .i64 0, .int .i64 0]) (t := 30) ?hr ?_; (case hd => rfl); (case hg => rfl); (case hr => first | (go_simp; done) | (go_simp; rfl)); intro gb133 hg w18 hbox hb; have n0_ := Am (Kd.R_below (by (with_reducible repeat (first | apply Kd.R_alloc | apply Kd.R_drewN | apply Kd.R_drew)); exact HO_6.out) hb); have hp0 := hpA BK129.out hb (fun _ _ h_ => by (with_reducible repeat (first | refine kN ?_ _ | refine kD ?_ | refine kA ?_ _)); exact h_); have hv := hvK (w := w) hb (by repeat (first | (with_reducible first | exact HB.out | apply bA | apply bN | apply bD | refine bX ?_ (by assumption)) | exact HB.out)); have n2_ := Am (bT hv hb); have n3_ := Am (hbox); have GW133 := kG hg hv; have GE133 := kG hg hv; have hp1 := hpK BK129.out hb (fun _ _ h_ => by (with_reducible repeat (first | refine kN ?_ _ | refine kD ?_ | refine kA ?_ _)); exact h_); have NB129_133 := kX hg (hp1 BK129.out); have NB133_129 := kY hg (hp1 BK129.out); clear HO_6; clear HB; have HO_6 := n0_; replace BK129 := hp0 BK129; have HB := n2_; have BK133 := n3_; clear n0_ n2_ n3_ hp0 hp1 hv; clear hb hbox hg; have hnb19 := NB133_129.out; have hnc19 := NB129_133.out; have hcz20_0 := c30 BK133.out; have hcz20_1 := c31 BK133.out; have hcz20_2 := c32 BK133.out; have hfz20_0 := kF BK133.out 0; have hfz20_1 := kF BK133.out 1; have hfz20_2 := kF BK133.out 2) | ((with_reducible refine gate_callee (f := 63) rfl ?_); refine goesL_ (some 33) rfl rfl Try.func63 (by kernel_rfl) rfl #[.agg #[.int .i64 ((rd_T30 l0 x28_2).f0.f0), .int .i64 ((rd_T30 l0 x28_2).f0.f1), .int .i64 ((rd_T30 l0 x28_2).f1)]] rfl (by (try simp only [List.map_toArray, List.map_cons, List.map_nil]); first | done | rfl | (simp only [List.length_drop, List.length_take]; rfl)) ?_; (with_reducible refine (spec_meGood.calls k2 ((rd_T30 l0 x28_2).f0.f0) ((rd_T30 l0 x28_2).f0.f1) ((rd_T30 l0 x28_2).f1) true _ A14.out).mono ?_); rintro e w21 ⟨rfl, hb⟩; refine ⟨_, rfl, ?_⟩; have n0_ := Am (Kd.R_below (by (with_reducible repeat (first | apply Kd.R_alloc | apply Kd.R_drewN | apply Kd.R_drew)); exact (Kd.R_mono (Kd.R_far (p := ⟨gb133, 2, none⟩) (Kd.R_far (p := ⟨gb133, 1, none⟩) (Kd.R_far (p := ⟨gb133, 0, none⟩) (Kd.R_types HO_6.out BK133.out (by decide)) (fun _ hk => hk.2) (.int .i64 ((rd_T30 l0 x28_2).f0.f0))) (fun _ hk => hk.2) (.int .i64 ((rd_T30 l0 x28_2).f0.f1))) (fun _ hk => hk.2) (.int .i64 ((rd_T30 l0 x28_2).f1))) (fun _ h_ => h_.1))) hb); have hp0 := hpB gb133 BK129.out hb (fun _ _ q_ h_ => by (with_reducible repeat (first | refine kN ?_ _ | refine kD ?_ | refine kA ?_ _ | refine kZ ?_ q_ _)); exact h_); have n2_ := Am (kB (g := gb133) (o := .cells #[.int .i64 ((rd_T30 l0 x28_2).f0.f0), .int .i64 ((rd_T30 l0 x28_2).f0.f1), .int .i64 ((rd_T30 l0 x28_2).f1)] 30 (0, 0)) (by (with_reducible repeat (first | refine kN ?_ _ | refine kD ?_ | refine kA ?_ _)); refine kP (cs := #[.int .i64 ((rd_T30 l0 x28_2).f0.f0), .int .i64 ((rd_T30 l0 x28_2).f0.f1), .int .i64 0]) ?_ 2 _ rfl; (with_reducible repeat (first | refine kN ?_ _ | refine kD ?_ | refine kA ?_ _)); refine kP (cs := #[.int .i64 ((rd_T30 l0 x28_2).f0.f0), .int .i64 0, .int .i64 0]) ?_ 1 _ rfl; (with_reducible repeat (first | refine kN ?_ _ | refine kD ?_ | refine kA ?_ _)); refine kP (cs := #[.int .i64 0, .int .i64 0, .int .i64 0]) ?_ 0 _ rfl; (with_reducible repeat (first | refine kN ?_ _ | refine kD ?_ | refine kA ?_ _)); exact BK133.out) hb); have hv := hvK (w := w) hb (by repeat (first | (with_reducible first | exact HB.out | apply bA | apply bN | apply bD | refine bX ?_ (by assumption)) | exact HB.out)); have n3_ := Am (bT hv hb); clear HO_6; clear BK133; clear HB; have HO_6 := n0_; replace BK129 := hp0 NB129_133 BK129; have BK133 := n2_; have HB := n3_; clear n0_ n2_ n3_ hp0 hv; (try clear hb); (try clear hk); have hcz22_0 := c30 BK133.out; have hcz22_1 := c31 BK133.out; have hcz22_2 := c32 BK133.out; have hfz22_0 := kF BK133.out 0; have hfz22_1 := kF BK133.out 1; have hfz22_2 := kF BK133.out 2; have hcz23_0 := c20 BK129.out; have hcz23_1 := c21 BK129.out; have hfz23_0 := kF BK129.out 0; have hfz23_1 := kF BK129.out 1) | ((with_reducible refine gate_callee (f := 64) rfl ?_); refine goesL_ (some 38) rfl rfl Try.func64 (by kernel_rfl) rfl #[.agg #[.int .i64 ((rd_T30 l0 x28_2).f0.f0), .int .i64 ((rd_T30 l0 x28_2).f0.f1), .int .i64 ((rd_T30 l0 x28_2).f1)], .agg #[.int .i64 a1_0, .int .i64 a1_1]] rfl (by (try simp only [List.map_toArray, List.map_cons, List.map_nil]); first | done | rfl | (simp only [List.length_drop, List.length_take]; rfl)) ?_; (with_reducible refine (spec_meAt.calls k2 ((rd_T30 l0 x28_2).f0.f0) ((rd_T30 l0 x28_2).f0.f1) ((rd_T30 l0 x28_2).f1) a1_0 a1_1 t135 t136 true _ A16.out).mono ?_); rintro e w24 ⟨rfl, hb⟩; refine ⟨_, rfl, ?_⟩; have n0_ := Am (Kd.R_below (by (with_reducible repeat (first | apply Kd.R_alloc | apply Kd.R_drewN | apply Kd.R_drew)); exact HO_6.out) hb); have hp0 := hpA BK129.out hb (fun _ _ h_ => by (with_reducible repeat (first | refine kN ?_ _ | refine kD ?_ | refine kA ?_ _)); exact h_); have hv := hvK (w := w) hb (by repeat (first | (with_reducible first | exact HB.out | apply bA | apply bN | apply bD | refine bX ?_ (by assumption)) | exact HB.out)); have n3_ := Am (bT hv hb); clear HO_6; clear HB; have HO_6 := n0_; replace BK129 := hp0 BK129; replace BK133 := hp0 BK133; have HB := n3_; clear n0_ n3_ hp0 hv; (try clear hb)) | ((with_reducible refine gate_dst (N := 9) rfl ?_); refine box_event ?hg (N := 9) ?hd (cs := #[.int .i64 0, .int .i64 0]) (t := 26) ?hr ?_; (case hd => rfl); (case hg => rfl); (case hr => first | (go_simp; done) | (go_simp; rfl)); intro gb138 hg w25 hbox hb; have n0_ := Am (Kd.R_below (Kd.R_elderB (by (with_reducible repeat (first | apply Kd.R_alloc | apply Kd.R_drewN | apply Kd.R_drew)); exact HO_6.out) gb138 (Nat.le_of_eq hg.symm)) hb); have hp0 := hpA BK129.out hb (fun _ _ h_ => by (with_reducible repeat (first | refine kN ?_ _ | refine kD ?_ | refine kA ?_ _)); exact h_); have hv := hvK (w := w) hb (by repeat (first | (with_reducible first | exact HB.out | apply bA | apply bN | apply bD | refine bX ?_ (by assumption)) | exact HB.out)); have n3_ := Am (bT hv hb); have n4_ := Am (hbox); have GW138 := kG hg hv; have GE138 := kG hg hv; have hp1 := hpK BK129.out hb (fun _ _ h_ => by (with_reducible repeat (first | refine kN ?_ _ | refine kD ?_ | refine kA ?_ _)); exact h_); have NB129_138 := kX hg (hp1 BK129.out); have NB138_129 := kY hg (hp1 BK129.out); have NB133_138 := kX hg (hp1 BK133.out); have NB138_133 := kY hg (hp1 BK133.out); clear HO_6; clear HB; have HO_6 := n0_; replace BK129 := hp0 BK129; replace BK133 := hp0 BK133; have HB := n3_; have BK138 := n4_; clear n0_ n3_ n4_ hp0 hp1 hv; clear hb hbox hg; have hnb26 := NB138_129.out; have hnc26 := NB129_138.out; have hnb27 := NB138_133.out; have hnc27 := NB133_138.out; have hcz28_0 := c20 BK138.out; have hcz28_1 := c21 BK138.out; have hfz28_0 := kF BK138.out 0; have hfz28_1 := kF BK138.out 1))
         go_loopg [11] k2 (fun kq v11 w' => ∃ (x11_3 : Int), v11 = .int .i64 x11_3 ∧ Aside0 (spec_meGaps.l1 kq x6_2 x11_3 l0 (l0.length : Int) x28_2 a1_0 a1_1 t135 t136 = some (r1, r2)) ∧ Aside0 (kq ≤ k2) ∧ Aside0 (Kd.R k26 26 w' w.heap.size (fun k_ => k_ ≠ gb129 ∧ k_ ≠ gb138) u6 x6_2) ∧ Aside0 (w'.heap[gb129]? = some (.cells #[.int .i64 a1_0, .int .i64 a1_1] 26 (0, 0))) ∧ Aside0 (w'.heap[gb133]? = some (.cells #[.int .i64 ((rd_T30 l0 x28_2).f0.f0), .int .i64 ((rd_T30 l0 x28_2).f0.f1), .int .i64 ((rd_T30 l0 x28_2).f1)] 30 (0, 0))) ∧ Aside0 (w'.heap[gb138]? = some (.cells #[.int .i64 t135, .int .i64 t136] 26 (0, 0))) ∧ Aside0 (Below w.heap.size w w'))
         case atStart => exact ⟨(0), (by first | rfl | (simp; done) | (simp [*]; done)), H', ⟨Nat.le_refl _⟩, ⟨by (with_reducible repeat (first | apply Kd.R_alloc | apply Kd.R_drewN | apply Kd.R_drew)); exact Kd.R_mono (Kd.R_far (p := ⟨gb138, 1, none⟩) (Kd.R_far (p := ⟨gb138, 0, none⟩) (Kd.R_mono HO_6.out (fun k_ hk => (⟨hk, hk.2⟩ : _ ∧ k_ ≠ gb138))) (fun _ hk => hk.2) (.int .i64 t135)) (fun _ hk => hk.2) (.int .i64 t136)) (fun _ hk => ⟨hk.1.1, hk.1.2⟩)⟩, ⟨by (with_reducible repeat (first | refine kN ?_ _ | refine kD ?_ | refine kA ?_ _)); refine kR ?_ NB129_138.out _; (with_reducible repeat (first | refine kN ?_ _ | refine kD ?_ | refine kA ?_ _)); refine kR ?_ NB129_138.out _; (with_reducible repeat (first | refine kN ?_ _ | refine kD ?_ | refine kA ?_ _)); exact BK129.out⟩, ⟨by (with_reducible repeat (first | refine kN ?_ _ | refine kD ?_ | refine kA ?_ _)); refine kR ?_ NB133_138.out _; (with_reducible repeat (first | refine kN ?_ _ | refine kD ?_ | refine kA ?_ _)); refine kR ?_ NB133_138.out _; (with_reducible repeat (first | refine kN ?_ _ | refine kD ?_ | refine kA ?_ _)); exact BK133.out⟩, ⟨by (with_reducible repeat (first | refine kN ?_ _ | refine kD ?_ | refine kA ?_ _)); refine kP (cs := #[.int .i64 t135, .int .i64 0]) ?_ 1 _ rfl; (with_reducible repeat (first | refine kN ?_ _ | refine kD ?_ | refine kA ?_ _)); refine kP (cs := #[.int .i64 0, .int .i64 0]) ?_ 0 _ rfl; (with_reducible repeat (first | refine kN ?_ _ | refine kD ?_ | refine kA ?_ _)); exact BK138.out⟩, ⟨by repeat (first | (with_reducible first | exact HB.out | apply bA | apply bN | apply bD | refine bX ?_ (by assumption)) | exact HB.out)⟩⟩
         case round =>
          clear H'
          (try clear c10); (try clear c11); (try clear c11b0); (try clear c12); (try clear c12b0); (try clear c13); (try clear c13b0); (try clear c15); (try clear c17); (try clear hcz20_0); (try clear hcz20_1); (try clear hcz20_2); (try clear hcz22_0); (try clear hcz22_1); (try clear hcz22_2); (try clear hcz23_0); (try clear hcz23_1); (try clear hcz28_0); (try clear hcz28_1); (try clear hfz20_0); (try clear hfz20_1); (try clear hfz20_2); (try clear hfz22_0); (try clear hfz22_1); (try clear hfz22_2); (try clear hfz23_0); (try clear hfz23_1); (try clear hfz28_0); (try clear hfz28_1); (try clear hx132_0); (try clear hx132_1); (try clear hx132_2); (try clear p132); (try clear q132)
          obtain ⟨x11_3, rfl, HA, HK3, HO_6, BK129, BK133, BK138, HB⟩ := hrel
          cases gk with
          | zero => exact absurd HA.out (by simp [spec_meGaps.l1])
          | succ k3 =>
           have H := HA.out
           clear HA
           simp only [spec_meGaps.l1] at H
           by_cases c29 : x11_3 < (x6_2.length : Int)
           ·rw [if_pos c29] at H
            have c29b0 : decide (x11_3 < (x6_2.length : Int)) = true := decide_eq_true c29
            clear c29
            by_cases c30 : 0 ≤ x11_3
            ·rw [if_pos c30] at H
             have c30b0 : decide (0 ≤ x11_3) = true := decide_eq_true c30
             clear c30
             replace H := Option.bind_eq_some_iff.mp H
             obtain ⟨t140, A310, H⟩ := H
             try dsimp only at H
             have A31 := Am A310
             clear A310
             by_cases c32 : t140 ≤ 0
             ·rw [if_pos c32] at H
              have c32b0 : decide (t140 ≤ 0) = true := decide_eq_true c32
              clear c32
              have H' := Am H
              clear H
              try go_wp2
              have n0_ := Am (Kd.R_drew HO_6.out)
              have n1_ := Am (kD BK129.out)
              have n2_ := Am (kD BK133.out)
              have n3_ := Am (kD BK138.out)
              have n4_ := Am (bD HB.out)
              clear HO_6 BK129 BK133 BK138 HB
              have HO_6 := n0_; have BK129 := n1_; have BK133 := n2_; have BK138 := n3_; have HB := n4_
              clear n0_ n1_ n2_ n3_ n4_
              obtain ⟨Ao34, co34, eo34⟩ := Kd.R_slice HO_6.out
              (first | subst eo34 | (injection eo34 with f1_ f2_ f3_; have f4_ := f1_.symm; have f5_ := f3_.symm; clear f1_ f2_ f3_; subst f4_; subst f5_))
              have p139 : 0 ≤ (x11_3 : Int) := of_decide_eq_true (by first | (with_reducible assumption) | assumption)
              have q139 : x11_3 < (x6_2.length : Int) := of_decide_eq_true (by first | (with_reducible assumption) | assumption)
              obtain ⟨ad139, e139, hx139_0, hx139_1⟩ := at_T26 (Kd.R_reads' HO_6.out).2.2 x11_3 p139 q139
              cases e139
              replace p139 := eq_true p139
              replace q139 := eq_true q139
              refine start_ (n := 13) (S := fun w' => w'.cell? ⟨gb138, 0, none⟩ = some (.int .i64 t135) ∧ w'.cell? ⟨gb138, 1, none⟩ = some (.int .i64 t136) ∧ w'.cell? (ad139.add ((x11_3).toNat * 2)) = some (.int .i64 ((rd_T26 x6_2 x11_3).f0)) ∧ w'.cell? ⟨(ad139.add ((x11_3).toNat * 2)).block, (ad139.add ((x11_3).toNat * 2)).off + 1, none⟩ = some (.int .i64 ((rd_T26 x6_2 x11_3).f1))) (ds := []) (pT 13 0) (by kernel_rfl) rfl rfl ⟨c20 BK138.out, c21 BK138.out, hx139_0, hx139_1⟩ (fun hHeld => ?_); refine with_tabW spec_meGaps.tab13 spec_meGaps.bits13 (fun HT_ HW_ => ?_)
              generalize wr.drew = w33 at HO_6 BK129 BK133 BK138 HB hx139_0 hx139_1 hHeld ⊢
              iterate 10
               first
               | refine pI (v := ?_) (a' := ?_) rfl (any_of HT_.out (by kernel_rfl)) (fun _ _ _ h => h) (Or.inl ⟨by rfl, ?_⟩) ?_ ?_
                 rotate_left
                 ·intro w'
                  go_simp
                  with_reducible rfl
                 rotate_left
                 ·show Act.put _ (some _) _ = _
                  simp only [Act.put, List.setIfInBounds_toArray, List.set_cons_zero, List.set_cons_succ, i64_w, i32_w]
                  rfl
               | refine tI (v := ?_) (a' := ?_) rfl (take_ofW HT_.out HW_.out (by kernel_rfl)) (fun _ _ _ h => h) (Or.inl ⟨by rfl, ?_⟩) hHeld ?_ ?_
                 rotate_left
                 ·rintro w' ⟨s0, s1, s2, s3⟩
                  go_simp
                  with_reducible rfl
                 rotate_left
                 ·show Act.put _ (some _) _ = _
                  simp only [Act.put, List.setIfInBounds_toArray, List.set_cons_zero, List.set_cons_succ, i64_w, i32_w]
                  rfl
              refine one_ (i := 10) (N := some 53) (pT 13 11) rfl rfl (one_of HT_.out (by kernel_rfl)) (by decide) (fun K hK => ?_)
              refine goes_ Try.func58 (by kernel_rfl) rfl #[.agg #[.int .i64 ((rd_T26 x6_2 x11_3).f0), .int .i64 ((rd_T26 x6_2 x11_3).f1)], .agg #[.int .i64 t135, .int .i64 t136]] (by rfl) rfl rfl (by (try simp only [List.map_toArray, List.map_cons, List.map_nil]); first | done | rfl | (simp only [List.length_drop, List.length_take]; rfl)) ?_
              with_reducible refine (spec_diCompare.calls ((rd_T26 x6_2 x11_3).f0) ((rd_T26 x6_2 x11_3).f1) t135 t136 t140 _ A31.out).mono ?_
              rintro e w35 ⟨rfl, hb⟩
              have HS2_ := (hb.cell (World.block_lt_of_cell? _ _ (hHeld.2.2.1))).trans (hHeld.2.2.1)
              have HS3_ := (hb.cell (World.block_lt_of_cell? _ _ (hHeld.2.2.2))).trans (hHeld.2.2.2)
              refine ⟨_, rfl, ?_⟩
              have n0_ := Am (Kd.R_below (by (with_reducible repeat (first | apply Kd.R_alloc | apply Kd.R_drewN | apply Kd.R_drew)); exact HO_6.out) hb)
              have hp0 := hpA BK129.out hb (fun _ _ h_ => by (with_reducible repeat (first | refine kN ?_ _ | refine kD ?_ | refine kA ?_ _)); exact h_)
              have hv := hvK (w := w) hb (by repeat (first | (with_reducible first | exact HB.out | apply bA | apply bN | apply bD | refine bX ?_ (by assumption)) | exact HB.out))
              have n4_ := Am (bT hv hb)
              clear HO_6 HB
              have HO_6 := n0_
              replace BK129 := hp0 BK129; replace BK133 := hp0 BK133; replace BK138 := hp0 BK138
              have HB := n4_
              clear n0_ n4_ hp0 hv
              (try clear hb)
              refine hK.out _ _ ⟨c20 BK138.out, c21 BK138.out, HS2_, HS3_⟩ (fun hHeld => ?_)
              clear hK K
              refine norm_ (a' := ?_) ?_ ?_
              rotate_left
              ·show Act.put _ (some 53) _ = _
               simp only [Act.put, List.setIfInBounds_toArray, List.set_cons_zero, List.set_cons_succ, i64_w, i32_w]
               rfl
              iterate 2
               refine pI (v := ?_) (a' := ?_) rfl (any_of HT_.out (by kernel_rfl)) (fun _ _ _ h => h) (Or.inl ⟨by rfl, ?_⟩) ?_ ?_
               rotate_left
               ·intro w'
                go_simp
                with_reducible rfl
               rotate_left
               ·show Act.put _ (some _) _ = _
                simp only [Act.put, List.setIfInBounds_toArray, List.set_cons_zero, List.set_cons_succ, i64_w, i32_w]
                rfl
              refine done_ (done_of HT_.out (by kernel_rfl)) ?_
              try go_wp2
              go_roundg k3
              case measure => have := HJ2.out; have := HK2.out; have := HK3.out; omega
              case rel =>
               refine ⟨(wrap64 (x11_3 + 1)), (by first | rfl | (simp; done) | (simp [*]; done)), H', ⟨by have := HJ2.out; have := HK2.out; have := HK3.out; omega⟩, ⟨by (with_reducible repeat (first | apply Kd.R_alloc | apply Kd.R_drewN | apply Kd.R_drew)); exact HO_6.out⟩, ⟨?_⟩, ⟨?_⟩, ⟨?_⟩, ⟨by repeat (first | (with_reducible first | exact HB.out | apply bA | apply bN | apply bD | refine bX ?_ (by assumption)) | exact HB.out)⟩⟩
               all_goals ((with_reducible repeat (first | refine kN ?_ _ | refine kD ?_ | refine kA ?_ _)); exact Aside0.out (by assumption))
             rw [if_neg c32] at H
             have c32b0 : decide (t140 ≤ 0) = false := decide_eq_false c32
             clear c32
             obtain ⟨y141, hy141⟩ : ∃ y_ : List (S26), y_ = (([] : List (S26))) := ⟨_, rfl⟩
             replace H : (if x11_3 ≤ (x6_2.length : Int) then ((some (x6_2.take (x11_3 : Int).toNat : List (S26))).bind fun y144 => (if y141.length + y144.length < 8796093022208 then ((some (y141 ++ y144 : List (S26))).bind fun y148 => ((some (([(⟨t135, t136⟩ : S26)] : List (S26)) : List (S26))).bind fun y151 => (if y148.length + y151.length < 8796093022208 then ((some (y148 ++ y151 : List (S26))).bind fun y154 => ((some (x6_2.drop (x11_3 : Int).toNat : List (S26))).bind fun y157 => (if y154.length + y157.length < 8796093022208 then (spec_meGaps.l0 k3 (y154 ++ y157) l0 (l0.length : Int) (wrap64 (x28_2 + 1)) a1_0 a1_1) else (none)))) else (none)))) else (none))) else (none)) = some (r1, r2) := by first | (rw [hy141]; with_reducible exact H) | (have H2_ := (Option.bind_some _ _).symm.trans H; rw [hy141]; with_reducible exact H2_) | (have H2_ := (Option.bind_some _ _).symm.trans H; with_reducible exact H2_) | with_reducible exact H | (rw [hy141]; exact H) | exact H
             have Ny141 := Am hy141
             clear hy141
             have c36b0 := eq_true (of_decide_eq_true (by first | (with_reducible assumption) | assumption) : 0 ≤ x11_3)
             by_cases c37 : x11_3 ≤ (x6_2.length : Int)
             ·rw [if_pos c37] at H
              have c37b0 := eq_true c37
              have c37b1 : decide (x11_3 ≤ (x6_2.length : Int)) = true := decide_eq_true c37
              clear c37
              obtain ⟨y144, hy144⟩ : ∃ y_ : List (S26), y_ = (x6_2.take (x11_3 : Int).toNat) := ⟨_, rfl⟩
              replace H : (if y141.length + y144.length < 8796093022208 then ((some (y141 ++ y144 : List (S26))).bind fun y148 => ((some (([(⟨t135, t136⟩ : S26)] : List (S26)) : List (S26))).bind fun y151 => (if y148.length + y151.length < 8796093022208 then ((some (y148 ++ y151 : List (S26))).bind fun y154 => ((some (x6_2.drop (x11_3 : Int).toNat : List (S26))).bind fun y157 => (if y154.length + y157.length < 8796093022208 then (spec_meGaps.l0 k3 (y154 ++ y157) l0 (l0.length : Int) (wrap64 (x28_2 + 1)) a1_0 a1_1) else (none)))) else (none)))) else (none)) = some (r1, r2) := by first | (rw [hy144]; with_reducible exact H) | (have H2_ := (Option.bind_some _ _).symm.trans H; rw [hy144]; with_reducible exact H2_) | (have H2_ := (Option.bind_some _ _).symm.trans H; with_reducible exact H2_) | with_reducible exact H | (rw [hy144]; exact H) | exact H
              have Ny144 := Am hy144
              clear hy144
              by_cases c38 : y141.length + y144.length < 8796093022208
              ·rw [if_pos c38] at H
               have LMc38 := Am c38
               clear c38
               obtain ⟨y148, hy148⟩ : ∃ y_ : List (S26), y_ = (y141 ++ y144) := ⟨_, rfl⟩
               replace H : ((some (([(⟨t135, t136⟩ : S26)] : List (S26)) : List (S26))).bind fun y151 => (if y148.length + y151.length < 8796093022208 then ((some (y148 ++ y151 : List (S26))).bind fun y154 => ((some (x6_2.drop (x11_3 : Int).toNat : List (S26))).bind fun y157 => (if y154.length + y157.length < 8796093022208 then (spec_meGaps.l0 k3 (y154 ++ y157) l0 (l0.length : Int) (wrap64 (x28_2 + 1)) a1_0 a1_1) else (none)))) else (none))) = some (r1, r2) := by first | (rw [hy148]; with_reducible exact H) | (have H2_ := (Option.bind_some _ _).symm.trans H; rw [hy148]; with_reducible exact H2_) | (have H2_ := (Option.bind_some _ _).symm.trans H; with_reducible exact H2_) | with_reducible exact H | (rw [hy148]; exact H) | exact H
               have Ny148 := Am hy148
               clear hy148
               obtain ⟨y151, hy151⟩ : ∃ y_ : List (S26), y_ = (([(⟨t135, t136⟩ : S26)] : List (S26))) := ⟨_, rfl⟩
               replace H : (if y148.length + y151.length < 8796093022208 then ((some (y148 ++ y151 : List (S26))).bind fun y154 => ((some (x6_2.drop (x11_3 : Int).toNat : List (S26))).bind fun y157 => (if y154.length + y157.length < 8796093022208 then (spec_meGaps.l0 k3 (y154 ++ y157) l0 (l0.length : Int) (wrap64 (x28_2 + 1)) a1_0 a1_1) else (none)))) else (none)) = some (r1, r2) := by first | (rw [hy151]; with_reducible exact H) | (have H2_ := (Option.bind_some _ _).symm.trans H; rw [hy151]; with_reducible exact H2_) | (have H2_ := (Option.bind_some _ _).symm.trans H; with_reducible exact H2_) | with_reducible exact H | (rw [hy151]; exact H) | exact H
               have Ny151 := Am hy151
               clear hy151
               by_cases c39 : y148.length + y151.length < 8796093022208
               ·rw [if_pos c39] at H
                have LMc39 := Am c39
                clear c39
                obtain ⟨y154, hy154⟩ : ∃ y_ : List (S26), y_ = (y148 ++ y151) := ⟨_, rfl⟩
                replace H : ((some (x6_2.drop (x11_3 : Int).toNat : List (S26))).bind fun y157 => (if y154.length + y157.length < 8796093022208 then (spec_meGaps.l0 k3 (y154 ++ y157) l0 (l0.length : Int) (wrap64 (x28_2 + 1)) a1_0 a1_1) else (none))) = some (r1, r2) := by first | (rw [hy154]; with_reducible exact H) | (have H2_ := (Option.bind_some _ _).symm.trans H; rw [hy154]; with_reducible exact H2_) | (have H2_ := (Option.bind_some _ _).symm.trans H; with_reducible exact H2_) | with_reducible exact H | (rw [hy154]; exact H) | exact H
                have Ny154 := Am hy154
                clear hy154
                have c40b0 := eq_true (of_decide_eq_true (by first | (with_reducible assumption) | assumption) : 0 ≤ x11_3)
                have c41b0 := eq_true (of_decide_eq_true (by first | (with_reducible assumption) | assumption) : x11_3 ≤ (x6_2.length : Int))
                obtain ⟨y157, hy157⟩ : ∃ y_ : List (S26), y_ = (x6_2.drop (x11_3 : Int).toNat) := ⟨_, rfl⟩
                replace H : (if y154.length + y157.length < 8796093022208 then (spec_meGaps.l0 k3 (y154 ++ y157) l0 (l0.length : Int) (wrap64 (x28_2 + 1)) a1_0 a1_1) else (none)) = some (r1, r2) := by first | (rw [hy157]; with_reducible exact H) | (have H2_ := (Option.bind_some _ _).symm.trans H; rw [hy157]; with_reducible exact H2_) | (have H2_ := (Option.bind_some _ _).symm.trans H; with_reducible exact H2_) | with_reducible exact H | (rw [hy157]; exact H) | exact H
                have Ny157 := Am hy157
                clear hy157
                by_cases c42 : y154.length + y157.length < 8796093022208
                ·rw [if_pos c42] at H
                 have LMc42 := Am c42
                 clear c42
                 obtain ⟨y161, hy161⟩ : ∃ y_ : List (S26), y_ = (y154 ++ y157) := ⟨_, rfl⟩
                 replace H : (spec_meGaps.l0 k3 y161 l0 (l0.length : Int) (wrap64 (x28_2 + 1)) a1_0 a1_1) = some (r1, r2) := by first | (rw [hy161]; with_reducible exact H) | (have H2_ := (Option.bind_some _ _).symm.trans H; rw [hy161]; with_reducible exact H2_) | (have H2_ := (Option.bind_some _ _).symm.trans H; with_reducible exact H2_) | with_reducible exact H | (rw [hy161]; exact H) | exact H
                 have Ny161 := Am hy161
                 clear hy161
                 have H' := Am H
                 clear H
                 try go_wp2
                 have n0_ := Am (Kd.R_drew HO_6.out)
                 have n1_ := Am (kD BK129.out)
                 have n2_ := Am (kD BK133.out)
                 have n3_ := Am (kD BK138.out)
                 have n4_ := Am (bD HB.out)
                 clear HO_6 BK129 BK133 BK138 HB
                 have HO_6 := n0_; have BK129 := n1_; have BK133 := n2_; have BK138 := n3_; have HB := n4_
                 clear n0_ n1_ n2_ n3_ n4_
                 obtain ⟨Ao44, co44, eo44⟩ := Kd.R_slice HO_6.out
                 (first | subst eo44 | (injection eo44 with f1_ f2_ f3_; have f4_ := f1_.symm; have f5_ := f3_.symm; clear f1_ f2_ f3_; subst f4_; subst f5_))
                 have p139 : 0 ≤ (x11_3 : Int) := of_decide_eq_true (by first | (with_reducible assumption) | assumption)
                 have q139 : x11_3 < (x6_2.length : Int) := of_decide_eq_true (by first | (with_reducible assumption) | assumption)
                 obtain ⟨ad139, e139, hx139_0, hx139_1⟩ := at_T26 (Kd.R_reads' HO_6.out).2.2 x11_3 p139 q139
                 cases e139
                 replace p139 := eq_true p139
                 replace q139 := eq_true q139
                 refine start_ (n := 13) (S := fun w' => w'.cell? ⟨gb138, 0, none⟩ = some (.int .i64 t135) ∧ w'.cell? ⟨gb138, 1, none⟩ = some (.int .i64 t136) ∧ w'.cell? (ad139.add ((x11_3).toNat * 2)) = some (.int .i64 ((rd_T26 x6_2 x11_3).f0)) ∧ w'.cell? ⟨(ad139.add ((x11_3).toNat * 2)).block, (ad139.add ((x11_3).toNat * 2)).off + 1, none⟩ = some (.int .i64 ((rd_T26 x6_2 x11_3).f1))) (ds := []) (pT 13 0) (by kernel_rfl) rfl rfl ⟨c20 BK138.out, c21 BK138.out, hx139_0, hx139_1⟩ (fun hHeld => ?_); refine with_tabW spec_meGaps.tab13 spec_meGaps.bits13 (fun HT_ HW_ => ?_)
                 generalize wr.drew = w43 at HO_6 BK129 BK133 BK138 HB hx139_0 hx139_1 hHeld ⊢
                 iterate 10
                  first
                  | refine pI (v := ?_) (a' := ?_) rfl (any_of HT_.out (by kernel_rfl)) (fun _ _ _ h => h) (Or.inl ⟨by rfl, ?_⟩) ?_ ?_
                    rotate_left
                    ·intro w'
                     go_simp
                     with_reducible rfl
                    rotate_left
                    ·show Act.put _ (some _) _ = _
                     simp only [Act.put, List.setIfInBounds_toArray, List.set_cons_zero, List.set_cons_succ, i64_w, i32_w]
                     rfl
                  | refine tI (v := ?_) (a' := ?_) rfl (take_ofW HT_.out HW_.out (by kernel_rfl)) (fun _ _ _ h => h) (Or.inl ⟨by rfl, ?_⟩) hHeld ?_ ?_
                    rotate_left
                    ·rintro w' ⟨s0, s1, s2, s3⟩
                     go_simp
                     with_reducible rfl
                    rotate_left
                    ·show Act.put _ (some _) _ = _
                     simp only [Act.put, List.setIfInBounds_toArray, List.set_cons_zero, List.set_cons_succ, i64_w, i32_w]
                     rfl
                 refine one_ (i := 10) (N := some 53) (pT 13 11) rfl rfl (one_of HT_.out (by kernel_rfl)) (by decide) (fun K hK => ?_)
                 refine goes_ Try.func58 (by kernel_rfl) rfl #[.agg #[.int .i64 ((rd_T26 x6_2 x11_3).f0), .int .i64 ((rd_T26 x6_2 x11_3).f1)], .agg #[.int .i64 t135, .int .i64 t136]] (by rfl) rfl rfl (by (try simp only [List.map_toArray, List.map_cons, List.map_nil]); first | done | rfl | (simp only [List.length_drop, List.length_take]; rfl)) ?_
                 with_reducible refine (spec_diCompare.calls ((rd_T26 x6_2 x11_3).f0) ((rd_T26 x6_2 x11_3).f1) t135 t136 t140 _ A31.out).mono ?_
                 rintro e w45 ⟨rfl, hb⟩
                 have HS2_ := (hb.cell (World.block_lt_of_cell? _ _ (hHeld.2.2.1))).trans (hHeld.2.2.1)
                 have HS3_ := (hb.cell (World.block_lt_of_cell? _ _ (hHeld.2.2.2))).trans (hHeld.2.2.2)
                 refine ⟨_, rfl, ?_⟩
                 have n0_ := Am (Kd.R_below (by (with_reducible repeat (first | apply Kd.R_alloc | apply Kd.R_drewN | apply Kd.R_drew)); exact HO_6.out) hb)
                 have hp0 := hpA BK129.out hb (fun _ _ h_ => by (with_reducible repeat (first | refine kN ?_ _ | refine kD ?_ | refine kA ?_ _)); exact h_)
                 have hv := hvK (w := w) hb (by repeat (first | (with_reducible first | exact HB.out | apply bA | apply bN | apply bD | refine bX ?_ (by assumption)) | exact HB.out))
                 have n4_ := Am (bT hv hb)
                 clear HO_6 HB
                 have HO_6 := n0_
                 replace BK129 := hp0 BK129; replace BK133 := hp0 BK133; replace BK138 := hp0 BK138
                 have HB := n4_
                 clear n0_ n4_ hp0 hv
                 (try clear hb)
                 refine hK.out _ _ ⟨c20 BK138.out, c21 BK138.out, HS2_, HS3_⟩ (fun hHeld => ?_)
                 clear hK K
                 refine norm_ (a' := ?_) ?_ ?_
                 rotate_left
                 ·show Act.put _ (some 53) _ = _
                  simp only [Act.put, List.setIfInBounds_toArray, List.set_cons_zero, List.set_cons_succ, i64_w, i32_w]
                  rfl
                 iterate 2
                  refine pI (v := ?_) (a' := ?_) rfl (any_of HT_.out (by kernel_rfl)) (fun _ _ _ h => h) (Or.inl ⟨by rfl, ?_⟩) ?_ ?_
                  rotate_left
                  ·intro w'
                   go_simp
                   with_reducible rfl
                  rotate_left
                  ·show Act.put _ (some _) _ = _
                   simp only [Act.put, List.setIfInBounds_toArray, List.set_cons_zero, List.set_cons_succ, i64_w, i32_w]
                   rfl
                 refine done_ (done_of HT_.out (by kernel_rfl)) ?_
                 try go_wp2
                 have n0_ := Am (Kd.R_drew HO_6.out)
                 have n1_ := Am (kD BK129.out)
                 have n2_ := Am (kD BK133.out)
                 have n3_ := Am (kD BK138.out)
                 have n4_ := Am (bD HB.out)
                 clear HO_6 BK129 BK133 BK138 HB
                 have HO_6 := n0_; have BK129 := n1_; have BK133 := n2_; have BK138 := n3_; have HB := n4_
                 clear n0_ n1_ n2_ n3_ n4_
                 have q47 : (x11_3 : Int) ≤ ((x6_2.length : Int) : Int) := of_decide_eq_true (by first | (with_reducible assumption) | assumption)
                 obtain ⟨i047, hi047, _, hsz47, _⟩ := info_parts info26
                 have hroom47 : x6_2.length ≤ co44 := (Kd.R_reads' HO_6.out).2.1
                 have hC47 : Kd.C k26 _ (some ad139) x6_2.length x6_2 := (Kd.R_reads' HO_6.out).2.2
                 have hcut47 := cut_to (P := Try.prog) 35 26 .i64 Try.underlying35 hi047 (some ad139) x6_2.length co44 x11_3 (of_decide_eq_true (by first | (with_reducible assumption) | assumption)) q47 hroom47
                 have hr47 := Kd.C_take (m := (x11_3 : Int).toNat) hC47 (by omega)
                 have hy47 : y144.length = (x11_3 : Int).toNat := (by rw [Ny144.out, List.length_take]; omega)
                 rw [← Ny144.out] at hr47
                 rw [← hy47] at hcut47
                 have HR147 := Am hr47
                 have HC147 := Am (show y144.length ≤ co44 from by omega)
                 clear hr47 hC47 hroom47 hi047 hsz47
                 have KY47 := Am hy47
                 clear hy47
                 have KL47 := Am (show (x11_3 : Int).toNat ≤ x6_2.length from by omega)
                 replace q47 := eq_true q47
                 refine start_ (n := 9) (S := fun w' => w'.cell? ⟨gb138, 0, none⟩ = some (.int .i64 t135) ∧ w'.cell? ⟨gb138, 1, none⟩ = some (.int .i64 t136)) (ds := []) (pT 9 0) (by kernel_rfl) rfl rfl ⟨c20 BK138.out, c21 BK138.out⟩ (fun hHeld => ?_); refine with_tabW spec_meGaps.tab15 spec_meGaps.bits15 (fun HT_ HW_ => ?_)
                 generalize w45.drew = w46 at HO_6 BK129 BK133 BK138 HB HR147 hHeld ⊢
                 refine pure_ (i := 1) (N := some 59) (v := ?_) (a' := ?_) #[false, true, false, false, false, false, false, false, false] rfl rfl (any_of HT_.out (by kernel_rfl)) (fun _ _ _ h => h) (Or.inl ⟨by rfl, ?_⟩) ?_ ?_
                 rotate_left
                 ·intro w'
                  go_simp
                  with_reducible rfl
                 rotate_left
                 ·simp only [Act.put, List.setIfInBounds_toArray, List.set_cons_zero, List.set_cons_succ, i64_w, i32_w]
                  rfl
                 refine pure_ (i := 2) (N := some 60) (v := ?_) (a' := ?_) #[false, true, true, false, false, false, false, false, false] rfl rfl (any_of HT_.out (by kernel_rfl)) (fun _ _ _ h => h) (Or.inl ⟨by rfl, ?_⟩) ?_ ?_
                 rotate_left
                 ·intro w'
                  go_simp
                  with_reducible rfl
                 rotate_left
                 ·simp only [Act.put, List.setIfInBounds_toArray, List.set_cons_zero, List.set_cons_succ, i64_w, i32_w]
                  rfl
                 refine pure_ (i := 3) (N := some 61) (v := ?_) (a' := ?_) #[false, true, true, true, false, false, false, false, false] rfl rfl (any_of HT_.out (by kernel_rfl)) (fun _ _ _ h => h) (Or.inl ⟨by rfl, ?_⟩) ?_ ?_
                 rotate_left
                 ·intro w'
                  go_simp
                  with_reducible rfl
                 rotate_left
                 ·simp only [Act.put, List.setIfInBounds_toArray, List.set_cons_zero, List.set_cons_succ, i64_w, i32_w]
                  rfl
                 refine take_ (i := 5) (N := some 63) (v := ?_) (a' := ?_) #[false, true, true, true, false, true, false, false, false] rfl rfl (take_ofW HT_.out HW_.out (by kernel_rfl)) (fun _ _ _ h => h) (Or.inl ⟨by rfl, ?_⟩) hHeld ?_ ?_
                 rotate_left
                 ·rintro w' ⟨s0, s1⟩
                  go_simp
                  with_reducible rfl
                 rotate_left
                 ·simp only [Act.put, List.setIfInBounds_toArray, List.set_cons_zero, List.set_cons_succ, i64_w, i32_w]
                  rfl
                 refine join_ (σ := Value × Value × Value) 2 (pT 9 7) (fun s_ => [(58, s_.1), (62, s_.2.1), (64, s_.2.2)]) (fun s_ w' => (w'.cell? ⟨gb138, 0, none⟩ = some (.int .i64 t135) ∧ w'.cell? ⟨gb138, 1, none⟩ = some (.int .i64 t136)) ∧ (Kd.R k26 26 w' w.heap.size (fun k_ => some k_ ≠ (s_.2.2 : Value).ownBlock ∧ some k_ ≠ (.slice (some ad139) x6_2.length co44 : Value).ownBlock ∧ k_ ≠ gb129 ∧ k_ ≠ gb138) s_.2.1 y148) ∧ (Kd.R k26 26 w' w.heap.size (fun k_ => some k_ ≠ (s_.2.1 : Value).ownBlock ∧ some k_ ≠ (.slice (some ad139) x6_2.length co44 : Value).ownBlock ∧ k_ ≠ gb129 ∧ k_ ≠ gb138) s_.2.2 y151) ∧ (Kd.R k26 26 w' w.heap.size (fun k_ => some k_ ≠ (s_.2.1 : Value).ownBlock ∧ some k_ ≠ (s_.2.2 : Value).ownBlock ∧ k_ ≠ gb129 ∧ k_ ≠ gb138) (.slice (some ad139) x6_2.length co44) x6_2) ∧ (w'.heap[gb129]? = some (.cells #[.int .i64 a1_0, .int .i64 a1_1] 26 (0, 0))) ∧ (w'.heap[gb133]? = some (.cells #[.int .i64 ((rd_T30 l0 x28_2).f0.f0), .int .i64 ((rd_T30 l0 x28_2).f0.f1), .int .i64 ((rd_T30 l0 x28_2).f1)] 30 (0, 0))) ∧ (w'.heap[gb138]? = some (.cells #[.int .i64 t135, .int .i64 t136] 26 (0, 0))) ∧ (Below w.heap.size w w')) ?_ ?_
                 rotate_left
                 ·intro hCont
                  refine two_ (i := 0) (j := 6) (Ni := some 58) (Nj := some 64) #[true, true, true, true, false, true, false, false, false] #[false, true, true, true, false, true, true, false, false] rfl rfl rfl rfl (two_of HT_.out (by kernel_rfl)) (by decide) (by decide) (fun K hK => ?_) (fun K hK => ?_)
                  ·skip
                   refine Kd.R_lit_step k26 _ 26 ?hg (N := 58) ?hd (xs := ([] : List (S26))) (inner := []) (ok := fun _ => True) (okp := fun _ => True) ?hr ?hp (fun _ hk => hk) trivial (Below.refl _ _) (Nat.le_refl _) (by simp) ?_; (case hd => rfl); (case hg => rfl); (case hr => first | (go_simp; done) | (go_simp; rfl)); (case hp => exact (Reps.none _ _))
                   intro v142 w48 ho49 hb hg_ hnew_
                   clear hg_ hnew_
                   (first | rw [← Ny141.out] at ho49 | (simp only [Int.reduceToNat] at ho49; rw [← Ny141.out] at ho49))
                   have n0_ := Am (Kd.R_elder' (by (with_reducible repeat (first | apply Kd.R_alloc | apply Kd.R_drewN | apply Kd.R_drew)); exact HO_6.out) (Kd.R_base ho49) hb)
                   have n1_ := Am (Kd.R_lower (Kd.R_newB (Kd.R_newB (Kd.R_new' ho49 (Kd.R_lt (by (with_reducible repeat (first | apply Kd.R_alloc | apply Kd.R_drewN | apply Kd.R_drew)); exact HO_6.out))) (g := gb129) (o := .cells #[.int .i64 a1_0, .int .i64 a1_1] 26 (0, 0)) (by (with_reducible repeat (first | refine kN ?_ _ | refine kD ?_ | refine kA ?_ _)); exact BK129.out)) (g := gb138) (o := .cells #[.int .i64 t135, .int .i64 t136] 26 (0, 0)) (by (with_reducible repeat (first | refine kN ?_ _ | refine kD ?_ | refine kA ?_ _)); exact BK138.out)) (bZ (by repeat (first | (with_reducible first | exact HB.out | apply bA | apply bN | apply bD | refine bX ?_ (by assumption)) | exact HB.out))))
                   have hp0 := hpA BK129.out hb (fun _ _ h_ => by (with_reducible repeat (first | refine kN ?_ _ | refine kD ?_ | refine kA ?_ _)); exact h_)
                   have n5_ := Am (Kd.C_below (by repeat (first | (with_reducible exact HR147.out) | (with_reducible refine Kd.C_alloc ?_ _) | (with_reducible refine Kd.C_drewN ?_ _) | (with_reducible refine Kd.C_drew ?_) | exact HR147.out)) hb)
                   have hv := hvK (w := w) hb (by repeat (first | (with_reducible first | exact HB.out | apply bA | apply bN | apply bD | refine bX ?_ (by assumption)) | exact HB.out))
                   have n6_ := Am (bT hv hb)
                   clear HO_6 HR147 HB
                   have HO_6 := n0_; have HO143 := n1_
                   replace BK129 := hp0 BK129; replace BK133 := hp0 BK133; replace BK138 := hp0 BK138
                   have HR147 := n5_; have HB := n6_
                   clear n0_ n1_ n5_ n6_ hp0 hv hb ho49
                   refine hK.out _ _ ⟨c20 BK138.out, c21 BK138.out⟩ (fun hHeld => ?_)
                   clear hK K
                   refine norm_ (a' := ?_) ?_ ?_
                   rotate_left
                   ·show Act.put _ (some 58) _ = _
                    simp only [Act.put, List.setIfInBounds_toArray, List.set_cons_zero, List.set_cons_succ, i64_w, i32_w]
                    rfl
                   refine two_ (i := 4) (j := 6) (Ni := some 62) (Nj := some 64) (pT 9 6) #[true, true, true, true, false, true, true, false, false] rfl rfl rfl rfl (two_of HT_.out (by kernel_rfl)) (by decide) (by decide) (fun K hK => ?_) (fun K hK => ?_)
                   ·skip
                    refine Kd.R_append_rows_step k26 (w0 := w) w.heap.size (by rfl) (.tmp 58) (.tmp 61) 35 26 (.agg #[(.int .i64 0), (.int .i64 0)]) 16 rfl Try.underlying35 info26 rfl (by decide) (by omega) v142 y141 y144 _ _ _ (fun k_ => some k_ ≠ (.slice (some ad139) x6_2.length co44 : Value).ownBlock ∧ k_ ≠ gb129 ∧ k_ ≠ gb138) (fun _ => False) rfl rfl ?aO ?aR (fun _ _ h => h) (fun _ h => h.elim) ?aF ?aB ?aS ?aL ?_
                    (case aR => repeat (first | exact (by repeat (first | (with_reducible exact HR147.out) | (with_reducible refine Kd.C_alloc ?_ _) | (with_reducible refine Kd.C_drewN ?_ _) | (with_reducible refine Kd.C_drew ?_) | exact HR147.out)) | (with_reducible refine Kd.C_alloc ?_ _) | (with_reducible refine Kd.C_drewN ?_ _) | (with_reducible refine Kd.C_drew ?_)))
                    (case aB => exact (by repeat (first | (with_reducible first | exact HB.out | apply bA | apply bN | apply bD | refine bX ?_ (by assumption)) | exact HB.out)))
                    (case aF => exact (fun k_ hk => ⟨Kd.fresh' (Kd.R_lt (by (with_reducible repeat (first | apply Kd.R_alloc | apply Kd.R_drewN | apply Kd.R_drew)); exact HO_6.out)) k_ hk, Kd.freshB (g := gb129) (o := .cells #[.int .i64 a1_0, .int .i64 a1_1] 26 (0, 0)) (by (with_reducible repeat (first | refine kN ?_ _ | refine kD ?_ | refine kA ?_ _)); exact BK129.out) k_ hk, Kd.freshB (g := gb138) (o := .cells #[.int .i64 t135, .int .i64 t136] 26 (0, 0)) (by (with_reducible repeat (first | refine kN ?_ _ | refine kD ?_ | refine kA ?_ _)); exact BK138.out) k_ hk⟩))
                    (case aO => exact (by (with_reducible repeat (first | apply Kd.R_alloc | apply Kd.R_drewN | apply Kd.R_drew)); exact Kd.R_mono HO143.out (fun _ hk => ⟨hk.1.1.2, ⟨hk.1.2, hk.2⟩⟩)))
                    (case aS => exact (bZ (by repeat (first | (with_reducible first | exact HB.out | apply bA | apply bN | apply bD | refine bX ?_ (by assumption)) | exact HB.out))))
                    (case aL => have := LMc38.out; omega)
                    intro v149 w50 ho hb hg hat
                    rw [← Ny148.out] at ho
                    have n0_ := Am (Kd.R_after (ok := (fun k_ => k_ ≠ gb129 ∧ k_ ≠ gb138)) (by (with_reducible repeat (first | apply Kd.R_alloc | apply Kd.R_drewN | apply Kd.R_drew)); exact HO_6.out) hg hat)
                    have n1_ := Am (blk_grown (g := gb129) (o := .cells #[.int .i64 a1_0, .int .i64 a1_1] 26 (0, 0)) (by (with_reducible repeat (first | refine kN ?_ _ | refine kD ?_ | refine kA ?_ _)); exact BK129.out) hg (Kd.R_away HO143.out (fun _ hk => hk.1.2)))
                    have n2_ := Am (blk_grown (g := gb133) (o := .cells #[.int .i64 ((rd_T30 l0 x28_2).f0.f0), .int .i64 ((rd_T30 l0 x28_2).f0.f1), .int .i64 ((rd_T30 l0 x28_2).f1)] 30 (0, 0)) (by (with_reducible repeat (first | refine kN ?_ _ | refine kD ?_ | refine kA ?_ _)); exact BK133.out) hg (Kd.R_ne HO143.out BK133.out (by decide)))
                    have n3_ := Am (blk_grown (g := gb138) (o := .cells #[.int .i64 t135, .int .i64 t136] 26 (0, 0)) (by (with_reducible repeat (first | refine kN ?_ _ | refine kD ?_ | refine kA ?_ _)); exact BK138.out) hg (Kd.R_away HO143.out (fun _ hk => hk.2)))
                    have n4_ := Am (hb)
                    have n5_ := Am ((show Kd.C k26 w50 (some ad139) y144.length y144 from by rw [Ny144.out]; exact Kd.C_take (m := (x11_3 : Int).toNat) ((Kd.R_reads' (Kd.R_after (ok := (fun k_ => k_ ≠ gb129 ∧ k_ ≠ gb138)) (by (with_reducible repeat (first | apply Kd.R_alloc | apply Kd.R_drewN | apply Kd.R_drew)); exact HO_6.out) hg hat)).2.2) KL47.out))
                    have n6_ := Am (ho)
                    clear HO_6 BK129 BK133 BK138 HB HR147 HO143
                    have HO_6 := n0_; have BK129 := n1_; have BK133 := n2_; have BK138 := n3_; have HB := n4_; have HR147 := n5_; have HO150 := n6_
                    clear n0_ n1_ n2_ n3_ n4_ n5_ n6_ ho hb hg hat
                    refine hK.out _ _ ⟨c20 BK138.out, c21 BK138.out⟩ (fun hHeld => ?_)
                    clear hK K
                    refine norm_ (a' := ?_) ?_ ?_
                    rotate_left
                    ·show Act.put _ (some 62) _ = _
                     simp only [Act.put, List.setIfInBounds_toArray, List.set_cons_zero, List.set_cons_succ, i64_w, i32_w]
                     rfl
                    refine one_ (i := 6) (N := some 64) (pT 9 7) rfl rfl (one_of HT_.out (by kernel_rfl)) (by decide) (fun K hK => ?_)
                    refine Kd.R_lit_step k26 _ 26 ?hg (N := 64) ?hd (xs := ([(⟨t135, t136⟩ : S26)] : List (S26))) (inner := [.int .i64 t135, .int .i64 t136]) (ok := fun _ => True) (okp := fun _ => True) ?hr ?hp (fun _ hk => hk) trivial (Below.refl _ _) (Nat.le_refl _) (by simp) ?_; (case hd => rfl); (case hg => rfl); (case hr => first | (go_simp; done) | (go_simp; rfl)); (case hp => exact (Reps.c2 (show Kd.M k26 _ _ _ (⟨t135, t136⟩ : S26) [.int .i64 t135, .int .i64 t136] from (k26_mkM _ _ _ (⟨t135, t136⟩ : S26) )) (Reps.none _ _)))
                    intro v152 w51 ho52 hb hg_ hnew_
                    clear hg_ hnew_
                    (first | rw [← Ny151.out] at ho52 | (simp only [Int.reduceToNat] at ho52; rw [← Ny151.out] at ho52))
                    have n0_ := Am (Kd.R_elder' (by (with_reducible repeat (first | apply Kd.R_alloc | apply Kd.R_drewN | apply Kd.R_drew)); exact HO_6.out) (Kd.R_base ho52) hb)
                    have n1_ := Am (Kd.R_elder' (by (with_reducible repeat (first | apply Kd.R_alloc | apply Kd.R_drewN | apply Kd.R_drew)); exact HO150.out) (Kd.R_base ho52) hb)
                    have n2_ := Am (Kd.R_lower (Kd.R_newB (Kd.R_newB (Kd.R_new' (Kd.R_new' ho52 (Kd.R_lt (by (with_reducible repeat (first | apply Kd.R_alloc | apply Kd.R_drewN | apply Kd.R_drew)); exact HO_6.out))) (Kd.R_lt (by (with_reducible repeat (first | apply Kd.R_alloc | apply Kd.R_drewN | apply Kd.R_drew)); exact HO150.out))) (g := gb129) (o := .cells #[.int .i64 a1_0, .int .i64 a1_1] 26 (0, 0)) (by (with_reducible repeat (first | refine kN ?_ _ | refine kD ?_ | refine kA ?_ _)); exact BK129.out)) (g := gb138) (o := .cells #[.int .i64 t135, .int .i64 t136] 26 (0, 0)) (by (with_reducible repeat (first | refine kN ?_ _ | refine kD ?_ | refine kA ?_ _)); exact BK138.out)) (bZ (by repeat (first | (with_reducible first | exact HB.out | apply bA | apply bN | apply bD | refine bX ?_ (by assumption)) | exact HB.out))))
                    have hp0 := hpA BK129.out hb (fun _ _ h_ => by (with_reducible repeat (first | refine kN ?_ _ | refine kD ?_ | refine kA ?_ _)); exact h_)
                    have n6_ := Am (Kd.C_below (by repeat (first | (with_reducible exact HR147.out) | (with_reducible refine Kd.C_alloc ?_ _) | (with_reducible refine Kd.C_drewN ?_ _) | (with_reducible refine Kd.C_drew ?_) | exact HR147.out)) hb)
                    have hv := hvK (w := w) hb (by repeat (first | (with_reducible first | exact HB.out | apply bA | apply bN | apply bD | refine bX ?_ (by assumption)) | exact HB.out))
                    have n7_ := Am (bT hv hb)
                    clear HO_6 HO150 HR147 HB
                    have HO_6 := n0_; have HO150 := n1_; have HO153 := n2_
                    replace BK129 := hp0 BK129; replace BK133 := hp0 BK133; replace BK138 := hp0 BK138
                    have HR147 := n6_; have HB := n7_
                    clear n0_ n1_ n2_ n6_ n7_ hp0 hv hb ho52
                    refine hK.out _ _ ⟨c20 BK138.out, c21 BK138.out⟩ (fun hHeld => ?_)
                    clear hK K
                    refine norm_ (a' := ?_) ?_ ?_
                    rotate_left
                    ·show Act.put _ (some 64) _ = _
                     simp only [Act.put, List.setIfInBounds_toArray, List.set_cons_zero, List.set_cons_succ, i64_w, i32_w]
                     rfl
                    exact norm_ (by simp only [putAll, Act.put, List.setIfInBounds_toArray, List.set_cons_zero, List.set_cons_succ]) (hCont (v142, v149, v152) _ ⟨hHeld, (by (with_reducible repeat (first | apply Kd.R_alloc | apply Kd.R_drewN | apply Kd.R_drew)); exact Kd.R_mono HO150.out (fun _ hk => ⟨hk.2, ⟨hk.1.1, ⟨hk.1.2.1, hk.1.2.2⟩⟩⟩)), (by (with_reducible repeat (first | apply Kd.R_alloc | apply Kd.R_drewN | apply Kd.R_drew)); exact Kd.R_mono HO153.out (fun _ hk => ⟨hk.1.1.2, ⟨hk.1.1.1.2, ⟨hk.1.2, hk.2⟩⟩⟩)), (by (with_reducible repeat (first | apply Kd.R_alloc | apply Kd.R_drewN | apply Kd.R_drew)); exact Kd.R_mono HO_6.out (fun _ hk => ⟨hk.1.2, ⟨hk.2, ⟨hk.1.1.1, hk.1.1.2⟩⟩⟩)), (by (with_reducible repeat (first | refine kN ?_ _ | refine kD ?_ | refine kA ?_ _)); exact BK129.out), (by (with_reducible repeat (first | refine kN ?_ _ | refine kD ?_ | refine kA ?_ _)); exact BK133.out), (by (with_reducible repeat (first | refine kN ?_ _ | refine kD ?_ | refine kA ?_ _)); exact BK138.out), (by repeat (first | (with_reducible first | exact HB.out | apply bA | apply bN | apply bD | refine bX ?_ (by assumption)) | exact HB.out))⟩)
                   skip
                   refine Kd.R_lit_step k26 _ 26 ?hg (N := 64) ?hd (xs := ([(⟨t135, t136⟩ : S26)] : List (S26))) (inner := [.int .i64 t135, .int .i64 t136]) (ok := fun _ => True) (okp := fun _ => True) ?hr ?hp (fun _ hk => hk) trivial (Below.refl _ _) (Nat.le_refl _) (by simp) ?_; (case hd => rfl); (case hg => rfl); (case hr => first | (go_simp; done) | (go_simp; rfl)); (case hp => exact (Reps.c2 (show Kd.M k26 _ _ _ (⟨t135, t136⟩ : S26) [.int .i64 t135, .int .i64 t136] from (k26_mkM _ _ _ (⟨t135, t136⟩ : S26) )) (Reps.none _ _)))
                   intro v152 w50 ho51 hb hg_ hnew_
                   clear hg_ hnew_
                   (first | rw [← Ny151.out] at ho51 | (simp only [Int.reduceToNat] at ho51; rw [← Ny151.out] at ho51))
                   have n0_ := Am (Kd.R_elder' (by (with_reducible repeat (first | apply Kd.R_alloc | apply Kd.R_drewN | apply Kd.R_drew)); exact HO_6.out) (Kd.R_base ho51) hb)
                   have n1_ := Am (Kd.R_elder' (by (with_reducible repeat (first | apply Kd.R_alloc | apply Kd.R_drewN | apply Kd.R_drew)); exact HO143.out) (Kd.R_base ho51) hb)
                   have n2_ := Am (Kd.R_lower (Kd.R_newB (Kd.R_newB (Kd.R_new' (Kd.R_new' ho51 (Kd.R_lt (by (with_reducible repeat (first | apply Kd.R_alloc | apply Kd.R_drewN | apply Kd.R_drew)); exact HO_6.out))) (Kd.R_lt (by (with_reducible repeat (first | apply Kd.R_alloc | apply Kd.R_drewN | apply Kd.R_drew)); exact HO143.out))) (g := gb129) (o := .cells #[.int .i64 a1_0, .int .i64 a1_1] 26 (0, 0)) (by (with_reducible repeat (first | refine kN ?_ _ | refine kD ?_ | refine kA ?_ _)); exact BK129.out)) (g := gb138) (o := .cells #[.int .i64 t135, .int .i64 t136] 26 (0, 0)) (by (with_reducible repeat (first | refine kN ?_ _ | refine kD ?_ | refine kA ?_ _)); exact BK138.out)) (bZ (by repeat (first | (with_reducible first | exact HB.out | apply bA | apply bN | apply bD | refine bX ?_ (by assumption)) | exact HB.out))))
                   have hp0 := hpA BK129.out hb (fun _ _ h_ => by (with_reducible repeat (first | refine kN ?_ _ | refine kD ?_ | refine kA ?_ _)); exact h_)
                   have n6_ := Am (Kd.C_below (by repeat (first | (with_reducible exact HR147.out) | (with_reducible refine Kd.C_alloc ?_ _) | (with_reducible refine Kd.C_drewN ?_ _) | (with_reducible refine Kd.C_drew ?_) | exact HR147.out)) hb)
                   have hv := hvK (w := w) hb (by repeat (first | (with_reducible first | exact HB.out | apply bA | apply bN | apply bD | refine bX ?_ (by assumption)) | exact HB.out))
                   have n7_ := Am (bT hv hb)
                   clear HO_6 HO143 HR147 HB
                   have HO_6 := n0_; have HO143 := n1_; have HO153 := n2_
                   replace BK129 := hp0 BK129; replace BK133 := hp0 BK133; replace BK138 := hp0 BK138
                   have HR147 := n6_; have HB := n7_
                   clear n0_ n1_ n2_ n6_ n7_ hp0 hv hb ho51
                   refine hK.out _ _ ⟨c20 BK138.out, c21 BK138.out⟩ (fun hHeld => ?_)
                   clear hK K
                   refine norm_ (a' := ?_) ?_ ?_
                   rotate_left
                   ·show Act.put _ (some 64) _ = _
                    simp only [Act.put, List.setIfInBounds_toArray, List.set_cons_zero, List.set_cons_succ, i64_w, i32_w]
                    rfl
                   refine one_ (i := 4) (N := some 62) (pT 9 7) rfl rfl (one_of HT_.out (by kernel_rfl)) (by decide) (fun K hK => ?_)
                   refine Kd.R_append_rows_step k26 (w0 := w) w.heap.size (by rfl) (.tmp 58) (.tmp 61) 35 26 (.agg #[(.int .i64 0), (.int .i64 0)]) 16 rfl Try.underlying35 info26 rfl (by decide) (by omega) v142 y141 y144 _ _ _ (fun k_ => some k_ ≠ (.slice (some ad139) x6_2.length co44 : Value).ownBlock ∧ some k_ ≠ (v152 : Value).ownBlock ∧ k_ ≠ gb129 ∧ k_ ≠ gb138) (fun _ => False) rfl rfl ?aO ?aR (fun _ _ h => h) (fun _ h => h.elim) ?aF ?aB ?aS ?aL ?_
                   (case aR => repeat (first | exact (by repeat (first | (with_reducible exact HR147.out) | (with_reducible refine Kd.C_alloc ?_ _) | (with_reducible refine Kd.C_drewN ?_ _) | (with_reducible refine Kd.C_drew ?_) | exact HR147.out)) | (with_reducible refine Kd.C_alloc ?_ _) | (with_reducible refine Kd.C_drewN ?_ _) | (with_reducible refine Kd.C_drew ?_)))
                   (case aB => exact (by repeat (first | (with_reducible first | exact HB.out | apply bA | apply bN | apply bD | refine bX ?_ (by assumption)) | exact HB.out)))
                   (case aF => exact (fun k_ hk => ⟨Kd.fresh' (Kd.R_lt (by (with_reducible repeat (first | apply Kd.R_alloc | apply Kd.R_drewN | apply Kd.R_drew)); exact HO_6.out)) k_ hk, Kd.fresh' (Kd.R_lt (by (with_reducible repeat (first | apply Kd.R_alloc | apply Kd.R_drewN | apply Kd.R_drew)); exact HO153.out)) k_ hk, Kd.freshB (g := gb129) (o := .cells #[.int .i64 a1_0, .int .i64 a1_1] 26 (0, 0)) (by (with_reducible repeat (first | refine kN ?_ _ | refine kD ?_ | refine kA ?_ _)); exact BK129.out) k_ hk, Kd.freshB (g := gb138) (o := .cells #[.int .i64 t135, .int .i64 t136] 26 (0, 0)) (by (with_reducible repeat (first | refine kN ?_ _ | refine kD ?_ | refine kA ?_ _)); exact BK138.out) k_ hk⟩))
                   (case aO => exact (by (with_reducible repeat (first | apply Kd.R_alloc | apply Kd.R_drewN | apply Kd.R_drew)); exact Kd.R_mono HO143.out (fun _ hk => ⟨hk.1.1.1.2, ⟨hk.2, ⟨hk.1.1.2, hk.1.2⟩⟩⟩)))
                   (case aS => exact (bZ (by repeat (first | (with_reducible first | exact HB.out | apply bA | apply bN | apply bD | refine bX ?_ (by assumption)) | exact HB.out))))
                   (case aL => have := LMc38.out; omega)
                   intro v149 w52 ho hb hg hat
                   rw [← Ny148.out] at ho
                   have n0_ := Am (Kd.R_after (ok := (fun k_ => some k_ ≠ (v152 : Value).ownBlock ∧ k_ ≠ gb129 ∧ k_ ≠ gb138)) (by (with_reducible repeat (first | apply Kd.R_alloc | apply Kd.R_drewN | apply Kd.R_drew)); exact Kd.R_mono HO_6.out (fun _ hk => ⟨⟨hk.2, ⟨hk.1.1.1, hk.1.1.2⟩⟩, hk.1.2⟩)) hg hat)
                   have n1_ := Am (blk_grown (g := gb129) (o := .cells #[.int .i64 a1_0, .int .i64 a1_1] 26 (0, 0)) (by (with_reducible repeat (first | refine kN ?_ _ | refine kD ?_ | refine kA ?_ _)); exact BK129.out) hg (Kd.R_away HO143.out (fun _ hk => hk.1.1.2)))
                   have n2_ := Am (blk_grown (g := gb133) (o := .cells #[.int .i64 ((rd_T30 l0 x28_2).f0.f0), .int .i64 ((rd_T30 l0 x28_2).f0.f1), .int .i64 ((rd_T30 l0 x28_2).f1)] 30 (0, 0)) (by (with_reducible repeat (first | refine kN ?_ _ | refine kD ?_ | refine kA ?_ _)); exact BK133.out) hg (Kd.R_ne HO143.out BK133.out (by decide)))
                   have n3_ := Am (blk_grown (g := gb138) (o := .cells #[.int .i64 t135, .int .i64 t136] 26 (0, 0)) (by (with_reducible repeat (first | refine kN ?_ _ | refine kD ?_ | refine kA ?_ _)); exact BK138.out) hg (Kd.R_away HO143.out (fun _ hk => hk.1.2)))
                   have n4_ := Am (Kd.R_after (ok := (fun k_ => some k_ ≠ (.slice (some ad139) x6_2.length co44 : Value).ownBlock ∧ k_ ≠ gb129 ∧ k_ ≠ gb138)) (by (with_reducible repeat (first | apply Kd.R_alloc | apply Kd.R_drewN | apply Kd.R_drew)); exact Kd.R_mono HO153.out (fun _ hk => ⟨⟨hk.1.1.1.2, ⟨hk.1.2, hk.2⟩⟩, hk.1.1.2⟩)) hg hat)
                   have n5_ := Am (hb)
                   have n6_ := Am ((show Kd.C k26 w52 (some ad139) y144.length y144 from by rw [Ny144.out]; exact Kd.C_take (m := (x11_3 : Int).toNat) ((Kd.R_reads' (Kd.R_after (ok := (fun k_ => some k_ ≠ (v152 : Value).ownBlock ∧ k_ ≠ gb129 ∧ k_ ≠ gb138)) (by (with_reducible repeat (first | apply Kd.R_alloc | apply Kd.R_drewN | apply Kd.R_drew)); exact Kd.R_mono HO_6.out (fun _ hk => ⟨⟨hk.2, ⟨hk.1.1.1, hk.1.1.2⟩⟩, hk.1.2⟩)) hg hat)).2.2) KL47.out))
                   have n7_ := Am (ho)
                   clear HO_6 BK129 BK133 BK138 HO153 HB HR147 HO143
                   have HO_6 := n0_; have BK129 := n1_; have BK133 := n2_; have BK138 := n3_; have HO153 := n4_; have HB := n5_; have HR147 := n6_; have HO150 := n7_
                   clear n0_ n1_ n2_ n3_ n4_ n5_ n6_ n7_ ho hb hg hat
                   refine hK.out _ _ ⟨c20 BK138.out, c21 BK138.out⟩ (fun hHeld => ?_)
                   clear hK K
                   refine norm_ (a' := ?_) ?_ ?_
                   rotate_left
                   ·show Act.put _ (some 62) _ = _
                    simp only [Act.put, List.setIfInBounds_toArray, List.set_cons_zero, List.set_cons_succ, i64_w, i32_w]
                    rfl
                   exact norm_ (by simp only [putAll, Act.put, List.setIfInBounds_toArray, List.set_cons_zero, List.set_cons_succ]) (hCont (v142, v149, v152) _ ⟨hHeld, (by (with_reducible repeat (first | apply Kd.R_alloc | apply Kd.R_drewN | apply Kd.R_drew)); exact Kd.R_mono HO150.out (fun _ hk => ⟨hk.2.1, ⟨hk.1, ⟨hk.2.2.1, hk.2.2.2⟩⟩⟩)), (by (with_reducible repeat (first | apply Kd.R_alloc | apply Kd.R_drewN | apply Kd.R_drew)); exact Kd.R_mono HO153.out (fun _ hk => ⟨hk.2, ⟨hk.1.1, ⟨hk.1.2.1, hk.1.2.2⟩⟩⟩)), (by (with_reducible repeat (first | apply Kd.R_alloc | apply Kd.R_drewN | apply Kd.R_drew)); exact Kd.R_mono HO_6.out (fun _ hk => ⟨hk.2, ⟨hk.1.1, ⟨hk.1.2.1, hk.1.2.2⟩⟩⟩)), (by (with_reducible repeat (first | refine kN ?_ _ | refine kD ?_ | refine kA ?_ _)); exact BK129.out), (by (with_reducible repeat (first | refine kN ?_ _ | refine kD ?_ | refine kA ?_ _)); exact BK133.out), (by (with_reducible repeat (first | refine kN ?_ _ | refine kD ?_ | refine kA ?_ _)); exact BK138.out), (by repeat (first | (with_reducible first | exact HB.out | apply bA | apply bN | apply bD | refine bX ?_ (by assumption)) | exact HB.out))⟩)
                  skip
                  refine Kd.R_lit_step k26 _ 26 ?hg (N := 64) ?hd (xs := ([(⟨t135, t136⟩ : S26)] : List (S26))) (inner := [.int .i64 t135, .int .i64 t136]) (ok := fun _ => True) (okp := fun _ => True) ?hr ?hp (fun _ hk => hk) trivial (Below.refl _ _) (Nat.le_refl _) (by simp) ?_; (case hd => rfl); (case hg => rfl); (case hr => first | (go_simp; done) | (go_simp; rfl)); (case hp => exact (Reps.c2 (show Kd.M k26 _ _ _ (⟨t135, t136⟩ : S26) [.int .i64 t135, .int .i64 t136] from (k26_mkM _ _ _ (⟨t135, t136⟩ : S26) )) (Reps.none _ _)))
                  intro v152 w48 ho49 hb hg_ hnew_
                  clear hg_ hnew_
                  (first | rw [← Ny151.out] at ho49 | (simp only [Int.reduceToNat] at ho49; rw [← Ny151.out] at ho49))
                  have n0_ := Am (Kd.R_elder' (by (with_reducible repeat (first | apply Kd.R_alloc | apply Kd.R_drewN | apply Kd.R_drew)); exact HO_6.out) (Kd.R_base ho49) hb)
                  have n1_ := Am (Kd.R_lower (Kd.R_newB (Kd.R_newB (Kd.R_new' ho49 (Kd.R_lt (by (with_reducible repeat (first | apply Kd.R_alloc | apply Kd.R_drewN | apply Kd.R_drew)); exact HO_6.out))) (g := gb129) (o := .cells #[.int .i64 a1_0, .int .i64 a1_1] 26 (0, 0)) (by (with_reducible repeat (first | refine kN ?_ _ | refine kD ?_ | refine kA ?_ _)); exact BK129.out)) (g := gb138) (o := .cells #[.int .i64 t135, .int .i64 t136] 26 (0, 0)) (by (with_reducible repeat (first | refine kN ?_ _ | refine kD ?_ | refine kA ?_ _)); exact BK138.out)) (bZ (by repeat (first | (with_reducible first | exact HB.out | apply bA | apply bN | apply bD | refine bX ?_ (by assumption)) | exact HB.out))))
                  have hp0 := hpA BK129.out hb (fun _ _ h_ => by (with_reducible repeat (first | refine kN ?_ _ | refine kD ?_ | refine kA ?_ _)); exact h_)
                  have n5_ := Am (Kd.C_below (by repeat (first | (with_reducible exact HR147.out) | (with_reducible refine Kd.C_alloc ?_ _) | (with_reducible refine Kd.C_drewN ?_ _) | (with_reducible refine Kd.C_drew ?_) | exact HR147.out)) hb)
                  have hv := hvK (w := w) hb (by repeat (first | (with_reducible first | exact HB.out | apply bA | apply bN | apply bD | refine bX ?_ (by assumption)) | exact HB.out))
                  have n6_ := Am (bT hv hb)
                  clear HO_6 HR147 HB
                  have HO_6 := n0_; have HO153 := n1_
                  replace BK129 := hp0 BK129; replace BK133 := hp0 BK133; replace BK138 := hp0 BK138
                  have HR147 := n5_; have HB := n6_
                  clear n0_ n1_ n5_ n6_ hp0 hv hb ho49
                  refine hK.out _ _ ⟨c20 BK138.out, c21 BK138.out⟩ (fun hHeld => ?_)
                  clear hK K
                  refine norm_ (a' := ?_) ?_ ?_
                  rotate_left
                  ·show Act.put _ (some 64) _ = _
                   simp only [Act.put, List.setIfInBounds_toArray, List.set_cons_zero, List.set_cons_succ, i64_w, i32_w]
                   rfl
                  refine one_ (i := 0) (N := some 58) #[true, true, true, true, false, true, true, false, false] rfl rfl (one_of HT_.out (by kernel_rfl)) (by decide) (fun K hK => ?_)
                  refine Kd.R_lit_step k26 _ 26 ?hg (N := 58) ?hd (xs := ([] : List (S26))) (inner := []) (ok := fun _ => True) (okp := fun _ => True) ?hr ?hp (fun _ hk => hk) trivial (Below.refl _ _) (Nat.le_refl _) (by simp) ?_; (case hd => rfl); (case hg => rfl); (case hr => first | (go_simp; done) | (go_simp; rfl)); (case hp => exact (Reps.none _ _))
                  intro v142 w50 ho51 hb hg_ hnew_
                  clear hg_ hnew_
                  (first | rw [← Ny141.out] at ho51 | (simp only [Int.reduceToNat] at ho51; rw [← Ny141.out] at ho51))
                  have n0_ := Am (Kd.R_elder' (by (with_reducible repeat (first | apply Kd.R_alloc | apply Kd.R_drewN | apply Kd.R_drew)); exact HO_6.out) (Kd.R_base ho51) hb)
                  have n1_ := Am (Kd.R_elder' (by (with_reducible repeat (first | apply Kd.R_alloc | apply Kd.R_drewN | apply Kd.R_drew)); exact HO153.out) (Kd.R_base ho51) hb)
                  have n2_ := Am (Kd.R_lower (Kd.R_newB (Kd.R_newB (Kd.R_new' (Kd.R_new' ho51 (Kd.R_lt (by (with_reducible repeat (first | apply Kd.R_alloc | apply Kd.R_drewN | apply Kd.R_drew)); exact HO_6.out))) (Kd.R_lt (by (with_reducible repeat (first | apply Kd.R_alloc | apply Kd.R_drewN | apply Kd.R_drew)); exact HO153.out))) (g := gb129) (o := .cells #[.int .i64 a1_0, .int .i64 a1_1] 26 (0, 0)) (by (with_reducible repeat (first | refine kN ?_ _ | refine kD ?_ | refine kA ?_ _)); exact BK129.out)) (g := gb138) (o := .cells #[.int .i64 t135, .int .i64 t136] 26 (0, 0)) (by (with_reducible repeat (first | refine kN ?_ _ | refine kD ?_ | refine kA ?_ _)); exact BK138.out)) (bZ (by repeat (first | (with_reducible first | exact HB.out | apply bA | apply bN | apply bD | refine bX ?_ (by assumption)) | exact HB.out))))
                  have hp0 := hpA BK129.out hb (fun _ _ h_ => by (with_reducible repeat (first | refine kN ?_ _ | refine kD ?_ | refine kA ?_ _)); exact h_)
                  have n6_ := Am (Kd.C_below (by repeat (first | (with_reducible exact HR147.out) | (with_reducible refine Kd.C_alloc ?_ _) | (with_reducible refine Kd.C_drewN ?_ _) | (with_reducible refine Kd.C_drew ?_) | exact HR147.out)) hb)
                  have hv := hvK (w := w) hb (by repeat (first | (with_reducible first | exact HB.out | apply bA | apply bN | apply bD | refine bX ?_ (by assumption)) | exact HB.out))
                  have n7_ := Am (bT hv hb)
                  clear HO_6 HO153 HR147 HB
                  have HO_6 := n0_; have HO153 := n1_; have HO143 := n2_
                  replace BK129 := hp0 BK129; replace BK133 := hp0 BK133; replace BK138 := hp0 BK138
                  have HR147 := n6_; have HB := n7_
                  clear n0_ n1_ n2_ n6_ n7_ hp0 hv hb ho51
                  refine hK.out _ _ ⟨c20 BK138.out, c21 BK138.out⟩ (fun hHeld => ?_)
                  clear hK K
                  refine norm_ (a' := ?_) ?_ ?_
                  rotate_left
                  ·show Act.put _ (some 58) _ = _
                   simp only [Act.put, List.setIfInBounds_toArray, List.set_cons_zero, List.set_cons_succ, i64_w, i32_w]
                   rfl
                  refine one_ (i := 4) (N := some 62) (pT 9 7) rfl rfl (one_of HT_.out (by kernel_rfl)) (by decide) (fun K hK => ?_)
                  refine Kd.R_append_rows_step k26 (w0 := w) w.heap.size (by rfl) (.tmp 58) (.tmp 61) 35 26 (.agg #[(.int .i64 0), (.int .i64 0)]) 16 rfl Try.underlying35 info26 rfl (by decide) (by omega) v142 y141 y144 _ _ _ (fun k_ => some k_ ≠ (.slice (some ad139) x6_2.length co44 : Value).ownBlock ∧ some k_ ≠ (v152 : Value).ownBlock ∧ k_ ≠ gb129 ∧ k_ ≠ gb138) (fun _ => False) rfl rfl ?aO ?aR (fun _ _ h => h) (fun _ h => h.elim) ?aF ?aB ?aS ?aL ?_
                  (case aR => repeat (first | exact (by repeat (first | (with_reducible exact HR147.out) | (with_reducible refine Kd.C_alloc ?_ _) | (with_reducible refine Kd.C_drewN ?_ _) | (with_reducible refine Kd.C_drew ?_) | exact HR147.out)) | (with_reducible refine Kd.C_alloc ?_ _) | (with_reducible refine Kd.C_drewN ?_ _) | (with_reducible refine Kd.C_drew ?_)))
                  (case aB => exact (by repeat (first | (with_reducible first | exact HB.out | apply bA | apply bN | apply bD | refine bX ?_ (by assumption)) | exact HB.out)))
                  (case aF => exact (fun k_ hk => ⟨Kd.fresh' (Kd.R_lt (by (with_reducible repeat (first | apply Kd.R_alloc | apply Kd.R_drewN | apply Kd.R_drew)); exact HO_6.out)) k_ hk, Kd.fresh' (Kd.R_lt (by (with_reducible repeat (first | apply Kd.R_alloc | apply Kd.R_drewN | apply Kd.R_drew)); exact HO153.out)) k_ hk, Kd.freshB (g := gb129) (o := .cells #[.int .i64 a1_0, .int .i64 a1_1] 26 (0, 0)) (by (with_reducible repeat (first | refine kN ?_ _ | refine kD ?_ | refine kA ?_ _)); exact BK129.out) k_ hk, Kd.freshB (g := gb138) (o := .cells #[.int .i64 t135, .int .i64 t136] 26 (0, 0)) (by (with_reducible repeat (first | refine kN ?_ _ | refine kD ?_ | refine kA ?_ _)); exact BK138.out) k_ hk⟩))
                  (case aO => exact (by (with_reducible repeat (first | apply Kd.R_alloc | apply Kd.R_drewN | apply Kd.R_drew)); exact Kd.R_mono HO143.out (fun _ hk => ⟨hk.1.1.1.2, ⟨hk.1.1.2, ⟨hk.1.2, hk.2⟩⟩⟩)))
                  (case aS => exact (bZ (by repeat (first | (with_reducible first | exact HB.out | apply bA | apply bN | apply bD | refine bX ?_ (by assumption)) | exact HB.out))))
                  (case aL => have := LMc38.out; omega)
                  intro v149 w52 ho hb hg hat
                  rw [← Ny148.out] at ho
                  have n0_ := Am (Kd.R_after (ok := (fun k_ => some k_ ≠ (v152 : Value).ownBlock ∧ k_ ≠ gb129 ∧ k_ ≠ gb138)) (by (with_reducible repeat (first | apply Kd.R_alloc | apply Kd.R_drewN | apply Kd.R_drew)); exact Kd.R_mono HO_6.out (fun _ hk => ⟨⟨hk.1.2, ⟨hk.1.1.1, hk.1.1.2⟩⟩, hk.2⟩)) hg hat)
                  have n1_ := Am (blk_grown (g := gb129) (o := .cells #[.int .i64 a1_0, .int .i64 a1_1] 26 (0, 0)) (by (with_reducible repeat (first | refine kN ?_ _ | refine kD ?_ | refine kA ?_ _)); exact BK129.out) hg (Kd.R_away HO143.out (fun _ hk => hk.1.2)))
                  have n2_ := Am (blk_grown (g := gb133) (o := .cells #[.int .i64 ((rd_T30 l0 x28_2).f0.f0), .int .i64 ((rd_T30 l0 x28_2).f0.f1), .int .i64 ((rd_T30 l0 x28_2).f1)] 30 (0, 0)) (by (with_reducible repeat (first | refine kN ?_ _ | refine kD ?_ | refine kA ?_ _)); exact BK133.out) hg (Kd.R_ne HO143.out BK133.out (by decide)))
                  have n3_ := Am (blk_grown (g := gb138) (o := .cells #[.int .i64 t135, .int .i64 t136] 26 (0, 0)) (by (with_reducible repeat (first | refine kN ?_ _ | refine kD ?_ | refine kA ?_ _)); exact BK138.out) hg (Kd.R_away HO143.out (fun _ hk => hk.2)))
                  have n4_ := Am (Kd.R_after (ok := (fun k_ => some k_ ≠ (.slice (some ad139) x6_2.length co44 : Value).ownBlock ∧ k_ ≠ gb129 ∧ k_ ≠ gb138)) (by (with_reducible repeat (first | apply Kd.R_alloc | apply Kd.R_drewN | apply Kd.R_drew)); exact Kd.R_mono HO153.out (fun _ hk => ⟨⟨hk.1.1.1.2, ⟨hk.1.1.2, hk.1.2⟩⟩, hk.2⟩)) hg hat)
                  have n5_ := Am (hb)
                  have n6_ := Am ((show Kd.C k26 w52 (some ad139) y144.length y144 from by rw [Ny144.out]; exact Kd.C_take (m := (x11_3 : Int).toNat) ((Kd.R_reads' (Kd.R_after (ok := (fun k_ => some k_ ≠ (v152 : Value).ownBlock ∧ k_ ≠ gb129 ∧ k_ ≠ gb138)) (by (with_reducible repeat (first | apply Kd.R_alloc | apply Kd.R_drewN | apply Kd.R_drew)); exact Kd.R_mono HO_6.out (fun _ hk => ⟨⟨hk.1.2, ⟨hk.1.1.1, hk.1.1.2⟩⟩, hk.2⟩)) hg hat)).2.2) KL47.out))
                  have n7_ := Am (ho)
                  clear HO_6 BK129 BK133 BK138 HO153 HB HR147 HO143
                  have HO_6 := n0_; have BK129 := n1_; have BK133 := n2_; have BK138 := n3_; have HO153 := n4_; have HB := n5_; have HR147 := n6_; have HO150 := n7_
                  clear n0_ n1_ n2_ n3_ n4_ n5_ n6_ n7_ ho hb hg hat
                  refine hK.out _ _ ⟨c20 BK138.out, c21 BK138.out⟩ (fun hHeld => ?_)
                  clear hK K
                  refine norm_ (a' := ?_) ?_ ?_
                  rotate_left
                  ·show Act.put _ (some 62) _ = _
                   simp only [Act.put, List.setIfInBounds_toArray, List.set_cons_zero, List.set_cons_succ, i64_w, i32_w]
                   rfl
                  exact norm_ (by simp only [putAll, Act.put, List.setIfInBounds_toArray, List.set_cons_zero, List.set_cons_succ]) (hCont (v142, v149, v152) _ ⟨hHeld, (by (with_reducible repeat (first | apply Kd.R_alloc | apply Kd.R_drewN | apply Kd.R_drew)); exact Kd.R_mono HO150.out (fun _ hk => ⟨hk.2.1, ⟨hk.1, ⟨hk.2.2.1, hk.2.2.2⟩⟩⟩)), (by (with_reducible repeat (first | apply Kd.R_alloc | apply Kd.R_drewN | apply Kd.R_drew)); exact Kd.R_mono HO153.out (fun _ hk => ⟨hk.2, ⟨hk.1.1, ⟨hk.1.2.1, hk.1.2.2⟩⟩⟩)), (by (with_reducible repeat (first | apply Kd.R_alloc | apply Kd.R_drewN | apply Kd.R_drew)); exact Kd.R_mono HO_6.out (fun _ hk => ⟨hk.2, ⟨hk.1.1, ⟨hk.1.2.1, hk.1.2.2⟩⟩⟩)), (by (with_reducible repeat (first | refine kN ?_ _ | refine kD ?_ | refine kA ?_ _)); exact BK129.out), (by (with_reducible repeat (first | refine kN ?_ _ | refine kD ?_ | refine kA ?_ _)); exact BK133.out), (by (with_reducible repeat (first | refine kN ?_ _ | refine kD ?_ | refine kA ?_ _)); exact BK138.out), (by repeat (first | (with_reducible first | exact HB.out | apply bA | apply bN | apply bD | refine bX ?_ (by assumption)) | exact HB.out))⟩)
                 rintro ⟨v142, v149, v152⟩ w53 ⟨hS_, h0_, h1_, h2_, h3_, h4_, h5_, h6_⟩
                 have n0_ : Aside0 (Kd.R k26 26 w53 w.heap.size (fun k_ => some k_ ≠ (v152 : Value).ownBlock ∧ some k_ ≠ (.slice (some ad139) x6_2.length co44 : Value).ownBlock ∧ k_ ≠ gb129 ∧ k_ ≠ gb138) v149 y148) := ⟨h0_⟩
                 have n1_ : Aside0 (Kd.R k26 26 w53 w.heap.size (fun k_ => some k_ ≠ (v149 : Value).ownBlock ∧ some k_ ≠ (.slice (some ad139) x6_2.length co44 : Value).ownBlock ∧ k_ ≠ gb129 ∧ k_ ≠ gb138) v152 y151) := ⟨h1_⟩
                 have n2_ : Aside0 (Kd.R k26 26 w53 w.heap.size (fun k_ => some k_ ≠ (v149 : Value).ownBlock ∧ some k_ ≠ (v152 : Value).ownBlock ∧ k_ ≠ gb129 ∧ k_ ≠ gb138) (.slice (some ad139) x6_2.length co44) x6_2) := ⟨h2_⟩
                 have n3_ : Aside0 (w53.heap[gb129]? = some (.cells #[.int .i64 a1_0, .int .i64 a1_1] 26 (0, 0))) := ⟨h3_⟩
                 have n4_ : Aside0 (w53.heap[gb133]? = some (.cells #[.int .i64 ((rd_T30 l0 x28_2).f0.f0), .int .i64 ((rd_T30 l0 x28_2).f0.f1), .int .i64 ((rd_T30 l0 x28_2).f1)] 30 (0, 0))) := ⟨h4_⟩
                 have n5_ : Aside0 (w53.heap[gb138]? = some (.cells #[.int .i64 t135, .int .i64 t136] 26 (0, 0))) := ⟨h5_⟩
                 have n6_ : Aside0 (Below w.heap.size w w53) := ⟨h6_⟩
                 clear HO_6 BK129 BK133 BK138 HB h0_ h1_ h2_ h3_ h4_ h5_ h6_
                 have HO150 := n0_; have HO153 := n1_; have HO_6 := n2_; have BK129 := n3_; have BK133 := n4_; have BK138 := n5_; have HB := n6_
                 clear n0_ n1_ n2_ n3_ n4_ n5_ n6_
                 have hHeld : w53.cell? ⟨gb138, 0, none⟩ = some (.int .i64 t135) ∧ w53.cell? ⟨gb138, 1, none⟩ = some (.int .i64 t136) := hS_
                 obtain ⟨Ao55, co55, eo55⟩ := Kd.R_slice HO153.out
                 (first | subst eo55 | (injection eo55 with f1_ f2_ f3_; have f4_ := f1_.symm; have f5_ := f3_.symm; clear f1_ f2_ f3_; subst f4_; subst f5_))
                 refine norm_ (a' := ?_) ?_ ?_
                 rotate_left
                 ·simp only [putAll, Act.put, List.setIfInBounds_toArray, List.set_cons_zero, List.set_cons_succ]
                  rfl
                 refine one_ (i := 7) (N := some 65) (pT 9 8) rfl rfl (one_of HT_.out (by kernel_rfl)) (by decide) (fun K hK => ?_)
                 refine Kd.R_append_rows_step k26 (w0 := w) w.heap.size (by rfl) (.tmp 62) (.tmp 64) 35 26 (.agg #[(.int .i64 0), (.int .i64 0)]) 16 rfl Try.underlying35 info26 rfl (by decide) (by omega) v149 y148 y151 _ _ _ (fun k_ => some k_ ≠ (.slice (some ad139) x6_2.length co44 : Value).ownBlock ∧ some k_ ≠ (.slice Ao55 y151.length co55 : Value).ownBlock ∧ k_ ≠ gb129 ∧ k_ ≠ gb138) (fun _ => False) rfl rfl ?aO ?aR (fun _ _ h => h) (fun _ h => h.elim) ?aF ?aB ?aS ?aL ?_
                 (case aR => repeat (first | exact (Kd.R_reads' HO153.out).2.2 | (with_reducible refine Kd.C_alloc ?_ _) | (with_reducible refine Kd.C_drewN ?_ _) | (with_reducible refine Kd.C_drew ?_)))
                 (case aB => exact (by repeat (first | (with_reducible first | exact HB.out | apply bA | apply bN | apply bD | refine bX ?_ (by assumption)) | exact HB.out)))
                 (case aF => exact (fun k_ hk => ⟨Kd.fresh' (Kd.R_lt (by (with_reducible repeat (first | apply Kd.R_alloc | apply Kd.R_drewN | apply Kd.R_drew)); exact HO_6.out)) k_ hk, Kd.fresh' (Kd.R_lt (by (with_reducible repeat (first | apply Kd.R_alloc | apply Kd.R_drewN | apply Kd.R_drew)); exact HO153.out)) k_ hk, Kd.freshB (g := gb129) (o := .cells #[.int .i64 a1_0, .int .i64 a1_1] 26 (0, 0)) (by (with_reducible repeat (first | refine kN ?_ _ | refine kD ?_ | refine kA ?_ _)); exact BK129.out) k_ hk, Kd.freshB (g := gb138) (o := .cells #[.int .i64 t135, .int .i64 t136] 26 (0, 0)) (by (with_reducible repeat (first | refine kN ?_ _ | refine kD ?_ | refine kA ?_ _)); exact BK138.out) k_ hk⟩))
                 (case aO => exact (by (with_reducible repeat (first | apply Kd.R_alloc | apply Kd.R_drewN | apply Kd.R_drew)); exact Kd.R_mono HO150.out (fun _ hk => ⟨hk.2.1, ⟨hk.1, ⟨hk.2.2.1, hk.2.2.2⟩⟩⟩)))
                 (case aS => exact (bZ (by repeat (first | (with_reducible first | exact HB.out | apply bA | apply bN | apply bD | refine bX ?_ (by assumption)) | exact HB.out))))
                 (case aL => have := LMc39.out; omega)
                 intro v155 w54 ho hb hg hat
                 rw [← Ny154.out] at ho
                 have n0_ := Am (Kd.R_after (ok := (fun k_ => some k_ ≠ (.slice Ao55 y151.length co55 : Value).ownBlock ∧ k_ ≠ gb129 ∧ k_ ≠ gb138)) (by (with_reducible repeat (first | apply Kd.R_alloc | apply Kd.R_drewN | apply Kd.R_drew)); exact Kd.R_mono HO_6.out (fun _ hk => ⟨⟨hk.2.1, ⟨hk.2.2.1, hk.2.2.2⟩⟩, hk.1⟩)) hg hat)
                 have n1_ := Am (blk_grown (g := gb129) (o := .cells #[.int .i64 a1_0, .int .i64 a1_1] 26 (0, 0)) (by (with_reducible repeat (first | refine kN ?_ _ | refine kD ?_ | refine kA ?_ _)); exact BK129.out) hg (Kd.R_away HO150.out (fun _ hk => hk.2.2.1)))
                 have n2_ := Am (blk_grown (g := gb133) (o := .cells #[.int .i64 ((rd_T30 l0 x28_2).f0.f0), .int .i64 ((rd_T30 l0 x28_2).f0.f1), .int .i64 ((rd_T30 l0 x28_2).f1)] 30 (0, 0)) (by (with_reducible repeat (first | refine kN ?_ _ | refine kD ?_ | refine kA ?_ _)); exact BK133.out) hg (Kd.R_ne HO150.out BK133.out (by decide)))
                 have n3_ := Am (blk_grown (g := gb138) (o := .cells #[.int .i64 t135, .int .i64 t136] 26 (0, 0)) (by (with_reducible repeat (first | refine kN ?_ _ | refine kD ?_ | refine kA ?_ _)); exact BK138.out) hg (Kd.R_away HO150.out (fun _ hk => hk.2.2.2)))
                 have n4_ := Am (Kd.R_after (ok := (fun k_ => some k_ ≠ (.slice (some ad139) x6_2.length co44 : Value).ownBlock ∧ k_ ≠ gb129 ∧ k_ ≠ gb138)) (by (with_reducible repeat (first | apply Kd.R_alloc | apply Kd.R_drewN | apply Kd.R_drew)); exact Kd.R_mono HO153.out (fun _ hk => ⟨⟨hk.2.1, ⟨hk.2.2.1, hk.2.2.2⟩⟩, hk.1⟩)) hg hat)
                 have n5_ := Am (hb)
                 have n6_ := Am (ho)
                 clear HO_6 BK129 BK133 BK138 HO153 HB HO150
                 have HO_6 := n0_; have BK129 := n1_; have BK133 := n2_; have BK138 := n3_; have HO153 := n4_; have HB := n5_; have HO156 := n6_
                 clear n0_ n1_ n2_ n3_ n4_ n5_ n6_ ho hb hg hat
                 refine hK.out _ _ ⟨c20 BK138.out, c21 BK138.out⟩ (fun hHeld => ?_)
                 clear hK K
                 refine norm_ (a' := ?_) ?_ ?_
                 rotate_left
                 ·show Act.put _ (some 65) _ = _
                  simp only [Act.put, List.setIfInBounds_toArray, List.set_cons_zero, List.set_cons_succ, i64_w, i32_w]
                  rfl
                 refine pI (v := ?_) (a' := ?_) rfl (any_of HT_.out (by kernel_rfl)) (fun _ _ _ h => h) (Or.inl ⟨by rfl, ?_⟩) ?_ ?_
                 rotate_left
                 ·intro w'
                  go_simp
                  with_reducible rfl
                 rotate_left
                 ·show Act.put _ (some _) _ = _
                  simp only [Act.put, List.setIfInBounds_toArray, List.set_cons_zero, List.set_cons_succ, i64_w, i32_w]
                  rfl
                 refine done_ (done_of HT_.out (by kernel_rfl)) ?_
                 have q56 : (x11_3 : Int) ≤ ((x6_2.length : Int) : Int) := of_decide_eq_true (by first | (with_reducible assumption) | assumption)
                 obtain ⟨i056, hi056, _, hsz56, _⟩ := info_parts info26
                 have hroom56 : x6_2.length ≤ co44 := (Kd.R_reads' HO_6.out).2.1
                 have hC56 : Kd.C k26 _ (some ad139) x6_2.length x6_2 := (Kd.R_reads' HO_6.out).2.2
                 have q056 : (0 : Int) ≤ (x11_3 : Int) := of_decide_eq_true (by first | (with_reducible assumption) | assumption)
                 have hcut56 := cut_from (P := Try.prog) 35 26 .i64 Try.underlying35 hi056 2 hsz56 (some ad139) x6_2.length co44 x11_3 q056 q56
                 have hr56 := Kd.C_drop (m := (x11_3 : Int).toNat) (c := co44) hC56 (by omega) hroom56
                 obtain ⟨A56, hA56⟩ : ∃ A1, A1 = (if co44 = (x11_3 : Int).toNat then (some ad139) else ((some ad139) : Option Addr).map (·.add ((x11_3 : Int).toNat * 2))) := ⟨_, rfl⟩
                 obtain ⟨c56, hc56⟩ : ∃ c1, c1 = co44 - (x11_3 : Int).toNat := ⟨_, rfl⟩
                 have hy56 : y157.length = x6_2.length - (x11_3 : Int).toNat := (by rw [Ny157.out, List.length_drop] <;> omega)
                 rw [show (x6_2).drop (x11_3 : Int).toNat = y157 from Ny157.out.symm] at hr56
                 replace hr56 : Kd.C k26 _ A56 y157.length y157 := (by rw [hA56]; exact hr56)
                 rw [← hy56, ← hA56, ← hc56] at hcut56
                 have HR160 := Am hr56
                 have HC160 := Am (show y157.length ≤ c56 from by rw [hy56, hc56]; exact Nat.sub_le_sub_right hroom56 _)
                 clear hr56 hC56 hroom56 hi056 hsz56 hc56
                 have KY56 := Am hy56
                 have KA56 := Am hA56
                 clear hy56 hA56
                 have KL56 := Am (show (x11_3 : Int).toNat ≤ x6_2.length from by omega)
                 replace q56 := eq_true q56
                 try go_wp2_with (first | ((with_reducible refine gate_builtin (b := .append) (xs := #[.tmp 66, .tmp 69]) rfl ?_); at_builtin; refine Kd.R_append_rows k26 (w0 := w) w.heap.size rfl (.tmp 66) (.tmp 69) 35 26 (.agg #[(.int .i64 0), (.int .i64 0)]) 16 rfl Try.underlying35 info26 rfl (by decide) (by omega) v155 y154 y157 _ _ _ (fun k_ => some k_ ≠ (.slice (some ad139) x6_2.length co44 : Value).ownBlock ∧ some k_ ≠ (.slice Ao55 y151.length co55 : Value).ownBlock ∧ k_ ≠ gb129 ∧ k_ ≠ gb138) (fun _ => False) rfl rfl ?aO ?aR (fun _ _ h => h) (fun _ h => h.elim) ?aF ?aB ?aS ?aL ?_; (case aR => repeat (first | exact (by repeat (first | (with_reducible exact HR160.out) | (with_reducible refine Kd.C_alloc ?_ _) | (with_reducible refine Kd.C_drewN ?_ _) | (with_reducible refine Kd.C_drew ?_) | exact HR160.out)) | (with_reducible refine Kd.C_alloc ?_ _) | (with_reducible refine Kd.C_drewN ?_ _) | (with_reducible refine Kd.C_drew ?_))); (case aB => exact (by repeat (first | (with_reducible first | exact HB.out | apply bA | apply bN | apply bD | refine bX ?_ (by assumption)) | exact HB.out))); (case aF => exact (fun k_ hk => ⟨Kd.fresh' (Kd.R_lt (by (with_reducible repeat (first | apply Kd.R_alloc | apply Kd.R_drewN | apply Kd.R_drew)); exact HO_6.out)) k_ hk, Kd.fresh' (Kd.R_lt (by (with_reducible repeat (first | apply Kd.R_alloc | apply Kd.R_drewN | apply Kd.R_drew)); exact HO153.out)) k_ hk, Kd.freshB (g := gb129) (o := .cells #[.int .i64 a1_0, .int .i64 a1_1] 26 (0, 0)) (by (with_reducible repeat (first | refine kN ?_ _ | refine kD ?_ | refine kA ?_ _)); exact BK129.out) k_ hk, Kd.freshB (g := gb138) (o := .cells #[.int .i64 t135, .int .i64 t136] 26 (0, 0)) (by (with_reducible repeat (first | refine kN ?_ _ | refine kD ?_ | refine kA ?_ _)); exact BK138.out) k_ hk⟩)); (case aO => exact (by (with_reducible repeat (first | apply Kd.R_alloc | apply Kd.R_drewN | apply Kd.R_drew)); exact HO156.out)); (case aS => exact (bZ (by repeat (first | (with_reducible first | exact HB.out | apply bA | apply bN | apply bD | refine bX ?_ (by assumption)) | exact HB.out)))); (case aL => have := LMc42.out; omega); intro v162 w57 ho hb hg hat; rw [← Ny161.out] at ho; have n0_ := Am (Kd.R_after (ok := (fun k_ => some k_ ≠ (.slice Ao55 y151.length co55 : Value).ownBlock ∧ k_ ≠ gb129 ∧ k_ ≠ gb138)) (by (with_reducible repeat (first | apply Kd.R_alloc | apply Kd.R_drewN | apply Kd.R_drew)); exact HO_6.out) hg hat); have n1_ := Am (blk_grown (g := gb129) (o := .cells #[.int .i64 a1_0, .int .i64 a1_1] 26 (0, 0)) (by (with_reducible repeat (first | refine kN ?_ _ | refine kD ?_ | refine kA ?_ _)); exact BK129.out) hg (Kd.R_away HO156.out (fun _ hk => hk.2.2.1))); have n2_ := Am (blk_grown (g := gb133) (o := .cells #[.int .i64 ((rd_T30 l0 x28_2).f0.f0), .int .i64 ((rd_T30 l0 x28_2).f0.f1), .int .i64 ((rd_T30 l0 x28_2).f1)] 30 (0, 0)) (by (with_reducible repeat (first | refine kN ?_ _ | refine kD ?_ | refine kA ?_ _)); exact BK133.out) hg (Kd.R_ne HO156.out BK133.out (by decide))); have n3_ := Am (blk_grown (g := gb138) (o := .cells #[.int .i64 t135, .int .i64 t136] 26 (0, 0)) (by (with_reducible repeat (first | refine kN ?_ _ | refine kD ?_ | refine kA ?_ _)); exact BK138.out) hg (Kd.R_away HO156.out (fun _ hk => hk.2.2.2))); have n4_ := Am (Kd.R_after (ok := (fun k_ => some k_ ≠ (.slice (some ad139) x6_2.length co44 : Value).ownBlock ∧ k_ ≠ gb129 ∧ k_ ≠ gb138)) (by (with_reducible repeat (first | apply Kd.R_alloc | apply Kd.R_drewN | apply Kd.R_drew)); exact HO153.out) hg hat); have n5_ := Am (hb); have n6_ := Am ((show Kd.C k26 w57 A56 y157.length y157 from by rw [Ny157.out, KA56.out]; exact Kd.C_drop (m := (x11_3 : Int).toNat) (c := co44) ((Kd.R_reads' (Kd.R_after (ok := (fun k_ => some k_ ≠ (.slice Ao55 y151.length co55 : Value).ownBlock ∧ k_ ≠ gb129 ∧ k_ ≠ gb138)) (by (with_reducible repeat (first | apply Kd.R_alloc | apply Kd.R_drewN | apply Kd.R_drew)); exact HO_6.out) hg hat)).2.2) KL56.out ((Kd.R_reads' (Kd.R_after (ok := (fun k_ => some k_ ≠ (.slice Ao55 y151.length co55 : Value).ownBlock ∧ k_ ≠ gb129 ∧ k_ ≠ gb138)) (by (with_reducible repeat (first | apply Kd.R_alloc | apply Kd.R_drewN | apply Kd.R_drew)); exact HO_6.out) hg hat)).2.1))); have n7_ := Am (ho); clear HO_6; clear BK129; clear BK133; clear BK138; clear HO153; clear HB; clear HR160; clear HO156; have HO_6 := n0_; have BK129 := n1_; have BK133 := n2_; have BK138 := n3_; have HO153 := n4_; have HB := n5_; have HR160 := n6_; have HO163 := n7_; clear n0_ n1_ n2_ n3_ n4_ n5_ n6_ n7_; clear ho hb hg hat))
                 go_roundg k3
                 case measure => have := HJ2.out; have := HK2.out; have := HK3.out; omega
                 case rel => exact ⟨(y161), (wrap64 (x28_2 + 1)), (by first | rfl | (simp; done) | (simp [*]; done)), H', ⟨by have := HJ2.out; have := HK2.out; have := HK3.out; omega⟩, ⟨by (with_reducible repeat (first | apply Kd.R_alloc | apply Kd.R_drewN | apply Kd.R_drew)); exact Kd.R_mono HO163.out (fun _ hk => hk.2.2.1)⟩, ⟨by (with_reducible repeat (first | refine kN ?_ _ | refine kD ?_ | refine kA ?_ _)); exact BK129.out⟩, ⟨by repeat (first | (with_reducible first | exact HB.out | apply bA | apply bN | apply bD | refine bX ?_ (by assumption)) | exact HB.out)⟩⟩
                rw [if_neg c42] at H
                exact absurd H (by simp)
               rw [if_neg c39] at H
               exact absurd H (by simp)
              rw [if_neg c38] at H
              exact absurd H (by simp)
             rw [if_neg c37] at H
             exact absurd H (by simp)
            rw [if_neg c30] at H
            exact absurd H (by simp)
           rw [if_neg c29] at H
           have c29b0 : decide (x11_3 < (x6_2.length : Int)) = false := decide_eq_false c29
           clear c29
           obtain ⟨y164, hy164⟩ : ∃ y_ : List (S26), y_ = (([] : List (S26))) := ⟨_, rfl⟩
           replace H : (if 0 ≤ x11_3 then (if x11_3 ≤ (x6_2.length : Int) then ((some (x6_2.take (x11_3 : Int).toNat : List (S26))).bind fun y167 => (if y164.length + y167.length < 8796093022208 then ((some (y164 ++ y167 : List (S26))).bind fun y171 => ((some (([(⟨t135, t136⟩ : S26)] : List (S26)) : List (S26))).bind fun y174 => (if y171.length + y174.length < 8796093022208 then ((some (y171 ++ y174 : List (S26))).bind fun y177 => ((some (x6_2.drop (x11_3 : Int).toNat : List (S26))).bind fun y180 => (if y177.length + y180.length < 8796093022208 then (spec_meGaps.l0 k3 (y177 ++ y180) l0 (l0.length : Int) (wrap64 (x28_2 + 1)) a1_0 a1_1) else (none)))) else (none)))) else (none))) else (none)) else (none)) = some (r1, r2) := by first | (rw [hy164]; with_reducible exact H) | (have H2_ := (Option.bind_some _ _).symm.trans H; rw [hy164]; with_reducible exact H2_) | (have H2_ := (Option.bind_some _ _).symm.trans H; with_reducible exact H2_) | with_reducible exact H | (rw [hy164]; exact H) | exact H
           have Ny164 := Am hy164
           clear hy164
           by_cases c58 : 0 ≤ x11_3
           ·rw [if_pos c58] at H
            have c58b0 := eq_true c58
            have c58b1 : decide (0 ≤ x11_3) = true := decide_eq_true c58
            clear c58
            by_cases c59 : x11_3 ≤ (x6_2.length : Int)
            ·rw [if_pos c59] at H
             have c59b0 := eq_true c59
             have c59b1 : decide (x11_3 ≤ (x6_2.length : Int)) = true := decide_eq_true c59
             clear c59
             obtain ⟨y167, hy167⟩ : ∃ y_ : List (S26), y_ = (x6_2.take (x11_3 : Int).toNat) := ⟨_, rfl⟩
             replace H : (if y164.length + y167.length < 8796093022208 then ((some (y164 ++ y167 : List (S26))).bind fun y171 => ((some (([(⟨t135, t136⟩ : S26)] : List (S26)) : List (S26))).bind fun y174 => (if y171.length + y174.length < 8796093022208 then ((some (y171 ++ y174 : List (S26))).bind fun y177 => ((some (x6_2.drop (x11_3 : Int).toNat : List (S26))).bind fun y180 => (if y177.length + y180.length < 8796093022208 then (spec_meGaps.l0 k3 (y177 ++ y180) l0 (l0.length : Int) (wrap64 (x28_2 + 1)) a1_0 a1_1) else (none)))) else (none)))) else (none)) = some (r1, r2) := by first | (rw [hy167]; with_reducible exact H) | (have H2_ := (Option.bind_some _ _).symm.trans H; rw [hy167]; with_reducible exact H2_) | (have H2_ := (Option.bind_some _ _).symm.trans H; with_reducible exact H2_) | with_reducible exact H | (rw [hy167]; exact H) | exact H
             have Ny167 := Am hy167
             clear hy167
             by_cases c60 : y164.length + y167.length < 8796093022208
             ·rw [if_pos c60] at H
              have LMc60 := Am c60
              clear c60
              obtain ⟨y171, hy171⟩ : ∃ y_ : List (S26), y_ = (y164 ++ y167) := ⟨_, rfl⟩
              replace H : ((some (([(⟨t135, t136⟩ : S26)] : List (S26)) : List (S26))).bind fun y174 => (if y171.length + y174.length < 8796093022208 then ((some (y171 ++ y174 : List (S26))).bind fun y177 => ((some (x6_2.drop (x11_3 : Int).toNat : List (S26))).bind fun y180 => (if y177.length + y180.length < 8796093022208 then (spec_meGaps.l0 k3 (y177 ++ y180) l0 (l0.length : Int) (wrap64 (x28_2 + 1)) a1_0 a1_1) else (none)))) else (none))) = some (r1, r2) := by first | (rw [hy171]; with_reducible exact H) | (have H2_ := (Option.bind_some _ _).symm.trans H; rw [hy171]; with_reducible exact H2_) | (have H2_ := (Option.bind_some _ _).symm.trans H; with_reducible exact H2_) | with_reducible exact H | (rw [hy171]; exact H) | exact H
              have Ny171 := Am hy171
              clear hy171
              obtain ⟨y174, hy174⟩ : ∃ y_ : List (S26), y_ = (([(⟨t135, t136⟩ : S26)] : List (S26))) := ⟨_, rfl⟩
              replace H : (if y171.length + y174.length < 8796093022208 then ((some (y171 ++ y174 : List (S26))).bind fun y177 => ((some (x6_2.drop (x11_3 : Int).toNat : List (S26))).bind fun y180 => (if y177.length + y180.length < 8796093022208 then (spec_meGaps.l0 k3 (y177 ++ y180) l0 (l0.length : Int) (wrap64 (x28_2 + 1)) a1_0 a1_1) else (none)))) else (none)) = some (r1, r2) := by first | (rw [hy174]; with_reducible exact H) | (have H2_ := (Option.bind_some _ _).symm.trans H; rw [hy174]; with_reducible exact H2_) | (have H2_ := (Option.bind_some _ _).symm.trans H; with_reducible exact H2_) | with_reducible exact H | (rw [hy174]; exact H) | exact H
              have Ny174 := Am hy174
              clear hy174
              by_cases c61 : y171.length + y174.length < 8796093022208
              ·rw [if_pos c61] at H
               have LMc61 := Am c61
               clear c61
               obtain ⟨y177, hy177⟩ : ∃ y_ : List (S26), y_ = (y171 ++ y174) := ⟨_, rfl⟩
               replace H : ((some (x6_2.drop (x11_3 : Int).toNat : List (S26))).bind fun y180 => (if y177.length + y180.length < 8796093022208 then (spec_meGaps.l0 k3 (y177 ++ y180) l0 (l0.length : Int) (wrap64 (x28_2 + 1)) a1_0 a1_1) else (none))) = some (r1, r2) := by first | (rw [hy177]; with_reducible exact H) | (have H2_ := (Option.bind_some _ _).symm.trans H; rw [hy177]; with_reducible exact H2_) | (have H2_ := (Option.bind_some _ _).symm.trans H; with_reducible exact H2_) | with_reducible exact H | (rw [hy177]; exact H) | exact H
               have Ny177 := Am hy177
               clear hy177
               have c62b0 := eq_true (of_decide_eq_true (by first | (with_reducible assumption) | assumption) : 0 ≤ x11_3)
               have c63b0 := eq_true (of_decide_eq_true (by first | (with_reducible assumption) | assumption) : x11_3 ≤ (x6_2.length : Int))
               obtain ⟨y180, hy180⟩ : ∃ y_ : List (S26), y_ = (x6_2.drop (x11_3 : Int).toNat) := ⟨_, rfl⟩
               replace H : (if y177.length + y180.length < 8796093022208 then (spec_meGaps.l0 k3 (y177 ++ y180) l0 (l0.length : Int) (wrap64 (x28_2 + 1)) a1_0 a1_1) else (none)) = some (r1, r2) := by first | (rw [hy180]; with_reducible exact H) | (have H2_ := (Option.bind_some _ _).symm.trans H; rw [hy180]; with_reducible exact H2_) | (have H2_ := (Option.bind_some _ _).symm.trans H; with_reducible exact H2_) | with_reducible exact H | (rw [hy180]; exact H) | exact H
               have Ny180 := Am hy180
               clear hy180
               by_cases c64 : y177.length + y180.length < 8796093022208
               ·rw [if_pos c64] at H
                have LMc64 := Am c64
                clear c64
                obtain ⟨y184, hy184⟩ : ∃ y_ : List (S26), y_ = (y177 ++ y180) := ⟨_, rfl⟩
                replace H : (spec_meGaps.l0 k3 y184 l0 (l0.length : Int) (wrap64 (x28_2 + 1)) a1_0 a1_1) = some (r1, r2) := by first | (rw [hy184]; with_reducible exact H) | (have H2_ := (Option.bind_some _ _).symm.trans H; rw [hy184]; with_reducible exact H2_) | (have H2_ := (Option.bind_some _ _).symm.trans H; with_reducible exact H2_) | with_reducible exact H | (rw [hy184]; exact H) | exact H
                have Ny184 := Am hy184
                clear hy184
                have H' := Am H
                clear H
                try go_wp2
                have n0_ := Am (Kd.R_drew HO_6.out)
                have n1_ := Am (kD BK129.out)
                have n2_ := Am (kD BK133.out)
                have n3_ := Am (kD BK138.out)
                have n4_ := Am (bD HB.out)
                clear HO_6 BK129 BK133 BK138 HB
                have HO_6 := n0_; have BK129 := n1_; have BK133 := n2_; have BK138 := n3_; have HB := n4_
                clear n0_ n1_ n2_ n3_ n4_
                obtain ⟨Ao66, co66, eo66⟩ := Kd.R_slice HO_6.out
                (first | subst eo66 | (injection eo66 with f1_ f2_ f3_; have f4_ := f1_.symm; have f5_ := f3_.symm; clear f1_ f2_ f3_; subst f4_; subst f5_))
                refine start_ (n := 13) (S := fun w' => True) (ds := []) (pT 13 0) (by kernel_rfl) rfl rfl trivial (fun hHeld => ?_); refine with_tabW spec_meGaps.tab13 spec_meGaps.bits13 (fun HT_ HW_ => ?_)
                generalize wr.drew = w65 at HO_6 BK129 BK133 BK138 HB hHeld ⊢
                iterate 13
                 first
                 | refine pI (v := ?_) (a' := ?_) rfl (any_of HT_.out (by kernel_rfl)) (fun _ _ _ h => h) (Or.inl ⟨by rfl, ?_⟩) ?_ ?_
                   rotate_left
                   ·intro w'
                    go_simp
                    with_reducible rfl
                   rotate_left
                   ·show Act.put _ (some _) _ = _
                    simp only [Act.put, List.setIfInBounds_toArray, List.set_cons_zero, List.set_cons_succ, i64_w, i32_w]
                    rfl
                 | refine pI (v := undef) (a' := ?_) rfl (any_of HT_.out (by kernel_rfl)) (fun _ _ _ h => h) (Or.inr ⟨by rfl, rfl⟩) ?_ ?_
                   rotate_left
                   ·show Act.put _ (some _) _ = _
                    simp only [Act.put, List.setIfInBounds_toArray, List.set_cons_zero, List.set_cons_succ, i64_w, i32_w]
                    rfl
                refine done_ (done_of HT_.out (by kernel_rfl)) ?_
                try go_wp2
                have n0_ := Am (Kd.R_drew HO_6.out)
                have n1_ := Am (kD BK129.out)
                have n2_ := Am (kD BK133.out)
                have n3_ := Am (kD BK138.out)
                have n4_ := Am (bD HB.out)
                clear HO_6 BK129 BK133 BK138 HB
                have HO_6 := n0_; have BK129 := n1_; have BK133 := n2_; have BK138 := n3_; have HB := n4_
                clear n0_ n1_ n2_ n3_ n4_
                have q68 : (x11_3 : Int) ≤ ((x6_2.length : Int) : Int) := of_decide_eq_true (by first | (with_reducible assumption) | assumption)
                obtain ⟨i068, hi068, _, hsz68, _⟩ := info_parts info26
                have hroom68 : x6_2.length ≤ co66 := (Kd.R_reads' HO_6.out).2.1
                have hC68 : Kd.C k26 _ Ao66 x6_2.length x6_2 := (Kd.R_reads' HO_6.out).2.2
                have hcut68 := cut_to (P := Try.prog) 35 26 .i64 Try.underlying35 hi068 Ao66 x6_2.length co66 x11_3 (of_decide_eq_true (by first | (with_reducible assumption) | assumption)) q68 hroom68
                have hr68 := Kd.C_take (m := (x11_3 : Int).toNat) hC68 (by omega)
                have hy68 : y167.length = (x11_3 : Int).toNat := (by rw [Ny167.out, List.length_take]; omega)
                rw [← Ny167.out] at hr68
                rw [← hy68] at hcut68
                have HR170 := Am hr68
                have HC170 := Am (show y167.length ≤ co66 from by omega)
                clear hr68 hC68 hroom68 hi068 hsz68
                have KY68 := Am hy68
                clear hy68
                have KL68 := Am (show (x11_3 : Int).toNat ≤ x6_2.length from by omega)
                replace q68 := eq_true q68
                refine start_ (n := 9) (S := fun w' => w'.cell? ⟨gb138, 0, none⟩ = some (.int .i64 t135) ∧ w'.cell? ⟨gb138, 1, none⟩ = some (.int .i64 t136)) (ds := []) (pT 9 0) (by kernel_rfl) rfl rfl ⟨c20 BK138.out, c21 BK138.out⟩ (fun hHeld => ?_); refine with_tabW spec_meGaps.tab15 spec_meGaps.bits15 (fun HT_ HW_ => ?_)
                generalize w65.drew = w67 at HO_6 BK129 BK133 BK138 HB HR170 hHeld ⊢
                refine pure_ (i := 1) (N := some 59) (v := ?_) (a' := ?_) #[false, true, false, false, false, false, false, false, false] rfl rfl (any_of HT_.out (by kernel_rfl)) (fun _ _ _ h => h) (Or.inl ⟨by rfl, ?_⟩) ?_ ?_
                rotate_left
                ·intro w'
                 go_simp
                 with_reducible rfl
                rotate_left
                ·simp only [Act.put, List.setIfInBounds_toArray, List.set_cons_zero, List.set_cons_succ, i64_w, i32_w]
                 rfl
                refine pure_ (i := 2) (N := some 60) (v := ?_) (a' := ?_) #[false, true, true, false, false, false, false, false, false] rfl rfl (any_of HT_.out (by kernel_rfl)) (fun _ _ _ h => h) (Or.inl ⟨by rfl, ?_⟩) ?_ ?_
                rotate_left
                ·intro w'
                 go_simp
                 with_reducible rfl
                rotate_left
                ·simp only [Act.put, List.setIfInBounds_toArray, List.set_cons_zero, List.set_cons_succ, i64_w, i32_w]
                 rfl
                refine pure_ (i := 3) (N := some 61) (v := ?_) (a' := ?_) #[false, true, true, true, false, false, false, false, false] rfl rfl (any_of HT_.out (by kernel_rfl)) (fun _ _ _ h => h) (Or.inl ⟨by rfl, ?_⟩) ?_ ?_
                rotate_left
                ·intro w'
                 go_simp
                 with_reducible rfl
                rotate_left
                ·simp only [Act.put, List.setIfInBounds_toArray, List.set_cons_zero, List.set_cons_succ, i64_w, i32_w]
                 rfl
                refine take_ (i := 5) (N := some 63) (v := ?_) (a' := ?_) #[false, true, true, true, false, true, false, false, false] rfl rfl (take_ofW HT_.out HW_.out (by kernel_rfl)) (fun _ _ _ h => h) (Or.inl ⟨by rfl, ?_⟩) hHeld ?_ ?_
                rotate_left
                ·rintro w' ⟨s0, s1⟩
                 go_simp
                 with_reducible rfl
                rotate_left
                ·simp only [Act.put, List.setIfInBounds_toArray, List.set_cons_zero, List.set_cons_succ, i64_w, i32_w]
                 rfl
                refine join_ (σ := Value × Value × Value) 2 (pT 9 7) (fun s_ => [(58, s_.1), (62, s_.2.1), (64, s_.2.2)]) (fun s_ w' => (w'.cell? ⟨gb138, 0, none⟩ = some (.int .i64 t135) ∧ w'.cell? ⟨gb138, 1, none⟩ = some (.int .i64 t136)) ∧ (Kd.R k26 26 w' w.heap.size (fun k_ => some k_ ≠ (s_.2.2 : Value).ownBlock ∧ some k_ ≠ (.slice Ao66 x6_2.length co66 : Value).ownBlock ∧ k_ ≠ gb129 ∧ k_ ≠ gb138) s_.2.1 y171) ∧ (Kd.R k26 26 w' w.heap.size (fun k_ => some k_ ≠ (s_.2.1 : Value).ownBlock ∧ some k_ ≠ (.slice Ao66 x6_2.length co66 : Value).ownBlock ∧ k_ ≠ gb129 ∧ k_ ≠ gb138) s_.2.2 y174) ∧ (Kd.R k26 26 w' w.heap.size (fun k_ => some k_ ≠ (s_.2.1 : Value).ownBlock ∧ some k_ ≠ (s_.2.2 : Value).ownBlock ∧ k_ ≠ gb129 ∧ k_ ≠ gb138) (.slice Ao66 x6_2.length co66) x6_2) ∧ (w'.heap[gb129]? = some (.cells #[.int .i64 a1_0, .int .i64 a1_1] 26 (0, 0))) ∧ (w'.heap[gb133]? = some (.cells #[.int .i64 ((rd_T30 l0 x28_2).f0.f0), .int .i64 ((rd_T30 l0 x28_2).f0.f1), .int .i64 ((rd_T30 l0 x28_2).f1)] 30 (0, 0))) ∧ (w'.heap[gb138]? = some (.cells #[.int .i64 t135, .int .i64 t136] 26 (0, 0))) ∧ (Below w.heap.size w w')) ?_ ?_
                rotate_left
                ·intro hCont
                 refine two_ (i := 0) (j := 6) (Ni := some 58) (Nj := some 64) #[true, true, true, true, false, true, false, false, false] #[false, true, true, true, false, true, true, false, false] rfl rfl rfl rfl (two_of HT_.out (by kernel_rfl)) (by decide) (by decide) (fun K hK => ?_) (fun K hK => ?_)
                 ·skip
                  refine Kd.R_lit_step k26 _ 26 ?hg (N := 58) ?hd (xs := ([] : List (S26))) (inner := []) (ok := fun _ => True) (okp := fun _ => True) ?hr ?hp (fun _ hk => hk) trivial (Below.refl _ _) (Nat.le_refl _) (by simp) ?_; (case hd => rfl); (case hg => rfl); (case hr => first | (go_simp; done) | (go_simp; rfl)); (case hp => exact (Reps.none _ _))
                  intro v165 w69 ho70 hb hg_ hnew_
                  clear hg_ hnew_
                  (first | rw [← Ny164.out] at ho70 | (simp only [Int.reduceToNat] at ho70; rw [← Ny164.out] at ho70))
                  have n0_ := Am (Kd.R_elder' (by (with_reducible repeat (first | apply Kd.R_alloc | apply Kd.R_drewN | apply Kd.R_drew)); exact HO_6.out) (Kd.R_base ho70) hb)
                  have n1_ := Am (Kd.R_lower (Kd.R_newB (Kd.R_newB (Kd.R_new' ho70 (Kd.R_lt (by (with_reducible repeat (first | apply Kd.R_alloc | apply Kd.R_drewN | apply Kd.R_drew)); exact HO_6.out))) (g := gb129) (o := .cells #[.int .i64 a1_0, .int .i64 a1_1] 26 (0, 0)) (by (with_reducible repeat (first | refine kN ?_ _ | refine kD ?_ | refine kA ?_ _)); exact BK129.out)) (g := gb138) (o := .cells #[.int .i64 t135, .int .i64 t136] 26 (0, 0)) (by (with_reducible repeat (first | refine kN ?_ _ | refine kD ?_ | refine kA ?_ _)); exact BK138.out)) (bZ (by repeat (first | (with_reducible first | exact HB.out | apply bA | apply bN | apply bD | refine bX ?_ (by assumption)) | exact HB.out))))
                  have hp0 := hpA BK129.out hb (fun _ _ h_ => by (with_reducible repeat (first | refine kN ?_ _ | refine kD ?_ | refine kA ?_ _)); exact h_)
                  have n5_ := Am (Kd.C_below (by repeat (first | (with_reducible exact HR170.out) | (with_reducible refine Kd.C_alloc ?_ _) | (with_reducible refine Kd.C_drewN ?_ _) | (with_reducible refine Kd.C_drew ?_) | exact HR170.out)) hb)
                  have hv := hvK (w := w) hb (by repeat (first | (with_reducible first | exact HB.out | apply bA | apply bN | apply bD | refine bX ?_ (by assumption)) | exact HB.out))
                  have n6_ := Am (bT hv hb)
                  clear HO_6 HR170 HB
                  have HO_6 := n0_; have HO166 := n1_
                  replace BK129 := hp0 BK129; replace BK133 := hp0 BK133; replace BK138 := hp0 BK138
                  have HR170 := n5_; have HB := n6_
                  clear n0_ n1_ n5_ n6_ hp0 hv hb ho70
                  refine hK.out _ _ ⟨c20 BK138.out, c21 BK138.out⟩ (fun hHeld => ?_)
                  clear hK K
                  refine norm_ (a' := ?_) ?_ ?_
                  rotate_left
                  ·show Act.put _ (some 58) _ = _
                   simp only [Act.put, List.setIfInBounds_toArray, List.set_cons_zero, List.set_cons_succ, i64_w, i32_w]
                   rfl
                  refine two_ (i := 4) (j := 6) (Ni := some 62) (Nj := some 64) (pT 9 6) #[true, true, true, true, false, true, true, false, false] rfl rfl rfl rfl (two_of HT_.out (by kernel_rfl)) (by decide) (by decide) (fun K hK => ?_) (fun K hK => ?_)
                  ·skip
                   refine Kd.R_append_rows_step k26 (w0 := w) w.heap.size (by rfl) (.tmp 58) (.tmp 61) 35 26 (.agg #[(.int .i64 0), (.int .i64 0)]) 16 rfl Try.underlying35 info26 rfl (by decide) (by omega) v165 y164 y167 _ _ _ (fun k_ => some k_ ≠ (.slice Ao66 x6_2.length co66 : Value).ownBlock ∧ k_ ≠ gb129 ∧ k_ ≠ gb138) (fun _ => False) rfl rfl ?aO ?aR (fun _ _ h => h) (fun _ h => h.elim) ?aF ?aB ?aS ?aL ?_
                   (case aR => repeat (first | exact (by repeat (first | (with_reducible exact HR170.out) | (with_reducible refine Kd.C_alloc ?_ _) | (with_reducible refine Kd.C_drewN ?_ _) | (with_reducible refine Kd.C_drew ?_) | exact HR170.out)) | (with_reducible refine Kd.C_alloc ?_ _) | (with_reducible refine Kd.C_drewN ?_ _) | (with_reducible refine Kd.C_drew ?_)))
                   (case aB => exact (by repeat (first | (with_reducible first | exact HB.out | apply bA | apply bN | apply bD | refine bX ?_ (by assumption)) | exact HB.out)))
                   (case aF => exact (fun k_ hk => ⟨Kd.fresh' (Kd.R_lt (by (with_reducible repeat (first | apply Kd.R_alloc | apply Kd.R_drewN | apply Kd.R_drew)); exact HO_6.out)) k_ hk, Kd.freshB (g := gb129) (o := .cells #[.int .i64 a1_0, .int .i64 a1_1] 26 (0, 0)) (by (with_reducible repeat (first | refine kN ?_ _ | refine kD ?_ | refine kA ?_ _)); exact BK129.out) k_ hk, Kd.freshB (g := gb138) (o := .cells #[.int .i64 t135, .int .i64 t136] 26 (0, 0)) (by (with_reducible repeat (first | refine kN ?_ _ | refine kD ?_ | refine kA ?_ _)); exact BK138.out) k_ hk⟩))
                   (case aO => exact (by (with_reducible repeat (first | apply Kd.R_alloc | apply Kd.R_drewN | apply Kd.R_drew)); exact Kd.R_mono HO166.out (fun _ hk => ⟨hk.1.1.2, ⟨hk.1.2, hk.2⟩⟩)))
                   (case aS => exact (bZ (by repeat (first | (with_reducible first | exact HB.out | apply bA | apply bN | apply bD | refine bX ?_ (by assumption)) | exact HB.out))))
                   (case aL => have := LMc60.out; omega)
                   intro v172 w71 ho hb hg hat
                   rw [← Ny171.out] at ho
                   have n0_ := Am (Kd.R_after (ok := (fun k_ => k_ ≠ gb129 ∧ k_ ≠ gb138)) (by (with_reducible repeat (first | apply Kd.R_alloc | apply Kd.R_drewN | apply Kd.R_drew)); exact HO_6.out) hg hat)
                   have n1_ := Am (blk_grown (g := gb129) (o := .cells #[.int .i64 a1_0, .int .i64 a1_1] 26 (0, 0)) (by (with_reducible repeat (first | refine kN ?_ _ | refine kD ?_ | refine kA ?_ _)); exact BK129.out) hg (Kd.R_away HO166.out (fun _ hk => hk.1.2)))
                   have n2_ := Am (blk_grown (g := gb133) (o := .cells #[.int .i64 ((rd_T30 l0 x28_2).f0.f0), .int .i64 ((rd_T30 l0 x28_2).f0.f1), .int .i64 ((rd_T30 l0 x28_2).f1)] 30 (0, 0)) (by (with_reducible repeat (first | refine kN ?_ _ | refine kD ?_ | refine kA ?_ _)); exact BK133.out) hg (Kd.R_ne HO166.out BK133.out (by decide)))
                   have n3_ := Am (blk_grown (g := gb138) (o := .cells #[.int .i64 t135, .int .i64 t136] 26 (0, 0)) (by (with_reducible repeat (first | refine kN ?_ _ | refine kD ?_ | refine kA ?_ _)); exact BK138.out) hg (Kd.R_away HO166.out (fun _ hk => hk.2)))
                   have n4_ := Am (hb)
                   have n5_ := Am ((show Kd.C k26 w71 Ao66 y167.length y167 from by rw [Ny167.out]; exact Kd.C_take (m := (x11_3 : Int).toNat) ((Kd.R_reads' (Kd.R_after (ok := (fun k_ => k_ ≠ gb129 ∧ k_ ≠ gb138)) (by (with_reducible repeat (first | apply Kd.R_alloc | apply Kd.R_drewN | apply Kd.R_drew)); exact HO_6.out) hg hat)).2.2) KL68.out))
                   have n6_ := Am (ho)
                   clear HO_6 BK129 BK133 BK138 HB HR170 HO166
                   have HO_6 := n0_; have BK129 := n1_; have BK133 := n2_; have BK138 := n3_; have HB := n4_; have HR170 := n5_; have HO173 := n6_
                   clear n0_ n1_ n2_ n3_ n4_ n5_ n6_ ho hb hg hat
                   refine hK.out _ _ ⟨c20 BK138.out, c21 BK138.out⟩ (fun hHeld => ?_)
                   clear hK K
                   refine norm_ (a' := ?_) ?_ ?_
                   rotate_left
                   ·show Act.put _ (some 62) _ = _
                    simp only [Act.put, List.setIfInBounds_toArray, List.set_cons_zero, List.set_cons_succ, i64_w, i32_w]
                    rfl
                   refine one_ (i := 6) (N := some 64) (pT 9 7) rfl rfl (one_of HT_.out (by kernel_rfl)) (by decide) (fun K hK => ?_)
                   refine Kd.R_lit_step k26 _ 26 ?hg (N := 64) ?hd (xs := ([(⟨t135, t136⟩ : S26)] : List (S26))) (inner := [.int .i64 t135, .int .i64 t136]) (ok := fun _ => True) (okp := fun _ => True) ?hr ?hp (fun _ hk => hk) trivial (Below.refl _ _) (Nat.le_refl _) (by simp) ?_; (case hd => rfl); (case hg => rfl); (case hr => first | (go_simp; done) | (go_simp; rfl)); (case hp => exact (Reps.c2 (show Kd.M k26 _ _ _ (⟨t135, t136⟩ : S26) [.int .i64 t135, .int .i64 t136] from (k26_mkM _ _ _ (⟨t135, t136⟩ : S26) )) (Reps.none _ _)))
                   intro v175 w72 ho73 hb hg_ hnew_
                   clear hg_ hnew_
                   (first | rw [← Ny174.out] at ho73 | (simp only [Int.reduceToNat] at ho73; rw [← Ny174.out] at ho73))
                   have n0_ := Am (Kd.R_elder' (by (with_reducible repeat (first | apply Kd.R_alloc | apply Kd.R_drewN | apply Kd.R_drew)); exact HO_6.out) (Kd.R_base ho73) hb)
                   have n1_ := Am (Kd.R_elder' (by (with_reducible repeat (first | apply Kd.R_alloc | apply Kd.R_drewN | apply Kd.R_drew)); exact HO173.out) (Kd.R_base ho73) hb)
                   have n2_ := Am (Kd.R_lower (Kd.R_newB (Kd.R_newB (Kd.R_new' (Kd.R_new' ho73 (Kd.R_lt (by (with_reducible repeat (first | apply Kd.R_alloc | apply Kd.R_drewN | apply Kd.R_drew)); exact HO_6.out))) (Kd.R_lt (by (with_reducible repeat (first | apply Kd.R_alloc | apply Kd.R_drewN | apply Kd.R_drew)); exact HO173.out))) (g := gb129) (o := .cells #[.int .i64 a1_0, .int .i64 a1_1] 26 (0, 0)) (by (with_reducible repeat (first | refine kN ?_ _ | refine kD ?_ | refine kA ?_ _)); exact BK129.out)) (g := gb138) (o := .cells #[.int .i64 t135, .int .i64 t136] 26 (0, 0)) (by (with_reducible repeat (first | refine kN ?_ _ | refine kD ?_ | refine kA ?_ _)); exact BK138.out)) (bZ (by repeat (first | (with_reducible first | exact HB.out | apply bA | apply bN | apply bD | refine bX ?_ (by assumption)) | exact HB.out))))
                   have hp0 := hpA BK129.out hb (fun _ _ h_ => by (with_reducible repeat (first | refine kN ?_ _ | refine kD ?_ | refine kA ?_ _)); exact h_)
                   have n6_ := Am (Kd.C_below (by repeat (first | (with_reducible exact HR170.out) | (with_reducible refine Kd.C_alloc ?_ _) | (with_reducible refine Kd.C_drewN ?_ _) | (with_reducible refine Kd.C_drew ?_) | exact HR170.out)) hb)
                   have hv := hvK (w := w) hb (by repeat (first | (with_reducible first | exact HB.out | apply bA | apply bN | apply bD | refine bX ?_ (by assumption)) | exact HB.out))
                   have n7_ := Am (bT hv hb)
                   clear HO_6 HO173 HR170 HB
                   have HO_6 := n0_; have HO173 := n1_; have HO176 := n2_
                   replace BK129 := hp0 BK129; replace BK133 := hp0 BK133; replace BK138 := hp0 BK138
                   have HR170 := n6_; have HB := n7_
                   clear n0_ n1_ n2_ n6_ n7_ hp0 hv hb ho73
                   refine hK.out _ _ ⟨c20 BK138.out, c21 BK138.out⟩ (fun hHeld => ?_)
                   clear hK K
                   refine norm_ (a' := ?_) ?_ ?_
                   rotate_left
                   ·show Act.put _ (some 64) _ = _
                    simp only [Act.put, List.setIfInBounds_toArray, List.set_cons_zero, List.set_cons_succ, i64_w, i32_w]
                    rfl
                   exact norm_ (by simp only [putAll, Act.put, List.setIfInBounds_toArray, List.set_cons_zero, List.set_cons_succ]) (hCont (v165, v172, v175) _ ⟨hHeld, (by (with_reducible repeat (first | apply Kd.R_alloc | apply Kd.R_drewN | apply Kd.R_drew)); exact Kd.R_mono HO173.out (fun _ hk => ⟨hk.2, ⟨hk.1.1, ⟨hk.1.2.1, hk.1.2.2⟩⟩⟩)), (by (with_reducible repeat (first | apply Kd.R_alloc | apply Kd.R_drewN | apply Kd.R_drew)); exact Kd.R_mono HO176.out (fun _ hk => ⟨hk.1.1.2, ⟨hk.1.1.1.2, ⟨hk.1.2, hk.2⟩⟩⟩)), (by (with_reducible repeat (first | apply Kd.R_alloc | apply Kd.R_drewN | apply Kd.R_drew)); exact Kd.R_mono HO_6.out (fun _ hk => ⟨hk.1.2, ⟨hk.2, ⟨hk.1.1.1, hk.1.1.2⟩⟩⟩)), (by (with_reducible repeat (first | refine kN ?_ _ | refine kD ?_ | refine kA ?_ _)); exact BK129.out), (by (with_reducible repeat (first | refine kN ?_ _ | refine kD ?_ | refine kA ?_ _)); exact BK133.out), (by (with_reducible repeat (first | refine kN ?_ _ | refine kD ?_ | refine kA ?_ _)); exact BK138.out), (by repeat (first | (with_reducible first | exact HB.out | apply bA | apply bN | apply bD | refine bX ?_ (by assumption)) | exact HB.out))⟩)
                  skip
                  refine Kd.R_lit_step k26 _ 26 ?hg (N := 64) ?hd (xs := ([(⟨t135, t136⟩ : S26)] : List (S26))) (inner := [.int .i64 t135, .int .i64 t136]) (ok := fun _ => True) (okp := fun _ => True) ?hr ?hp (fun _ hk => hk) trivial (Below.refl _ _) (Nat.le_refl _) (by simp) ?_; (case hd => rfl); (case hg => rfl); (case hr => first | (go_simp; done) | (go_simp; rfl)); (case hp => exact (Reps.c2 (show Kd.M k26 _ _ _ (⟨t135, t136⟩ : S26) [.int .i64 t135, .int .i64 t136] from (k26_mkM _ _ _ (⟨t135, t136⟩ : S26) )) (Reps.none _ _)))
                  intro v175 w71 ho72 hb hg_ hnew_
                  clear hg_ hnew_
                  (first | rw [← Ny174.out] at ho72 | (simp only [Int.reduceToNat] at ho72; rw [← Ny174.out] at ho72))
                  have n0_ := Am (Kd.R_elder' (by (with_reducible repeat (first | apply Kd.R_alloc | apply Kd.R_drewN | apply Kd.R_drew)); exact HO_6.out) (Kd.R_base ho72) hb)
                  have n1_ := Am (Kd.R_elder' (by (with_reducible repeat (first | apply Kd.R_alloc | apply Kd.R_drewN | apply Kd.R_drew)); exact HO166.out) (Kd.R_base ho72) hb)
                  have n2_ := Am (Kd.R_lower (Kd.R_newB (Kd.R_newB (Kd.R_new' (Kd.R_new' ho72 (Kd.R_lt (by (with_reducible repeat (first | apply Kd.R_alloc | apply Kd.R_drewN | apply Kd.R_drew)); exact HO_6.out))) (Kd.R_lt (by (with_reducible repeat (first | apply Kd.R_alloc | apply Kd.R_drewN | apply Kd.R_drew)); exact HO166.out))) (g := gb129) (o := .cells #[.int .i64 a1_0, .int .i64 a1_1] 26 (0, 0)) (by (with_reducible repeat (first | refine kN ?_ _ | refine kD ?_ | refine kA ?_ _)); exact BK129.out)) (g := gb138) (o := .cells #[.int .i64 t135, .int .i64 t136] 26 (0, 0)) (by (with_reducible repeat (first | refine kN ?_ _ | refine kD ?_ | refine kA ?_ _)); exact BK138.out)) (bZ (by repeat (first | (with_reducible first | exact HB.out | apply bA | apply bN | apply bD | refine bX ?_ (by assumption)) | exact HB.out))))
                  have hp0 := hpA BK129.out hb (fun _ _ h_ => by (with_reducible repeat (first | refine kN ?_ _ | refine kD ?_ | refine kA ?_ _)); exact h_)
                  have n6_ := Am (Kd.C_below (by repeat (first | (with_reducible exact HR170.out) | (with_reducible refine Kd.C_alloc ?_ _) | (with_reducible refine Kd.C_drewN ?_ _) | (with_reducible refine Kd.C_drew ?_) | exact HR170.out)) hb)
                  have hv := hvK (w := w) hb (by repeat (first | (with_reducible first | exact HB.out | apply bA | apply bN | apply bD | refine bX ?_ (by assumption)) | exact HB.out))
                  have n7_ := Am (bT hv hb)
                  clear HO_6 HO166 HR170 HB
                  have HO_6 := n0_; have HO166 := n1_; have HO176 := n2_
                  replace BK129 := hp0 BK129; replace BK133 := hp0 BK133; replace BK138 := hp0 BK138
                  have HR170 := n6_; have HB := n7_
                  clear n0_ n1_ n2_ n6_ n7_ hp0 hv hb ho72
                  refine hK.out _ _ ⟨c20 BK138.out, c21 BK138.out⟩ (fun hHeld => ?_)
                  clear hK K
                  refine norm_ (a' := ?_) ?_ ?_
                  rotate_left
                  ·show Act.put _ (some 64) _ = _
                   simp only [Act.put, List.setIfInBounds_toArray, List.set_cons_zero, List.set_cons_succ, i64_w, i32_w]
                   rfl
                  refine one_ (i := 4) (N := some 62) (pT 9 7) rfl rfl (one_of HT_.out (by kernel_rfl)) (by decide) (fun K hK => ?_)
                  refine Kd.R_append_rows_step k26 (w0 := w) w.heap.size (by rfl) (.tmp 58) (.tmp 61) 35 26 (.agg #[(.int .i64 0), (.int .i64 0)]) 16 rfl Try.underlying35 info26 rfl (by decide) (by omega) v165 y164 y167 _ _ _ (fun k_ => some k_ ≠ (.slice Ao66 x6_2.length co66 : Value).ownBlock ∧ some k_ ≠ (v175 : Value).ownBlock ∧ k_ ≠ gb129 ∧ k_ ≠ gb138) (fun _ => False) rfl rfl ?aO ?aR (fun _ _ h => h) (fun _ h => h.elim) ?aF ?aB ?aS ?aL ?_
                  (case aR => repeat (first | exact (by repeat (first | (with_reducible exact HR170.out) | (with_reducible refine Kd.C_alloc ?_ _) | (with_reducible refine Kd.C_drewN ?_ _) | (with_reducible refine Kd.C_drew ?_) | exact HR170.out)) | (with_reducible refine Kd.C_alloc ?_ _) | (with_reducible refine Kd.C_drewN ?_ _) | (with_reducible refine Kd.C_drew ?_)))
                  (case aB => exact (by repeat (first | (with_reducible first | exact HB.out | apply bA | apply bN | apply bD | refine bX ?_ (by assumption)) | exact HB.out)))
                  (case aF => exact (fun k_ hk => ⟨Kd.fresh' (Kd.R_lt (by (with_reducible repeat (first | apply Kd.R_alloc | apply Kd.R_drewN | apply Kd.R_drew)); exact HO_6.out)) k_ hk, Kd.fresh' (Kd.R_lt (by (with_reducible repeat (first | apply Kd.R_alloc | apply Kd.R_drewN | apply Kd.R_drew)); exact HO176.out)) k_ hk, Kd.freshB (g := gb129) (o := .cells #[.int .i64 a1_0, .int .i64 a1_1] 26 (0, 0)) (by (with_reducible repeat (first | refine kN ?_ _ | refine kD ?_ | refine kA ?_ _)); exact BK129.out) k_ hk, Kd.freshB (g := gb138) (o := .cells #[.int .i64 t135, .int .i64 t136] 26 (0, 0)) (by (with_reducible repeat (first | refine kN ?_ _ | refine kD ?_ | refine kA ?_ _)); exact BK138.out) k_ hk⟩))
                  (case aO => exact (by (with_reducible repeat (first | apply Kd.R_alloc | apply Kd.R_drewN | apply Kd.R_drew)); exact Kd.R_mono HO166.out (fun _ hk => ⟨hk.1.1.1.2, ⟨hk.2, ⟨hk.1.1.2, hk.1.2⟩⟩⟩)))
                  (case aS => exact (bZ (by repeat (first | (with_reducible first | exact HB.out | apply bA | apply bN | apply bD | refine bX ?_ (by assumption)) | exact HB.out))))
                  (case aL => have := LMc60.out; omega)
                  intro v172 w73 ho hb hg hat
                  rw [← Ny171.out] at ho
                  have n0_ := Am (Kd.R_after (ok := (fun k_ => some k_ ≠ (v175 : Value).ownBlock ∧ k_ ≠ gb129 ∧ k_ ≠ gb138)) (by (with_reducible repeat (first | apply Kd.R_alloc | apply Kd.R_drewN | apply Kd.R_drew)); exact Kd.R_mono HO_6.out (fun _ hk => ⟨⟨hk.2, ⟨hk.1.1.1, hk.1.1.2⟩⟩, hk.1.2⟩)) hg hat)
                  have n1_ := Am (blk_grown (g := gb129) (o := .cells #[.int .i64 a1_0, .int .i64 a1_1] 26 (0, 0)) (by (with_reducible repeat (first | refine kN ?_ _ | refine kD ?_ | refine kA ?_ _)); exact BK129.out) hg (Kd.R_away HO166.out (fun _ hk => hk.1.1.2)))
                  have n2_ := Am (blk_grown (g := gb133) (o := .cells #[.int .i64 ((rd_T30 l0 x28_2).f0.f0), .int .i64 ((rd_T30 l0 x28_2).f0.f1), .int .i64 ((rd_T30 l0 x28_2).f1)] 30 (0, 0)) (by (with_reducible repeat (first | refine kN ?_ _ | refine kD ?_ | refine kA ?_ _)); exact BK133.out) hg (Kd.R_ne HO166.out BK133.out (by decide)))
                  have n3_ := Am (blk_grown (g := gb138) (o := .cells #[.int .i64 t135, .int .i64 t136] 26 (0, 0)) (by (with_reducible repeat (first | refine kN ?_ _ | refine kD ?_ | refine kA ?_ _)); exact BK138.out) hg (Kd.R_away HO166.out (fun _ hk => hk.1.2)))
                  have n4_ := Am (Kd.R_after (ok := (fun k_ => some k_ ≠ (.slice Ao66 x6_2.length co66 : Value).ownBlock ∧ k_ ≠ gb129 ∧ k_ ≠ gb138)) (by (with_reducible repeat (first | apply Kd.R_alloc | apply Kd.R_drewN | apply Kd.R_drew)); exact Kd.R_mono HO176.out (fun _ hk => ⟨⟨hk.1.1.1.2, ⟨hk.1.2, hk.2⟩⟩, hk.1.1.2⟩)) hg hat)
                  have n5_ := Am (hb)
                  have n6_ := Am ((show Kd.C k26 w73 Ao66 y167.length y167 from by rw [Ny167.out]; exact Kd.C_take (m := (x11_3 : Int).toNat) ((Kd.R_reads' (Kd.R_after (ok := (fun k_ => some k_ ≠ (v175 : Value).ownBlock ∧ k_ ≠ gb129 ∧ k_ ≠ gb138)) (by (with_reducible repeat (first | apply Kd.R_alloc | apply Kd.R_drewN | apply Kd.R_drew)); exact Kd.R_mono HO_6.out (fun _ hk => ⟨⟨hk.2, ⟨hk.1.1.1, hk.1.1.2⟩⟩, hk.1.2⟩)) hg hat)).2.2) KL68.out))
                  have n7_ := Am (ho)
                  clear HO_6 BK129 BK133 BK138 HO176 HB HR170 HO166
                  have HO_6 := n0_; have BK129 := n1_; have BK133 := n2_; have BK138 := n3_; have HO176 := n4_; have HB := n5_; have HR170 := n6_; have HO173 := n7_
                  clear n0_ n1_ n2_ n3_ n4_ n5_ n6_ n7_ ho hb hg hat
                  refine hK.out _ _ ⟨c20 BK138.out, c21 BK138.out⟩ (fun hHeld => ?_)
                  clear hK K
                  refine norm_ (a' := ?_) ?_ ?_
                  rotate_left
                  ·show Act.put _ (some 62) _ = _
                   simp only [Act.put, List.setIfInBounds_toArray, List.set_cons_zero, List.set_cons_succ, i64_w, i32_w]
                   rfl
                  exact norm_ (by simp only [putAll, Act.put, List.setIfInBounds_toArray, List.set_cons_zero, List.set_cons_succ]) (hCont (v165, v172, v175) _ ⟨hHeld, (by (with_reducible repeat (first | apply Kd.R_alloc | apply Kd.R_drewN | apply Kd.R_drew)); exact Kd.R_mono HO173.out (fun _ hk => ⟨hk.2.1, ⟨hk.1, ⟨hk.2.2.1, hk.2.2.2⟩⟩⟩)), (by (with_reducible repeat (first | apply Kd.R_alloc | apply Kd.R_drewN | apply Kd.R_drew)); exact Kd.R_mono HO176.out (fun _ hk => ⟨hk.2, ⟨hk.1.1, ⟨hk.1.2.1, hk.1.2.2⟩⟩⟩)), (by (with_reducible repeat (first | apply Kd.R_alloc | apply Kd.R_drewN | apply Kd.R_drew)); exact Kd.R_mono HO_6.out (fun _ hk => ⟨hk.2, ⟨hk.1.1, ⟨hk.1.2.1, hk.1.2.2⟩⟩⟩)), (by (with_reducible repeat (first | refine kN ?_ _ | refine kD ?_ | refine kA ?_ _)); exact BK129.out), (by (with_reducible repeat (first | refine kN ?_ _ | refine kD ?_ | refine kA ?_ _)); exact BK133.out), (by (with_reducible repeat (first | refine kN ?_ _ | refine kD ?_ | refine kA ?_ _)); exact BK138.out), (by repeat (first | (with_reducible first | exact HB.out | apply bA | apply bN | apply bD | refine bX ?_ (by assumption)) | exact HB.out))⟩)
                 skip
                 refine Kd.R_lit_step k26 _ 26 ?hg (N := 64) ?hd (xs := ([(⟨t135, t136⟩ : S26)] : List (S26))) (inner := [.int .i64 t135, .int .i64 t136]) (ok := fun _ => True) (okp := fun _ => True) ?hr ?hp (fun _ hk => hk) trivial (Below.refl _ _) (Nat.le_refl _) (by simp) ?_; (case hd => rfl); (case hg => rfl); (case hr => first | (go_simp; done) | (go_simp; rfl)); (case hp => exact (Reps.c2 (show Kd.M k26 _ _ _ (⟨t135, t136⟩ : S26) [.int .i64 t135, .int .i64 t136] from (k26_mkM _ _ _ (⟨t135, t136⟩ : S26) )) (Reps.none _ _)))
                 intro v175 w69 ho70 hb hg_ hnew_
                 clear hg_ hnew_
                 (first | rw [← Ny174.out] at ho70 | (simp only [Int.reduceToNat] at ho70; rw [← Ny174.out] at ho70))
                 have n0_ := Am (Kd.R_elder' (by (with_reducible repeat (first | apply Kd.R_alloc | apply Kd.R_drewN | apply Kd.R_drew)); exact HO_6.out) (Kd.R_base ho70) hb)
                 have n1_ := Am (Kd.R_lower (Kd.R_newB (Kd.R_newB (Kd.R_new' ho70 (Kd.R_lt (by (with_reducible repeat (first | apply Kd.R_alloc | apply Kd.R_drewN | apply Kd.R_drew)); exact HO_6.out))) (g := gb129) (o := .cells #[.int .i64 a1_0, .int .i64 a1_1] 26 (0, 0)) (by (with_reducible repeat (first | refine kN ?_ _ | refine kD ?_ | refine kA ?_ _)); exact BK129.out)) (g := gb138) (o := .cells #[.int .i64 t135, .int .i64 t136] 26 (0, 0)) (by (with_reducible repeat (first | refine kN ?_ _ | refine kD ?_ | refine kA ?_ _)); exact BK138.out)) (bZ (by repeat (first | (with_reducible first | exact HB.out | apply bA | apply bN | apply bD | refine bX ?_ (by assumption)) | exact HB.out))))
                 have hp0 := hpA BK129.out hb (fun _ _ h_ => by (with_reducible repeat (first | refine kN ?_ _ | refine kD ?_ | refine kA ?_ _)); exact h_)
                 have n5_ := Am (Kd.C_below (by repeat (first | (with_reducible exact HR170.out) | (with_reducible refine Kd.C_alloc ?_ _) | (with_reducible refine Kd.C_drewN ?_ _) | (with_reducible refine Kd.C_drew ?_) | exact HR170.out)) hb)
                 have hv := hvK (w := w) hb (by repeat (first | (with_reducible first | exact HB.out | apply bA | apply bN | apply bD | refine bX ?_ (by assumption)) | exact HB.out))
                 have n6_ := Am (bT hv hb)
                 clear HO_6 HR170 HB
                 have HO_6 := n0_; have HO176 := n1_
                 replace BK129 := hp0 BK129; replace BK133 := hp0 BK133; replace BK138 := hp0 BK138
                 have HR170 := n5_; have HB := n6_
                 clear n0_ n1_ n5_ n6_ hp0 hv hb ho70
                 refine hK.out _ _ ⟨c20 BK138.out, c21 BK138.out⟩ (fun hHeld => ?_)
                 clear hK K
                 refine norm_ (a' := ?_) ?_ ?_
                 rotate_left
                 ·show Act.put _ (some 64) _ = _
                  simp only [Act.put, List.setIfInBounds_toArray, List.set_cons_zero, List.set_cons_succ, i64_w, i32_w]
                  rfl
                 refine one_ (i := 0) (N := some 58) #[true, true, true, true, false, true, true, false, false] rfl rfl (one_of HT_.out (by kernel_rfl)) (by decide) (fun K hK => ?_)
                 refine Kd.R_lit_step k26 _ 26 ?hg (N := 58) ?hd (xs := ([] : List (S26))) (inner := []) (ok := fun _ => True) (okp := fun _ => True) ?hr ?hp (fun _ hk => hk) trivial (Below.refl _ _) (Nat.le_refl _) (by simp) ?_; (case hd => rfl); (case hg => rfl); (case hr => first | (go_simp; done) | (go_simp; rfl)); (case hp => exact (Reps.none _ _))
                 intro v165 w71 ho72 hb hg_ hnew_
                 clear hg_ hnew_
                 (first | rw [← Ny164.out] at ho72 | (simp only [Int.reduceToNat] at ho72; rw [← Ny164.out] at ho72))
                 have n0_ := Am (Kd.R_elder' (by (with_reducible repeat (first | apply Kd.R_alloc | apply Kd.R_drewN | apply Kd.R_drew)); exact HO_6.out) (Kd.R_base ho72) hb)
                 have n1_ := Am (Kd.R_elder' (by (with_reducible repeat (first | apply Kd.R_alloc | apply Kd.R_drewN | apply Kd.R_drew)); exact HO176.out) (Kd.R_base ho72) hb)
                 have n2_ := Am (Kd.R_lower (Kd.R_newB (Kd.R_newB (Kd.R_new' (Kd.R_new' ho72 (Kd.R_lt (by (with_reducible repeat (first | apply Kd.R_alloc | apply Kd.R_drewN | apply Kd.R_drew)); exact HO_6.out))) (Kd.R_lt (by (with_reducible repeat (first | apply Kd.R_alloc | apply Kd.R_drewN | apply Kd.R_drew)); exact HO176.out))) (g := gb129) (o := .cells #[.int .i64 a1_0, .int .i64 a1_1] 26 (0, 0)) (by (with_reducible repeat (first | refine kN ?_ _ | refine kD ?_ | refine kA ?_ _)); exact BK129.out)) (g := gb138) (o := .cells #[.int .i64 t135, .int .i64 t136] 26 (0, 0)) (by (with_reducible repeat (first | refine kN ?_ _ | refine kD ?_ | refine kA ?_ _)); exact BK138.out)) (bZ (by repeat (first | (with_reducible first | exact HB.out | apply bA | apply bN | apply bD | refine bX ?_ (by assumption)) | exact HB.out))))
                 have hp0 := hpA BK129.out hb (fun _ _ h_ => by (with_reducible repeat (first | refine kN ?_ _ | refine kD ?_ | refine kA ?_ _)); exact h_)
                 have n6_ := Am (Kd.C_below (by repeat (first | (with_reducible exact HR170.out) | (with_reducible refine Kd.C_alloc ?_ _) | (with_reducible refine Kd.C_drewN ?_ _) | (with_reducible refine Kd.C_drew ?_) | exact HR170.out)) hb)
                 have hv := hvK (w := w) hb (by repeat (first | (with_reducible first | exact HB.out | apply bA | apply bN | apply bD | refine bX ?_ (by assumption)) | exact HB.out))
                 have n7_ := Am (bT hv hb)
                 clear HO_6 HO176 HR170 HB
                 have HO_6 := n0_; have HO176 := n1_; have HO166 := n2_
                 replace BK129 := hp0 BK129; replace BK133 := hp0 BK133; replace BK138 := hp0 BK138
                 have HR170 := n6_; have HB := n7_
                 clear n0_ n1_ n2_ n6_ n7_ hp0 hv hb ho72
                 refine hK.out _ _ ⟨c20 BK138.out, c21 BK138.out⟩ (fun hHeld => ?_)
                 clear hK K
                 refine norm_ (a' := ?_) ?_ ?_
                 rotate_left
                 ·show Act.put _ (some 58) _ = _
                  simp only [Act.put, List.setIfInBounds_toArray, List.set_cons_zero, List.set_cons_succ, i64_w, i32_w]
                  rfl
                 refine one_ (i := 4) (N := some 62) (pT 9 7) rfl rfl (one_of HT_.out (by kernel_rfl)) (by decide) (fun K hK => ?_)
                 refine Kd.R_append_rows_step k26 (w0 := w) w.heap.size (by rfl) (.tmp 58) (.tmp 61) 35 26 (.agg #[(.int .i64 0), (.int .i64 0)]) 16 rfl Try.underlying35 info26 rfl (by decide) (by omega) v165 y164 y167 _ _ _ (fun k_ => some k_ ≠ (.slice Ao66 x6_2.length co66 : Value).ownBlock ∧ some k_ ≠ (v175 : Value).ownBlock ∧ k_ ≠ gb129 ∧ k_ ≠ gb138) (fun _ => False) rfl rfl ?aO ?aR (fun _ _ h => h) (fun _ h => h.elim) ?aF ?aB ?aS ?aL ?_
                 (case aR => repeat (first | exact (by repeat (first | (with_reducible exact HR170.out) | (with_reducible refine Kd.C_alloc ?_ _) | (with_reducible refine Kd.C_drewN ?_ _) | (with_reducible refine Kd.C_drew ?_) | exact HR170.out)) | (with_reducible refine Kd.C_alloc ?_ _) | (with_reducible refine Kd.C_drewN ?_ _) | (with_reducible refine Kd.C_drew ?_)))
                 (case aB => exact (by repeat (first | (with_reducible first | exact HB.out | apply bA | apply bN | apply bD | refine bX ?_ (by assumption)) | exact HB.out)))
                 (case aF => exact (fun k_ hk => ⟨Kd.fresh' (Kd.R_lt (by (with_reducible repeat (first | apply Kd.R_alloc | apply Kd.R_drewN | apply Kd.R_drew)); exact HO_6.out)) k_ hk, Kd.fresh' (Kd.R_lt (by (with_reducible repeat (first | apply Kd.R_alloc | apply Kd.R_drewN | apply Kd.R_drew)); exact HO176.out)) k_ hk, Kd.freshB (g := gb129) (o := .cells #[.int .i64 a1_0, .int .i64 a1_1] 26 (0, 0)) (by (with_reducible repeat (first | refine kN ?_ _ | refine kD ?_ | refine kA ?_ _)); exact BK129.out) k_ hk, Kd.freshB (g := gb138) (o := .cells #[.int .i64 t135, .int .i64 t136] 26 (0, 0)) (by (with_reducible repeat (first | refine kN ?_ _ | refine kD ?_ | refine kA ?_ _)); exact BK138.out) k_ hk⟩))
                 (case aO => exact (by (with_reducible repeat (first | apply Kd.R_alloc | apply Kd.R_drewN | apply Kd.R_drew)); exact Kd.R_mono HO166.out (fun _ hk => ⟨hk.1.1.1.2, ⟨hk.1.1.2, ⟨hk.1.2, hk.2⟩⟩⟩)))
                 (case aS => exact (bZ (by repeat (first | (with_reducible first | exact HB.out | apply bA | apply bN | apply bD | refine bX ?_ (by assumption)) | exact HB.out))))
                 (case aL => have := LMc60.out; omega)
                 intro v172 w73 ho hb hg hat
                 rw [← Ny171.out] at ho
                 have n0_ := Am (Kd.R_after (ok := (fun k_ => some k_ ≠ (v175 : Value).ownBlock ∧ k_ ≠ gb129 ∧ k_ ≠ gb138)) (by (with_reducible repeat (first | apply Kd.R_alloc | apply Kd.R_drewN | apply Kd.R_drew)); exact Kd.R_mono HO_6.out (fun _ hk => ⟨⟨hk.1.2, ⟨hk.1.1.1, hk.1.1.2⟩⟩, hk.2⟩)) hg hat)
                 have n1_ := Am (blk_grown (g := gb129) (o := .cells #[.int .i64 a1_0, .int .i64 a1_1] 26 (0, 0)) (by (with_reducible repeat (first | refine kN ?_ _ | refine kD ?_ | refine kA ?_ _)); exact BK129.out) hg (Kd.R_away HO166.out (fun _ hk => hk.1.2)))
                 have n2_ := Am (blk_grown (g := gb133) (o := .cells #[.int .i64 ((rd_T30 l0 x28_2).f0.f0), .int .i64 ((rd_T30 l0 x28_2).f0.f1), .int .i64 ((rd_T30 l0 x28_2).f1)] 30 (0, 0)) (by (with_reducible repeat (first | refine kN ?_ _ | refine kD ?_ | refine kA ?_ _)); exact BK133.out) hg (Kd.R_ne HO166.out BK133.out (by decide)))
                 have n3_ := Am (blk_grown (g := gb138) (o := .cells #[.int .i64 t135, .int .i64 t136] 26 (0, 0)) (by (with_reducible repeat (first | refine kN ?_ _ | refine kD ?_ | refine kA ?_ _)); exact BK138.out) hg (Kd.R_away HO166.out (fun _ hk => hk.2)))
                 have n4_ := Am (Kd.R_after (ok := (fun k_ => some k_ ≠ (.slice Ao66 x6_2.length co66 : Value).ownBlock ∧ k_ ≠ gb129 ∧ k_ ≠ gb138)) (by (with_reducible repeat (first | apply Kd.R_alloc | apply Kd.R_drewN | apply Kd.R_drew)); exact Kd.R_mono HO176.out (fun _ hk => ⟨⟨hk.1.1.1.2, ⟨hk.1.1.2, hk.1.2⟩⟩, hk.2⟩)) hg hat)
                 have n5_ := Am (hb)
                 have n6_ := Am ((show Kd.C k26 w73 Ao66 y167.length y167 from by rw [Ny167.out]; exact Kd.C_take (m := (x11_3 : Int).toNat) ((Kd.R_reads' (Kd.R_after (ok := (fun k_ => some k_ ≠ (v175 : Value).ownBlock ∧ k_ ≠ gb129 ∧ k_ ≠ gb138)) (by (with_reducible repeat (first | apply Kd.R_alloc | apply Kd.R_drewN | apply Kd.R_drew)); exact Kd.R_mono HO_6.out (fun _ hk => ⟨⟨hk.1.2, ⟨hk.1.1.1, hk.1.1.2⟩⟩, hk.2⟩)) hg hat)).2.2) KL68.out))
                 have n7_ := Am (ho)
                 clear HO_6 BK129 BK133 BK138 HO176 HB HR170 HO166
                 have HO_6 := n0_; have BK129 := n1_; have BK133 := n2_; have BK138 := n3_; have HO176 := n4_; have HB := n5_; have HR170 := n6_; have HO173 := n7_
                 clear n0_ n1_ n2_ n3_ n4_ n5_ n6_ n7_ ho hb hg hat
                 refine hK.out _ _ ⟨c20 BK138.out, c21 BK138.out⟩ (fun hHeld => ?_)
                 clear hK K
                 refine norm_ (a' := ?_) ?_ ?_
                 rotate_left
                 ·show Act.put _ (some 62) _ = _
                  simp only [Act.put, List.setIfInBounds_toArray, List.set_cons_zero, List.set_cons_succ, i64_w, i32_w]
                  rfl
                 exact norm_ (by simp only [putAll, Act.put, List.setIfInBounds_toArray, List.set_cons_zero, List.set_cons_succ]) (hCont (v165, v172, v175) _ ⟨hHeld, (by (with_reducible repeat (first | apply Kd.R_alloc | apply Kd.R_drewN | apply Kd.R_drew)); exact Kd.R_mono HO173.out (fun _ hk => ⟨hk.2.1, ⟨hk.1, ⟨hk.2.2.1, hk.2.2.2⟩⟩⟩)), (by (with_reducible repeat (first | apply Kd.R_alloc | apply Kd.R_drewN | apply Kd.R_drew)); exact Kd.R_mono HO176.out (fun _ hk => ⟨hk.2, ⟨hk.1.1, ⟨hk.1.2.1, hk.1.2.2⟩⟩⟩)), (by (with_reducible repeat (first | apply Kd.R_alloc | apply Kd.R_drewN | apply Kd.R_drew)); exact Kd.R_mono HO_6.out (fun _ hk => ⟨hk.2, ⟨hk.1.1, ⟨hk.1.2.1, hk.1.2.2⟩⟩⟩)), (by (with_reducible repeat (first | refine kN ?_ _ | refine kD ?_ | refine kA ?_ _)); exact BK129.out), (by (with_reducible repeat (first | refine kN ?_ _ | refine kD ?_ | refine kA ?_ _)); exact BK133.out), (by (with_reducible repeat (first | refine kN ?_ _ | refine kD ?_ | refine kA ?_ _)); exact BK138.out), (by repeat (first | (with_reducible first | exact HB.out | apply bA | apply bN | apply bD | refine bX ?_ (by assumption)) | exact HB.out))⟩)
                rintro ⟨v165, v172, v175⟩ w74 ⟨hS_, h0_, h1_, h2_, h3_, h4_, h5_, h6_⟩
                have n0_ : Aside0 (Kd.R k26 26 w74 w.heap.size (fun k_ => some k_ ≠ (v175 : Value).ownBlock ∧ some k_ ≠ (.slice Ao66 x6_2.length co66 : Value).ownBlock ∧ k_ ≠ gb129 ∧ k_ ≠ gb138) v172 y171) := ⟨h0_⟩
                have n1_ : Aside0 (Kd.R k26 26 w74 w.heap.size (fun k_ => some k_ ≠ (v172 : Value).ownBlock ∧ some k_ ≠ (.slice Ao66 x6_2.length co66 : Value).ownBlock ∧ k_ ≠ gb129 ∧ k_ ≠ gb138) v175 y174) := ⟨h1_⟩
                have n2_ : Aside0 (Kd.R k26 26 w74 w.heap.size (fun k_ => some k_ ≠ (v172 : Value).ownBlock ∧ some k_ ≠ (v175 : Value).ownBlock ∧ k_ ≠ gb129 ∧ k_ ≠ gb138) (.slice Ao66 x6_2.length co66) x6_2) := ⟨h2_⟩
                have n3_ : Aside0 (w74.heap[gb129]? = some (.cells #[.int .i64 a1_0, .int .i64 a1_1] 26 (0, 0))) := ⟨h3_⟩
                have n4_ : Aside0 (w74.heap[gb133]? = some (.cells #[.int .i64 ((rd_T30 l0 x28_2).f0.f0), .int .i64 ((rd_T30 l0 x28_2).f0.f1), .int .i64 ((rd_T30 l0 x28_2).f1)] 30 (0, 0))) := ⟨h4_⟩
                have n5_ : Aside0 (w74.heap[gb138]? = some (.cells #[.int .i64 t135, .int .i64 t136] 26 (0, 0))) := ⟨h5_⟩
                have n6_ : Aside0 (Below w.heap.size w w74) := ⟨h6_⟩
                clear HO_6 BK129 BK133 BK138 HB h0_ h1_ h2_ h3_ h4_ h5_ h6_
                have HO173 := n0_; have HO176 := n1_; have HO_6 := n2_; have BK129 := n3_; have BK133 := n4_; have BK138 := n5_; have HB := n6_
                clear n0_ n1_ n2_ n3_ n4_ n5_ n6_
                have hHeld : w74.cell? ⟨gb138, 0, none⟩ = some (.int .i64 t135) ∧ w74.cell? ⟨gb138, 1, none⟩ = some (.int .i64 t136) := hS_
                obtain ⟨Ao76, co76, eo76⟩ := Kd.R_slice HO176.out
                (first | subst eo76 | (injection eo76 with f1_ f2_ f3_; have f4_ := f1_.symm; have f5_ := f3_.symm; clear f1_ f2_ f3_; subst f4_; subst f5_))
                refine norm_ (a' := ?_) ?_ ?_
                rotate_left
                ·simp only [putAll, Act.put, List.setIfInBounds_toArray, List.set_cons_zero, List.set_cons_succ]
                 rfl
                refine one_ (i := 7) (N := some 65) (pT 9 8) rfl rfl (one_of HT_.out (by kernel_rfl)) (by decide) (fun K hK => ?_)
                refine Kd.R_append_rows_step k26 (w0 := w) w.heap.size (by rfl) (.tmp 62) (.tmp 64) 35 26 (.agg #[(.int .i64 0), (.int .i64 0)]) 16 rfl Try.underlying35 info26 rfl (by decide) (by omega) v172 y171 y174 _ _ _ (fun k_ => some k_ ≠ (.slice Ao66 x6_2.length co66 : Value).ownBlock ∧ some k_ ≠ (.slice Ao76 y174.length co76 : Value).ownBlock ∧ k_ ≠ gb129 ∧ k_ ≠ gb138) (fun _ => False) rfl rfl ?aO ?aR (fun _ _ h => h) (fun _ h => h.elim) ?aF ?aB ?aS ?aL ?_
                (case aR => repeat (first | exact (Kd.R_reads' HO176.out).2.2 | (with_reducible refine Kd.C_alloc ?_ _) | (with_reducible refine Kd.C_drewN ?_ _) | (with_reducible refine Kd.C_drew ?_)))
                (case aB => exact (by repeat (first | (with_reducible first | exact HB.out | apply bA | apply bN | apply bD | refine bX ?_ (by assumption)) | exact HB.out)))
                (case aF => exact (fun k_ hk => ⟨Kd.fresh' (Kd.R_lt (by (with_reducible repeat (first | apply Kd.R_alloc | apply Kd.R_drewN | apply Kd.R_drew)); exact HO_6.out)) k_ hk, Kd.fresh' (Kd.R_lt (by (with_reducible repeat (first | apply Kd.R_alloc | apply Kd.R_drewN | apply Kd.R_drew)); exact HO176.out)) k_ hk, Kd.freshB (g := gb129) (o := .cells #[.int .i64 a1_0, .int .i64 a1_1] 26 (0, 0)) (by (with_reducible repeat (first | refine kN ?_ _ | refine kD ?_ | refine kA ?_ _)); exact BK129.out) k_ hk, Kd.freshB (g := gb138) (o := .cells #[.int .i64 t135, .int .i64 t136] 26 (0, 0)) (by (with_reducible repeat (first | refine kN ?_ _ | refine kD ?_ | refine kA ?_ _)); exact BK138.out) k_ hk⟩))
                (case aO => exact (by (with_reducible repeat (first | apply Kd.R_alloc | apply Kd.R_drewN | apply Kd.R_drew)); exact Kd.R_mono HO173.out (fun _ hk => ⟨hk.2.1, ⟨hk.1, ⟨hk.2.2.1, hk.2.2.2⟩⟩⟩)))
                (case aS => exact (bZ (by repeat (first | (with_reducible first | exact HB.out | apply bA | apply bN | apply bD | refine bX ?_ (by assumption)) | exact HB.out))))
                (case aL => have := LMc61.out; omega)
                intro v178 w75 ho hb hg hat
                rw [← Ny177.out] at ho
                have n0_ := Am (Kd.R_after (ok := (fun k_ => some k_ ≠ (.slice Ao76 y174.length co76 : Value).ownBlock ∧ k_ ≠ gb129 ∧ k_ ≠ gb138)) (by (with_reducible repeat (first | apply Kd.R_alloc | apply Kd.R_drewN | apply Kd.R_drew)); exact Kd.R_mono HO_6.out (fun _ hk => ⟨⟨hk.2.1, ⟨hk.2.2.1, hk.2.2.2⟩⟩, hk.1⟩)) hg hat)
                have n1_ := Am (blk_grown (g := gb129) (o := .cells #[.int .i64 a1_0, .int .i64 a1_1] 26 (0, 0)) (by (with_reducible repeat (first | refine kN ?_ _ | refine kD ?_ | refine kA ?_ _)); exact BK129.out) hg (Kd.R_away HO173.out (fun _ hk => hk.2.2.1)))
                have n2_ := Am (blk_grown (g := gb133) (o := .cells #[.int .i64 ((rd_T30 l0 x28_2).f0.f0), .int .i64 ((rd_T30 l0 x28_2).f0.f1), .int .i64 ((rd_T30 l0 x28_2).f1)] 30 (0, 0)) (by (with_reducible repeat (first | refine kN ?_ _ | refine kD ?_ | refine kA ?_ _)); exact BK133.out) hg (Kd.R_ne HO173.out BK133.out (by decide)))
                have n3_ := Am (blk_grown (g := gb138) (o := .cells #[.int .i64 t135, .int .i64 t136] 26 (0, 0)) (by (with_reducible repeat (first | refine kN ?_ _ | refine kD ?_ | refine kA ?_ _)); exact BK138.out) hg (Kd.R_away HO173.out (fun _ hk => hk.2.2.2)))
                have n4_ := Am (Kd.R_after (ok := (fun k_ => some k_ ≠ (.slice Ao66 x6_2.length co66 : Value).ownBlock ∧ k_ ≠ gb129 ∧ k_ ≠ gb138)) (by (with_reducible repeat (first | apply Kd.R_alloc | apply Kd.R_drewN | apply Kd.R_drew)); exact Kd.R_mono HO176.out (fun _ hk => ⟨⟨hk.2.1, ⟨hk.2.2.1, hk.2.2.2⟩⟩, hk.1⟩)) hg hat)
                have n5_ := Am (hb)
                have n6_ := Am (ho)
                clear HO_6 BK129 BK133 BK138 HO176 HB HO173
                have HO_6 := n0_; have BK129 := n1_; have BK133 := n2_; have BK138 := n3_; have HO176 := n4_; have HB := n5_; have HO179 := n6_
                clear n0_ n1_ n2_ n3_ n4_ n5_ n6_ ho hb hg hat
                refine hK.out _ _ ⟨c20 BK138.out, c21 BK138.out⟩ (fun hHeld => ?_)
                clear hK K
                refine norm_ (a' := ?_) ?_ ?_
                rotate_left
                ·show Act.put _ (some 65) _ = _
                 simp only [Act.put, List.setIfInBounds_toArray, List.set_cons_zero, List.set_cons_succ, i64_w, i32_w]
                 rfl
                refine pI (v := ?_) (a' := ?_) rfl (any_of HT_.out (by kernel_rfl)) (fun _ _ _ h => h) (Or.inl ⟨by rfl, ?_⟩) ?_ ?_
                rotate_left
                ·intro w'
                 go_simp
                 with_reducible rfl
                rotate_left
                ·show Act.put _ (some _) _ = _
                 simp only [Act.put, List.setIfInBounds_toArray, List.set_cons_zero, List.set_cons_succ, i64_w, i32_w]
                 rfl
                refine done_ (done_of HT_.out (by kernel_rfl)) ?_
                have q77 : (x11_3 : Int) ≤ ((x6_2.length : Int) : Int) := of_decide_eq_true (by first | (with_reducible assumption) | assumption)
                obtain ⟨i077, hi077, _, hsz77, _⟩ := info_parts info26
                have hroom77 : x6_2.length ≤ co66 := (Kd.R_reads' HO_6.out).2.1
                have hC77 : Kd.C k26 _ Ao66 x6_2.length x6_2 := (Kd.R_reads' HO_6.out).2.2
                have q077 : (0 : Int) ≤ (x11_3 : Int) := of_decide_eq_true (by first | (with_reducible assumption) | assumption)
                have hcut77 := cut_from (P := Try.prog) 35 26 .i64 Try.underlying35 hi077 2 hsz77 Ao66 x6_2.length co66 x11_3 q077 q77
                have hr77 := Kd.C_drop (m := (x11_3 : Int).toNat) (c := co66) hC77 (by omega) hroom77
                obtain ⟨A77, hA77⟩ : ∃ A1, A1 = (if co66 = (x11_3 : Int).toNat then Ao66 else (Ao66 : Option Addr).map (·.add ((x11_3 : Int).toNat * 2))) := ⟨_, rfl⟩
                obtain ⟨c77, hc77⟩ : ∃ c1, c1 = co66 - (x11_3 : Int).toNat := ⟨_, rfl⟩
                have hy77 : y180.length = x6_2.length - (x11_3 : Int).toNat := (by rw [Ny180.out, List.length_drop] <;> omega)
                rw [show (x6_2).drop (x11_3 : Int).toNat = y180 from Ny180.out.symm] at hr77
                replace hr77 : Kd.C k26 _ A77 y180.length y180 := (by rw [hA77]; exact hr77)
                rw [← hy77, ← hA77, ← hc77] at hcut77
                have HR183 := Am hr77
                have HC183 := Am (show y180.length ≤ c77 from by rw [hy77, hc77]; exact Nat.sub_le_sub_right hroom77 _)
                clear hr77 hC77 hroom77 hi077 hsz77 hc77
                have KY77 := Am hy77
                have KA77 := Am hA77
                clear hy77 hA77
                have KL77 := Am (show (x11_3 : Int).toNat ≤ x6_2.length from by omega)
                replace q77 := eq_true q77
                try go_wp2_with (first | ((with_reducible refine gate_builtin (b := .append) (xs := #[.tmp 66, .tmp 69]) rfl ?_); at_builtin; refine Kd.R_append_rows k26 (w0 := w) w.heap.size rfl (.tmp 66) (.tmp 69) 35 26 (.agg #[(.int .i64 0), (.int .i64 0)]) 16 rfl Try.underlying35 info26 rfl (by decide) (by omega) v178 y177 y180 _ _ _ (fun k_ => some k_ ≠ (.slice Ao66 x6_2.length co66 : Value).ownBlock ∧ some k_ ≠ (.slice Ao76 y174.length co76 : Value).ownBlock ∧ k_ ≠ gb129 ∧ k_ ≠ gb138) (fun _ => False) rfl rfl ?aO ?aR (fun _ _ h => h) (fun _ h => h.elim) ?aF ?aB ?aS ?aL ?_; (case aR => repeat (first | exact (by repeat (first | (with_reducible exact HR183.out) | (with_reducible refine Kd.C_alloc ?_ _) | (with_reducible refine Kd.C_drewN ?_ _) | (with_reducible refine Kd.C_drew ?_) | exact HR183.out)) | (with_reducible refine Kd.C_alloc ?_ _) | (with_reducible refine Kd.C_drewN ?_ _) | (with_reducible refine Kd.C_drew ?_))); (case aB => exact (by repeat (first | (with_reducible first | exact HB.out | apply bA | apply bN | apply bD | refine bX ?_ (by assumption)) | exact HB.out))); (case aF => exact (fun k_ hk => ⟨Kd.fresh' (Kd.R_lt (by (with_reducible repeat (first | apply Kd.R_alloc | apply Kd.R_drewN | apply Kd.R_drew)); exact HO_6.out)) k_ hk, Kd.fresh' (Kd.R_lt (by (with_reducible repeat (first | apply Kd.R_alloc | apply Kd.R_drewN | apply Kd.R_drew)); exact HO176.out)) k_ hk, Kd.freshB (g := gb129) (o := .cells #[.int .i64 a1_0, .int .i64 a1_1] 26 (0, 0)) (by (with_reducible repeat (first | refine kN ?_ _ | refine kD ?_ | refine kA ?_ _)); exact BK129.out) k_ hk, Kd.freshB (g := gb138) (o := .cells #[.int .i64 t135, .int .i64 t136] 26 (0, 0)) (by (with_reducible repeat (first | refine kN ?_ _ | refine kD ?_ | refine kA ?_ _)); exact BK138.out) k_ hk⟩)); (case aO => exact (by (with_reducible repeat (first | apply Kd.R_alloc | apply Kd.R_drewN | apply Kd.R_drew)); exact HO179.out)); (case aS => exact (bZ (by repeat (first | (with_reducible first | exact HB.out | apply bA | apply bN | apply bD | refine bX ?_ (by assumption)) | exact HB.out)))); (case aL => have := LMc64.out; omega); intro v185 w78 ho hb hg hat; rw [← Ny184.out] at ho; have n0_ := Am (Kd.R_after (ok := (fun k_ => some k_ ≠ (.slice Ao76 y174.length co76 : Value).ownBlock ∧ k_ ≠ gb129 ∧ k_ ≠ gb138)) (by (with_reducible repeat (first | apply Kd.R_alloc | apply Kd.R_drewN | apply Kd.R_drew)); exact HO_6.out) hg hat); have n1_ := Am (blk_grown (g := gb129) (o := .cells #[.int .i64 a1_0, .int .i64 a1_1] 26 (0, 0)) (by (with_reducible repeat (first | refine kN ?_ _ | refine kD ?_ | refine kA ?_ _)); exact BK129.out) hg (Kd.R_away HO179.out (fun _ hk => hk.2.2.1))); have n2_ := Am (blk_grown (g := gb133) (o := .cells #[.int .i64 ((rd_T30 l0 x28_2).f0.f0), .int .i64 ((rd_T30 l0 x28_2).f0.f1), .int .i64 ((rd_T30 l0 x28_2).f1)] 30 (0, 0)) (by (with_reducible repeat (first | refine kN ?_ _ | refine kD ?_ | refine kA ?_ _)); exact BK133.out) hg (Kd.R_ne HO179.out BK133.out (by decide))); have n3_ := Am (blk_grown (g := gb138) (o := .cells #[.int .i64 t135, .int .i64 t136] 26 (0, 0)) (by (with_reducible repeat (first | refine kN ?_ _ | refine kD ?_ | refine kA ?_ _)); exact BK138.out) hg (Kd.R_away HO179.out (fun _ hk => hk.2.2.2))); have n4_ := Am (Kd.R_after (ok := (fun k_ => some k_ ≠ (.slice Ao66 x6_2.length co66 : Value).ownBlock ∧ k_ ≠ gb129 ∧ k_ ≠ gb138)) (by (with_reducible repeat (first | apply Kd.R_alloc | apply Kd.R_drewN | apply Kd.R_drew)); exact HO176.out) hg hat); have n5_ := Am (hb); have n6_ := Am ((show Kd.C k26 w78 A77 y180.length y180 from by rw [Ny180.out, KA77.out]; exact Kd.C_drop (m := (x11_3 : Int).toNat) (c := co66) ((Kd.R_reads' (Kd.R_after (ok := (fun k_ => some k_ ≠ (.slice Ao76 y174.length co76 : Value).ownBlock ∧ k_ ≠ gb129 ∧ k_ ≠ gb138)) (by (with_reducible repeat (first | apply Kd.R_alloc | apply Kd.R_drewN | apply Kd.R_drew)); exact HO_6.out) hg hat)).2.2) KL77.out ((Kd.R_reads' (Kd.R_after (ok := (fun k_ => some k_ ≠ (.slice Ao76 y174.length co76 : Value).ownBlock ∧ k_ ≠ gb129 ∧ k_ ≠ gb138)) (by (with_reducible repeat (first | apply Kd.R_alloc | apply Kd.R_drewN | apply Kd.R_drew)); exact HO_6.out) hg hat)).2.1))); have n7_ := Am (ho); clear HO_6; clear BK129; clear BK133; clear BK138; clear HO176; clear HB; clear HR183; clear HO179; have HO_6 := n0_; have BK129 := n1_; have BK133 := n2_; have BK138 := n3_; have HO176 := n4_; have HB := n5_; have HR183 := n6_; have HO186 := n7_; clear n0_ n1_ n2_ n3_ n4_ n5_ n6_ n7_; clear ho hb hg hat))
                go_roundg k3
                case measure => have := HJ2.out; have := HK2.out; have := HK3.out; omega
                case rel => exact ⟨(y184), (wrap64 (x28_2 + 1)), (by first | rfl | (simp; done) | (simp [*]; done)), H', ⟨by have := HJ2.out; have := HK2.out; have := HK3.out; omega⟩, ⟨by (with_reducible repeat (first | apply Kd.R_alloc | apply Kd.R_drewN | apply Kd.R_drew)); exact Kd.R_mono HO186.out (fun _ hk => hk.2.2.1)⟩, ⟨by (with_reducible repeat (first | refine kN ?_ _ | refine kD ?_ | refine kA ?_ _)); exact BK129.out⟩, ⟨by repeat (first | (with_reducible first | exact HB.out | apply bA | apply bN | apply bD | refine bX ?_ (by assumption)) | exact HB.out)⟩⟩
               rw [if_neg c64] at H
               exact absurd H (by simp)
              rw [if_neg c61] at H
              exact absurd H (by simp)
             rw [if_neg c60] at H
             exact absurd H (by simp)
            rw [if_neg c59] at H
            exact absurd H (by simp)
           rw [if_neg c58] at H
           exact absurd H (by simp)
        replace c17 := Bool.eq_false_iff.mpr c17
        subst c17
        have H1 : (some (([] : List (S26)), false)) = some (r1, r2) := by rw [if_neg (show ¬ (false = true) by decide)] at H; exact H
        clear H
        have H := H1
        clear H1
        simp only [Option.some.injEq, Prod.mk.injEq] at H
        obtain ⟨rfl, rfl⟩ := H
        have p132 : 0 ≤ (x28_2 : Int) := of_decide_eq_true (by first | (with_reducible assumption) | assumption)
        have q132 : x28_2 < (l0.length : Int) := of_decide_eq_true (by first | (with_reducible assumption) | assumption)
        obtain ⟨ad132, e132, hx132_0, hx132_1, hx132_2⟩ := at_T30 HR0.out x28_2 p132 q132
        cases e132
        replace hx132_0 := (HB.out.cell (World.block_lt_of_cell? w _ hx132_0)).trans hx132_0
        replace hx132_1 := (HB.out.cell (World.block_lt_of_cell? w _ hx132_1)).trans hx132_1
        replace hx132_2 := (HB.out.cell (World.block_lt_of_cell? w _ hx132_2)).trans hx132_2
        replace p132 := eq_true p132
        replace q132 := eq_true q132
        go_wp2_with (first | ((with_reducible refine gate_dst (N := 8) rfl ?_); refine box_event ?hg (N := 8) ?hd (cs := #[.int .i64 0, .int .i64 0, .int .i64 0]) (t := 30) ?hr ?_; (case hd => rfl); (case hg => rfl); (case hr => first | (go_simp; done) | (go_simp; rfl)); intro gb133 hg w79 hbox hb; have n0_ := Am (Kd.R_below (by (with_reducible repeat (first | apply Kd.R_alloc | apply Kd.R_drewN | apply Kd.R_drew)); exact HO_6.out) hb); have hp0 := hpA BK129.out hb (fun _ _ h_ => by (with_reducible repeat (first | refine kN ?_ _ | refine kD ?_ | refine kA ?_ _)); exact h_); have hv := hvK (w := w) hb (by repeat (first | (with_reducible first | exact HB.out | apply bA | apply bN | apply bD | refine bX ?_ (by assumption)) | exact HB.out)); have n2_ := Am (bT hv hb); have n3_ := Am (hbox); have GW133 := kG hg hv; have GE133 := kG hg hv; have hp1 := hpK BK129.out hb (fun _ _ h_ => by (with_reducible repeat (first | refine kN ?_ _ | refine kD ?_ | refine kA ?_ _)); exact h_); have NB129_133 := kX hg (hp1 BK129.out); have NB133_129 := kY hg (hp1 BK129.out); clear HO_6; clear HB; have HO_6 := n0_; replace BK129 := hp0 BK129; have HB := n2_; have BK133 := n3_; clear n0_ n2_ n3_ hp0 hp1 hv; clear hb hbox hg; have hnb80 := NB133_129.out; have hnc80 := NB129_133.out; have hcz81_0 := c30 BK133.out; have hcz81_1 := c31 BK133.out; have hcz81_2 := c32 BK133.out; have hfz81_0 := kF BK133.out 0; have hfz81_1 := kF BK133.out 1; have hfz81_2 := kF BK133.out 2) | ((with_reducible refine gate_callee (f := 63) rfl ?_); refine goesL_ (some 33) rfl rfl Try.func63 (by kernel_rfl) rfl #[.agg #[.int .i64 ((rd_T30 l0 x28_2).f0.f0), .int .i64 ((rd_T30 l0 x28_2).f0.f1), .int .i64 ((rd_T30 l0 x28_2).f1)]] rfl (by (try simp only [List.map_toArray, List.map_cons, List.map_nil]); first | done | rfl | (simp only [List.length_drop, List.length_take]; rfl)) ?_; (with_reducible refine (spec_meGood.calls k2 ((rd_T30 l0 x28_2).f0.f0) ((rd_T30 l0 x28_2).f0.f1) ((rd_T30 l0 x28_2).f1) true _ A14.out).mono ?_); rintro e w82 ⟨rfl, hb⟩; refine ⟨_, rfl, ?_⟩; have n0_ := Am (Kd.R_below (by (with_reducible repeat (first | apply Kd.R_alloc | apply Kd.R_drewN | apply Kd.R_drew)); exact (Kd.R_mono (Kd.R_far (p := ⟨gb133, 2, none⟩) (Kd.R_far (p := ⟨gb133, 1, none⟩) (Kd.R_far (p := ⟨gb133, 0, none⟩) (Kd.R_types HO_6.out BK133.out (by decide)) (fun _ hk => hk.2) (.int .i64 ((rd_T30 l0 x28_2).f0.f0))) (fun _ hk => hk.2) (.int .i64 ((rd_T30 l0 x28_2).f0.f1))) (fun _ hk => hk.2) (.int .i64 ((rd_T30 l0 x28_2).f1))) (fun _ h_ => h_.1))) hb); have hp0 := hpB gb133 BK129.out hb (fun _ _ q_ h_ => by (with_reducible repeat (first | refine kN ?_ _ | refine kD ?_ | refine kA ?_ _ | refine kZ ?_ q_ _)); exact h_); have n2_ := Am (kB (g := gb133) (o := .cells #[.int .i64 ((rd_T30 l0 x28_2).f0.f0), .int .i64 ((rd_T30 l0 x28_2).f0.f1), .int .i64 ((rd_T30 l0 x28_2).f1)] 30 (0, 0)) (by (with_reducible repeat (first | refine kN ?_ _ | refine kD ?_ | refine kA ?_ _)); refine kP (cs := #[.int .i64 ((rd_T30 l0 x28_2).f0.f0), .int .i64 ((rd_T30 l0 x28_2).f0.f1), .int .i64 0]) ?_ 2 _ rfl; (with_reducible repeat (first | refine kN ?_ _ | refine kD ?_ | refine kA ?_ _)); refine kP (cs := #[.int .i64 ((rd_T30 l0 x28_2).f0.f0), .int .i64 0, .int .i64 0]) ?_ 1 _ rfl; (with_reducible repeat (first | refine kN ?_ _ | refine kD ?_ | refine kA ?_ _)); refine kP (cs := #[.int .i64 0, .int .i64 0, .int .i64 0]) ?_ 0 _ rfl; (with_reducible repeat (first | refine kN ?_ _ | refine kD ?_ | refine kA ?_ _)); exact BK133.out) hb); have hv := hvK (w := w) hb (by repeat (first | (with_reducible first | exact HB.out | apply bA | apply bN | apply bD | refine bX ?_ (by assumption)) | exact HB.out)); have n3_ := Am (bT hv hb); clear HO_6; clear BK133; clear HB; have HO_6 := n0_; replace BK129 := hp0 NB129_133 BK129; have BK133 := n2_; have HB := n3_; clear n0_ n2_ n3_ hp0 hv; (try clear hb); (try clear hk); have hcz83_0 := c30 BK133.out; have hcz83_1 := c31 BK133.out; have hcz83_2 := c32 BK133.out; have hfz83_0 := kF BK133.out 0; have hfz83_1 := kF BK133.out 1; have hfz83_2 := kF BK133.out 2; have hcz84_0 := c20 BK129.out; have hcz84_1 := c21 BK129.out; have hfz84_0 := kF BK129.out 0; have hfz84_1 := kF BK129.out 1) | ((with_reducible refine gate_callee (f := 64) rfl ?_); refine goesL_ (some 38) rfl rfl Try.func64 (by kernel_rfl) rfl #[.agg #[.int .i64 ((rd_T30 l0 x28_2).f0.f0), .int .i64 ((rd_T30 l0 x28_2).f0.f1), .int .i64 ((rd_T30 l0 x28_2).f1)], .agg #[.int .i64 a1_0, .int .i64 a1_1]] rfl (by (try simp only [List.map_toArray, List.map_cons, List.map_nil]); first | done | rfl | (simp only [List.length_drop, List.length_take]; rfl)) ?_; (with_reducible refine (spec_meAt.calls k2 ((rd_T30 l0 x28_2).f0.f0) ((rd_T30 l0 x28_2).f0.f1) ((rd_T30 l0 x28_2).f1) a1_0 a1_1 t135 t136 false _ A16.out).mono ?_); rintro e w85 ⟨rfl, hb⟩; refine ⟨_, rfl, ?_⟩; have n0_ := Am (Kd.R_below (by (with_reducible repeat (first | apply Kd.R_alloc | apply Kd.R_drewN | apply Kd.R_drew)); exact HO_6.out) hb); have hp0 := hpA BK129.out hb (fun _ _ h_ => by (with_reducible repeat (first | refine kN ?_ _ | refine kD ?_ | refine kA ?_ _)); exact h_); have hv := hvK (w := w) hb (by repeat (first | (with_reducible first | exact HB.out | apply bA | apply bN | apply bD | refine bX ?_ (by assumption)) | exact HB.out)); have n3_ := Am (bT hv hb); clear HO_6; clear HB; have HO_6 := n0_; replace BK129 := hp0 BK129; replace BK133 := hp0 BK133; have HB := n3_; clear n0_ n3_ hp0 hv; (try clear hb)) | ((with_reducible refine gate_dst (N := 9) rfl ?_); refine box_event ?hg (N := 9) ?hd (cs := #[.int .i64 0, .int .i64 0]) (t := 26) ?hr ?_; (case hd => rfl); (case hg => rfl); (case hr => first | (go_simp; done) | (go_simp; rfl)); intro gb138 hg w86 hbox hb; have n0_ := Am (Kd.R_below (Kd.R_elderB (by (with_reducible repeat (first | apply Kd.R_alloc | apply Kd.R_drewN | apply Kd.R_drew)); exact HO_6.out) gb138 (Nat.le_of_eq hg.symm)) hb); have hp0 := hpA BK129.out hb (fun _ _ h_ => by (with_reducible repeat (first | refine kN ?_ _ | refine kD ?_ | refine kA ?_ _)); exact h_); have hv := hvK (w := w) hb (by repeat (first | (with_reducible first | exact HB.out | apply bA | apply bN | apply bD | refine bX ?_ (by assumption)) | exact HB.out)); have n3_ := Am (bT hv hb); have n4_ := Am (hbox); have GW138 := kG hg hv; have GE138 := kG hg hv; have hp1 := hpK BK129.out hb (fun _ _ h_ => by (with_reducible repeat (first | refine kN ?_ _ | refine kD ?_ | refine kA ?_ _)); exact h_); have NB129_138 := kX hg (hp1 BK129.out); have NB138_129 := kY hg (hp1 BK129.out); have NB133_138 := kX hg (hp1 BK133.out); have NB138_133 := kY hg (hp1 BK133.out); clear HO_6; clear HB; have HO_6 := n0_; replace BK129 := hp0 BK129; replace BK133 := hp0 BK133; have HB := n3_; have BK138 := n4_; clear n0_ n3_ n4_ hp0 hp1 hv; clear hb hbox hg; have hnb87 := NB138_129.out; have hnc87 := NB129_138.out; have hnb88 := NB138_133.out; have hnc88 := NB133_138.out; have hcz89_0 := c20 BK138.out; have hcz89_1 := c21 BK138.out; have hfz89_0 := kF BK138.out 0; have hfz89_1 := kF BK138.out 1))
        go_ret2
        exact ⟨_, by first | rfl | (simp [errW_none, errW_some] <;> rfl) | (simp [*, errW_none, errW_some] <;> rfl), by first | exact Kd.R_nil _ _ _ _ _ | exact Kd.N_nil _ _ _ _ _ | exact Kd.V_nil _ _ _ _ _ | exact Kd.Q_nil _ _ _ _ _ | exact Kd.S_nil _ _ _ _ _, by repeat (first | (with_reducible first | exact HB.out | apply bA | apply bN | apply bD | refine bX ?_ (by assumption)) | exact HB.out)⟩
       replace c15 := Bool.eq_false_iff.mpr c15
       subst c15
       have H1 : (some (([] : List (S26)), false)) = some (r1, r2) := by rw [if_neg (show ¬ (false = true) by decide)] at H; exact H
       clear H
       have H := H1
       clear H1
       simp only [Option.some.injEq, Prod.mk.injEq] at H
       obtain ⟨rfl, rfl⟩ := H
       have p132 : 0 ≤ (x28_2 : Int) := of_decide_eq_true (by first | (with_reducible assumption) | assumption)
       have q132 : x28_2 < (l0.length : Int) := of_decide_eq_true (by first | (with_reducible assumption) | assumption)
       obtain ⟨ad132, e132, hx132_0, hx132_1, hx132_2⟩ := at_T30 HR0.out x28_2 p132 q132
       cases e132
       replace hx132_0 := (HB.out.cell (World.block_lt_of_cell? w _ hx132_0)).trans hx132_0
       replace hx132_1 := (HB.out.cell (World.block_lt_of_cell? w _ hx132_1)).trans hx132_1
       replace hx132_2 := (HB.out.cell (World.block_lt_of_cell? w _ hx132_2)).trans hx132_2
       replace p132 := eq_true p132
       replace q132 := eq_true q132
       go_wp2_with (first | ((with_reducible refine gate_dst (N := 8) rfl ?_); refine box_event ?hg (N := 8) ?hd (cs := #[.int .i64 0, .int .i64 0, .int .i64 0]) (t := 30) ?hr ?_; (case hd => rfl); (case hg => rfl); (case hr => first | (go_simp; done) | (go_simp; rfl)); intro gb133 hg w90 hbox hb; have n0_ := Am (Kd.R_below (by (with_reducible repeat (first | apply Kd.R_alloc | apply Kd.R_drewN | apply Kd.R_drew)); exact HO_6.out) hb); have hp0 := hpA BK129.out hb (fun _ _ h_ => by (with_reducible repeat (first | refine kN ?_ _ | refine kD ?_ | refine kA ?_ _)); exact h_); have hv := hvK (w := w) hb (by repeat (first | (with_reducible first | exact HB.out | apply bA | apply bN | apply bD | refine bX ?_ (by assumption)) | exact HB.out)); have n2_ := Am (bT hv hb); have n3_ := Am (hbox); have GW133 := kG hg hv; have GE133 := kG hg hv; have hp1 := hpK BK129.out hb (fun _ _ h_ => by (with_reducible repeat (first | refine kN ?_ _ | refine kD ?_ | refine kA ?_ _)); exact h_); have NB129_133 := kX hg (hp1 BK129.out); have NB133_129 := kY hg (hp1 BK129.out); clear HO_6; clear HB; have HO_6 := n0_; replace BK129 := hp0 BK129; have HB := n2_; have BK133 := n3_; clear n0_ n2_ n3_ hp0 hp1 hv; clear hb hbox hg; have hnb91 := NB133_129.out; have hnc91 := NB129_133.out; have hcz92_0 := c30 BK133.out; have hcz92_1 := c31 BK133.out; have hcz92_2 := c32 BK133.out; have hfz92_0 := kF BK133.out 0; have hfz92_1 := kF BK133.out 1; have hfz92_2 := kF BK133.out 2) | ((with_reducible refine gate_callee (f := 63) rfl ?_); refine goesL_ (some 33) rfl rfl Try.func63 (by kernel_rfl) rfl #[.agg #[.int .i64 ((rd_T30 l0 x28_2).f0.f0), .int .i64 ((rd_T30 l0 x28_2).f0.f1), .int .i64 ((rd_T30 l0 x28_2).f1)]] rfl (by (try simp only [List.map_toArray, List.map_cons, List.map_nil]); first | done | rfl | (simp only [List.length_drop, List.length_take]; rfl)) ?_; (with_reducible refine (spec_meGood.calls k2 ((rd_T30 l0 x28_2).f0.f0) ((rd_T30 l0 x28_2).f0.f1) ((rd_T30 l0 x28_2).f1) false _ A14.out).mono ?_); rintro e w93 ⟨rfl, hb⟩; refine ⟨_, rfl, ?_⟩; have n0_ := Am (Kd.R_below (by (with_reducible repeat (first | apply Kd.R_alloc | apply Kd.R_drewN | apply Kd.R_drew)); exact (Kd.R_mono (Kd.R_far (p := ⟨gb133, 2, none⟩) (Kd.R_far (p := ⟨gb133, 1, none⟩) (Kd.R_far (p := ⟨gb133, 0, none⟩) (Kd.R_types HO_6.out BK133.out (by decide)) (fun _ hk => hk.2) (.int .i64 ((rd_T30 l0 x28_2).f0.f0))) (fun _ hk => hk.2) (.int .i64 ((rd_T30 l0 x28_2).f0.f1))) (fun _ hk => hk.2) (.int .i64 ((rd_T30 l0 x28_2).f1))) (fun _ h_ => h_.1))) hb); have hp0 := hpB gb133 BK129.out hb (fun _ _ q_ h_ => by (with_reducible repeat (first | refine kN ?_ _ | refine kD ?_ | refine kA ?_ _ | refine kZ ?_ q_ _)); exact h_); have n2_ := Am (kB (g := gb133) (o := .cells #[.int .i64 ((rd_T30 l0 x28_2).f0.f0), .int .i64 ((rd_T30 l0 x28_2).f0.f1), .int .i64 ((rd_T30 l0 x28_2).f1)] 30 (0, 0)) (by (with_reducible repeat (first | refine kN ?_ _ | refine kD ?_ | refine kA ?_ _)); refine kP (cs := #[.int .i64 ((rd_T30 l0 x28_2).f0.f0), .int .i64 ((rd_T30 l0 x28_2).f0.f1), .int .i64 0]) ?_ 2 _ rfl; (with_reducible repeat (first | refine kN ?_ _ | refine kD ?_ | refine kA ?_ _)); refine kP (cs := #[.int .i64 ((rd_T30 l0 x28_2).f0.f0), .int .i64 0, .int .i64 0]) ?_ 1 _ rfl; (with_reducible repeat (first | refine kN ?_ _ | refine kD ?_ | refine kA ?_ _)); refine kP (cs := #[.int .i64 0, .int .i64 0, .int .i64 0]) ?_ 0 _ rfl; (with_reducible repeat (first | refine kN ?_ _ | refine kD ?_ | refine kA ?_ _)); exact BK133.out) hb); have hv := hvK (w := w) hb (by repeat (first | (with_reducible first | exact HB.out | apply bA | apply bN | apply bD | refine bX ?_ (by assumption)) | exact HB.out)); have n3_ := Am (bT hv hb); clear HO_6; clear BK133; clear HB; have HO_6 := n0_; replace BK129 := hp0 NB129_133 BK129; have BK133 := n2_; have HB := n3_; clear n0_ n2_ n3_ hp0 hv; (try clear hb); (try clear hk)))
       go_ret2
       exact ⟨_, by first | rfl | (simp [errW_none, errW_some] <;> rfl) | (simp [*, errW_none, errW_some] <;> rfl), by first | exact Kd.R_nil _ _ _ _ _ | exact Kd.N_nil _ _ _ _ _ | exact Kd.V_nil _ _ _ _ _ | exact Kd.Q_nil _ _ _ _ _ | exact Kd.S_nil _ _ _ _ _, by repeat (first | (with_reducible first | exact HB.out | apply bA | apply bN | apply bD | refine bX ?_ (by assumption)) | exact HB.out)⟩
      rw [if_neg c13] at H
      exact absurd H (by simp)
     rw [if_neg c12] at H
     exact absurd H (by simp)
    rw [if_neg c11] at H
    have c11b0 : decide (x28_2 < (l0.length : Int)) = false := decide_eq_false c11
    clear c11
    have H' := Am H
    clear H
    obtain ⟨Ao94, co94, eo94⟩ := Kd.R_slice HO_6.out
    subst eo94
    go_wp2
    go_loopg [13, 74] k2 (fun kq v13 v74 w' => ∃ (x13_3 : List (S26)) (x74_3 : Int), v74 = .int .i64 x74_3 ∧ Aside0 (spec_meGaps.l2 kq x6_2 x13_3 (x6_2.length : Int) x74_3 = some (r1, r2)) ∧ Aside0 (kq ≤ k2) ∧ Aside0 (Kd.R k26 26 w' w.heap.size (fun k_ => some k_ ≠ (v13 : Value).ownBlock ∧ k_ ≠ gb129) (.slice Ao94 x6_2.length co94) x6_2) ∧ Aside0 (Kd.R k26 26 w' w.heap.size (fun k_ => some k_ ≠ ((.slice Ao94 x6_2.length co94) : Value).ownBlock ∧ k_ ≠ gb129) v13 x13_3) ∧ Aside0 (w'.heap[gb129]? = some (.cells #[.int .i64 a1_0, .int .i64 a1_1] 26 (0, 0))) ∧ Aside0 (Below w.heap.size w w'))
    case atStart => exact ⟨(([] : List (S26))), (0), (by first | rfl | (simp; done) | (simp [*]; done)), H', ⟨Nat.le_refl _⟩, ⟨by (with_reducible repeat (first | apply Kd.R_alloc | apply Kd.R_drewN | apply Kd.R_drew)); exact Kd.R_mono HO_6.out (fun _ hk => ⟨(by simp [Value.ownBlock]), hk⟩)⟩, ⟨by first | exact Kd.R_nil _ _ _ _ _ | exact Kd.N_nil _ _ _ _ _ | exact Kd.V_nil _ _ _ _ _ | exact Kd.Q_nil _ _ _ _ _ | exact Kd.S_nil _ _ _ _ _⟩, ⟨by (with_reducible repeat (first | refine kN ?_ _ | refine kD ?_ | refine kA ?_ _)); exact BK129.out⟩, ⟨by repeat (first | (with_reducible first | exact HB.out | apply bA | apply bN | apply bD | refine bX ?_ (by assumption)) | exact HB.out)⟩⟩
    case round =>
     clear H'
     (try clear c11); (try clear c11b0)
     obtain ⟨x13_3, x74_3, rfl, HA, HK3, HO_6, HO_13, BK129, HB⟩ := hrel
     cases gk with
     | zero => exact absurd HA.out (by simp [spec_meGaps.l2])
     | succ k3 =>
      have H := HA.out
      clear HA
      simp only [spec_meGaps.l2] at H
      by_cases c95 : x74_3 < (x6_2.length : Int)
      ·rw [if_pos c95] at H
       have c95b0 : decide (x74_3 < (x6_2.length : Int)) = true := decide_eq_true c95
       clear c95
       by_cases c96 : (x6_2.length : Int) = 0
       ·rw [if_pos c96] at H
        exact absurd H (by simp)
       rw [if_neg c96] at H
       have c96b0 : ((x6_2.length : Int) == 0) = false := beq_eq_false_iff_ne.mpr c96
       have c96b1 : ((x6_2.length : Int) != 0) = true := bne_iff_ne.mpr c96
       have c96b2 : ¬ (x6_2 = []) := fun h_ => c96 (by rw [h_]; rfl)
       obtain ⟨ji97, hji97⟩ : ∃ j_ : Int, (Int.tmod (wrap64 (x74_3 + 1)) (x6_2.length : Int)) = j_ := ⟨_, rfl⟩
       replace H : (if 0 ≤ (ji97) then (if (ji97) < (x6_2.length : Int) then (if 0 ≤ x74_3 then (if x74_3 < (x6_2.length : Int) then ((spec_diAdd.f k3 ((rd_T26 x6_2 (ji97)).f0) ((rd_T26 x6_2 (ji97)).f1) ((rd_T26 x6_2 x74_3).f0) ((rd_T26 x6_2 x74_3).f1) (-1)).bind fun bt189 => (if bt189.2.2 = true then ((some (([(⟨bt189.1, bt189.2.1⟩ : S26)] : List (S26)) : List (S26))).bind fun y193 => (if x13_3.length + y193.length < 8796093022208 then (spec_meGaps.l2 k3 x6_2 (x13_3 ++ y193) (x6_2.length : Int) (wrap64 (x74_3 + 1))) else (none))) else (some (([] : List (S26)), false)))) else (none)) else (none)) else (none)) else (none)) = some (r1, r2) := by first | (rw [hji97] at H; exact H) | (simp only [hji97] at H ⊢; exact H)
       by_cases c98 : 0 ≤ (ji97)
       ·rw [if_pos c98] at H
        have c98b0 : decide (0 ≤ (ji97)) = true := decide_eq_true c98
        clear c98
        by_cases c99 : (ji97) < (x6_2.length : Int)
        ·rw [if_pos c99] at H
         have c99b0 : decide ((ji97) < (x6_2.length : Int)) = true := decide_eq_true c99
         clear c99
         by_cases c100 : 0 ≤ x74_3
         ·rw [if_pos c100] at H
          have c100b0 : decide (0 ≤ x74_3) = true := decide_eq_true c100
          clear c100
          by_cases c101 : x74_3 < (x6_2.length : Int)
          ·rw [if_pos c101] at H
           have c101b0 : decide (x74_3 < (x6_2.length : Int)) = true := decide_eq_true c101
           clear c101
           replace H := Option.bind_eq_some_iff.mp H
           obtain ⟨⟨t189, t190, t191⟩, A1020, H⟩ := H
           try dsimp only at H
           have A102 := Am A1020
           clear A1020
           by_cases c103 : t191 = true
           ·subst c103
            have H1 : ((some (([(⟨t189, t190⟩ : S26)] : List (S26)) : List (S26))).bind fun y193 => (if x13_3.length + y193.length < 8796093022208 then (spec_meGaps.l2 k3 x6_2 (x13_3 ++ y193) (x6_2.length : Int) (wrap64 (x74_3 + 1))) else (none))) = some (r1, r2) := by rw [if_pos rfl] at H; exact H
            clear H
            have H := H1
            clear H1
            obtain ⟨y193, hy193⟩ : ∃ y_ : List (S26), y_ = (([(⟨t189, t190⟩ : S26)] : List (S26))) := ⟨_, rfl⟩
            replace H : (if x13_3.length + y193.length < 8796093022208 then (spec_meGaps.l2 k3 x6_2 (x13_3 ++ y193) (x6_2.length : Int) (wrap64 (x74_3 + 1))) else (none)) = some (r1, r2) := by first | (rw [hy193]; with_reducible exact H) | (have H2_ := (Option.bind_some _ _).symm.trans H; rw [hy193]; with_reducible exact H2_) | (have H2_ := (Option.bind_some _ _).symm.trans H; with_reducible exact H2_) | with_reducible exact H | (rw [hy193]; exact H) | exact H
            have Ny193 := Am hy193
            clear hy193
            by_cases c104 : x13_3.length + y193.length < 8796093022208
            ·rw [if_pos c104] at H
             have LMc104 := Am c104
             clear c104
             obtain ⟨y196, hy196⟩ : ∃ y_ : List (S26), y_ = (x13_3 ++ y193) := ⟨_, rfl⟩
             replace H : (spec_meGaps.l2 k3 x6_2 y196 (x6_2.length : Int) (wrap64 (x74_3 + 1))) = some (r1, r2) := by first | (rw [hy196]; with_reducible exact H) | (have H2_ := (Option.bind_some _ _).symm.trans H; rw [hy196]; with_reducible exact H2_) | (have H2_ := (Option.bind_some _ _).symm.trans H; with_reducible exact H2_) | with_reducible exact H | (rw [hy196]; exact H) | exact H
             have Ny196 := Am hy196
             clear hy196
             have H' := Am H
             clear H
             try go_wp2
             have n0_ := Am (Kd.R_drew HO_6.out)
             have n1_ := Am (Kd.R_drew HO_13.out)
             have n2_ := Am (kD BK129.out)
             have n3_ := Am (bD HB.out)
             clear HO_6 HO_13 BK129 HB
             have HO_6 := n0_; have HO_13 := n1_; have BK129 := n2_; have HB := n3_
             clear n0_ n1_ n2_ n3_
             have p187 : 0 ≤ ((ji97) : Int) := of_decide_eq_true (by first | (with_reducible assumption) | assumption)
             have q187 : (ji97) < (x6_2.length : Int) := of_decide_eq_true (by first | (with_reducible assumption) | assumption)
             obtain ⟨ad187, e187, hx187_0, hx187_1⟩ := at_T26 (Kd.R_reads' HO_6.out).2.2 (ji97) p187 q187
             cases e187
             replace p187 := eq_true p187
             replace q187 := eq_true q187
             have p188 : 0 ≤ (x74_3 : Int) := of_decide_eq_true (by first | (with_reducible assumption) | assumption)
             have q188 : x74_3 < (x6_2.length : Int) := of_decide_eq_true (by first | (with_reducible assumption) | assumption)
             obtain ⟨ad188, e188, hx188_0, hx188_1⟩ := at_T26 (Kd.R_reads' HO_6.out).2.2 x74_3 p188 q188
             obtain rfl : ad187 = ad188 := (by injection e188)
             replace p188 := eq_true p188
             replace q188 := eq_true q188
             refine start_ (n := 19) (S := fun w' => w'.cell? (ad187.add (((ji97)).toNat * 2)) = some (.int .i64 ((rd_T26 x6_2 (ji97)).f0)) ∧ w'.cell? ⟨(ad187.add (((ji97)).toNat * 2)).block, (ad187.add (((ji97)).toNat * 2)).off + 1, none⟩ = some (.int .i64 ((rd_T26 x6_2 (ji97)).f1)) ∧ w'.cell? (ad187.add ((x74_3).toNat * 2)) = some (.int .i64 ((rd_T26 x6_2 x74_3).f0)) ∧ w'.cell? ⟨(ad187.add ((x74_3).toNat * 2)).block, (ad187.add ((x74_3).toNat * 2)).off + 1, none⟩ = some (.int .i64 ((rd_T26 x6_2 x74_3).f1))) (ds := []) (pT 19 0) (by kernel_rfl) rfl rfl ⟨hx187_0, hx187_1, hx188_0, hx188_1⟩ (fun hHeld => ?_); refine with_tabW spec_meGaps.tab22 spec_meGaps.bits22 (fun HT_ HW_ => ?_)
             generalize wr.drew = w105 at HO_6 HO_13 BK129 HB hx187_0 hx187_1 hx188_0 hx188_1 hHeld ⊢
             iterate 7
              refine pI (v := ?_) (a' := ?_) rfl (any_of HT_.out (by kernel_rfl)) (fun _ _ _ h => h) (Or.inl ⟨by rfl, ?_⟩) ?_ ?_
              rotate_left
              ·intro w'
               go_simp
               with_reducible rfl
              rotate_left
              ·show Act.put _ (some _) _ = _
               simp only [Act.put, List.setIfInBounds_toArray, List.set_cons_zero, List.set_cons_succ, i64_w, i32_w]
               rfl
             refine pure_ (i := 8) (N := some 86) (v := ?_) (a' := ?_) #[true, true, true, true, true, true, true, false, true, false, false, false, false, false, false, false, false, false, false] rfl rfl (any_of HT_.out (by kernel_rfl)) (fun _ _ _ h => h) (Or.inl ⟨by rfl, ?_⟩) ?_ ?_
             rotate_left
             ·intro w'
              go_simp
              with_reducible rfl
             rotate_left
             ·simp only [Act.put, List.setIfInBounds_toArray, List.set_cons_zero, List.set_cons_succ, i64_w, i32_w]
              rfl
             refine pure_ (i := 9) (N := some 87) (v := ?_) (a' := ?_) #[true, true, true, true, true, true, true, false, true, true, false, false, false, false, false, false, false, false, false] rfl rfl (any_of HT_.out (by kernel_rfl)) (fun _ _ _ h => h) (Or.inl ⟨by rfl, ?_⟩) ?_ ?_
             rotate_left
             ·intro w'
              go_simp
              with_reducible rfl
             rotate_left
             ·simp only [Act.put, List.setIfInBounds_toArray, List.set_cons_zero, List.set_cons_succ, i64_w, i32_w]
              rfl
             refine pure_ (i := 10) (N := some 88) (v := ?_) (a' := ?_) #[true, true, true, true, true, true, true, false, true, true, true, false, false, false, false, false, false, false, false] rfl rfl (any_of HT_.out (by kernel_rfl)) (fun _ _ _ h => h) (Or.inl ⟨by rfl, ?_⟩) ?_ ?_
             rotate_left
             ·intro w'
              go_simp
              with_reducible rfl
             rotate_left
             ·simp only [Act.put, List.setIfInBounds_toArray, List.set_cons_zero, List.set_cons_succ, i64_w, i32_w]
              rfl
             refine take_ (i := 7) (N := some 85) (v := ?_) (a' := ?_) (pT 19 11) rfl rfl (take_ofW HT_.out HW_.out (by kernel_rfl)) (fun _ _ _ h => h) (Or.inl ⟨by rfl, ?_⟩) hHeld ?_ ?_
             rotate_left
             ·rintro w' ⟨s0, s1, s2, s3⟩
              go_simp
              with_reducible rfl
             rotate_left
             ·simp only [Act.put, List.setIfInBounds_toArray, List.set_cons_zero, List.set_cons_succ, i64_w, i32_w]
              rfl
             refine tI (v := ?_) (a' := ?_) rfl (take_ofW HT_.out HW_.out (by kernel_rfl)) (fun _ _ _ h => h) (Or.inl ⟨by rfl, ?_⟩) hHeld ?_ ?_
             rotate_left
             ·rintro w' ⟨s0, s1, s2, s3⟩
              go_simp
              with_reducible rfl
             rotate_left
             ·show Act.put _ (some _) _ = _
              simp only [Act.put, List.setIfInBounds_toArray, List.set_cons_zero, List.set_cons_succ, i64_w, i32_w]
              rfl
             refine join_ (σ := Nat) 2 (pT 19 17) (fun s_ => [(90, .tuple #[.agg #[.int .i64 t189, .int .i64 t190], .bool true]), (15, .pointer (some ⟨s_, 0, none⟩)), (77, .tuple #[.agg #[.int .i64 t189, .int .i64 t190], .bool true]), (91, .agg #[.int .i64 t189, .int .i64 t190]), (92, .bool true)]) (fun s_ w' => (w'.cell? (ad187.add (((ji97)).toNat * 2)) = some (.int .i64 ((rd_T26 x6_2 (ji97)).f0)) ∧ w'.cell? ⟨(ad187.add (((ji97)).toNat * 2)).block, (ad187.add (((ji97)).toNat * 2)).off + 1, none⟩ = some (.int .i64 ((rd_T26 x6_2 (ji97)).f1)) ∧ w'.cell? (ad187.add ((x74_3).toNat * 2)) = some (.int .i64 ((rd_T26 x6_2 x74_3).f0)) ∧ w'.cell? ⟨(ad187.add ((x74_3).toNat * 2)).block, (ad187.add ((x74_3).toNat * 2)).off + 1, none⟩ = some (.int .i64 ((rd_T26 x6_2 x74_3).f1))) ∧ (Kd.R k26 26 w' w.heap.size (fun k_ => some k_ ≠ (.slice (some ad187) x6_2.length co94 : Value).ownBlock ∧ k_ ≠ gb129 ∧ k_ ≠ s_) u13 x13_3) ∧ (Kd.R k26 26 w' w.heap.size (fun k_ => some k_ ≠ (u13 : Value).ownBlock ∧ k_ ≠ gb129 ∧ k_ ≠ s_) (.slice (some ad187) x6_2.length co94) x6_2) ∧ (w'.heap[gb129]? = some (.cells #[.int .i64 a1_0, .int .i64 a1_1] 26 (0, 0))) ∧ (w'.heap[s_]? = some (.cells #[.int .i64 0, .int .i64 0] 26 (0, 0))) ∧ (w.heap.size ≤ s_) ∧ (w.heap.size ≤ s_) ∧ (gb129 ≠ s_) ∧ (s_ ≠ gb129) ∧ (Below w.heap.size w w')) ?_ ?_
             rotate_left
             ·intro hCont
              refine two_ (i := 12) (j := 16) (Ni := some 90) (Nj := some 15) (pT 19 13) #[true, true, true, true, true, true, true, true, true, true, true, true, false, false, false, false, true, false, false] rfl rfl rfl rfl (two_of HT_.out (by kernel_rfl)) (by decide) (by decide) (fun K hK => ?_) (fun K hK => ?_)
              ·skip
               refine goes_ Try.func99 (by kernel_rfl) rfl #[.agg #[.int .i64 ((rd_T26 x6_2 (ji97)).f0), .int .i64 ((rd_T26 x6_2 (ji97)).f1)], .agg #[.int .i64 ((rd_T26 x6_2 x74_3).f0), .int .i64 ((rd_T26 x6_2 x74_3).f1)], .int .i64 (-1)] (by rfl) rfl rfl (by (try simp only [List.map_toArray, List.map_cons, List.map_nil]); first | done | (simp only [hji97]; rfl) | rfl | (simp only [List.length_drop, List.length_take]; rfl)) ?_
               with_reducible refine (spec_diAdd.calls k3 ((rd_T26 x6_2 (ji97)).f0) ((rd_T26 x6_2 (ji97)).f1) ((rd_T26 x6_2 x74_3).f0) ((rd_T26 x6_2 x74_3).f1) (-1) t189 t190 true _ A102.out).mono ?_
               rintro e w106 ⟨rfl, hb⟩
               have HS0_ := (hb.cell (World.block_lt_of_cell? _ _ (hHeld.1))).trans (hHeld.1)
               have HS1_ := (hb.cell (World.block_lt_of_cell? _ _ (hHeld.2.1))).trans (hHeld.2.1)
               have HS2_ := (hb.cell (World.block_lt_of_cell? _ _ (hHeld.2.2.1))).trans (hHeld.2.2.1)
               have HS3_ := (hb.cell (World.block_lt_of_cell? _ _ (hHeld.2.2.2))).trans (hHeld.2.2.2)
               refine ⟨_, rfl, ?_⟩
               have n0_ := Am (Kd.R_below (by (with_reducible repeat (first | apply Kd.R_alloc | apply Kd.R_drewN | apply Kd.R_drew)); exact HO_6.out) hb)
               have n1_ := Am (Kd.R_below (by (with_reducible repeat (first | apply Kd.R_alloc | apply Kd.R_drewN | apply Kd.R_drew)); exact HO_13.out) hb)
               have hp0 := hpA BK129.out hb (fun _ _ h_ => by (with_reducible repeat (first | refine kN ?_ _ | refine kD ?_ | refine kA ?_ _)); exact h_)
               have hv := hvK (w := w) hb (by repeat (first | (with_reducible first | exact HB.out | apply bA | apply bN | apply bD | refine bX ?_ (by assumption)) | exact HB.out))
               have n3_ := Am (bT hv hb)
               clear HO_6 HO_13 HB
               have HO_6 := n0_; have HO_13 := n1_
               replace BK129 := hp0 BK129
               have HB := n3_
               clear n0_ n1_ n3_ hp0 hv
               (try clear hb)
               refine hK.out _ _ ⟨HS0_, HS1_, HS2_, HS3_⟩ (fun hHeld => ?_)
               clear hK K
               refine norm_ (a' := ?_) ?_ ?_
               rotate_left
               ·show Act.put _ (some 90) _ = _
                simp only [Act.put, List.setIfInBounds_toArray, List.set_cons_zero, List.set_cons_succ, i64_w, i32_w]
                rfl
               iterate 3
                refine pI (v := ?_) (a' := ?_) rfl (any_of HT_.out (by kernel_rfl)) (fun _ _ _ h => h) (Or.inl ⟨by rfl, ?_⟩) ?_ ?_
                rotate_left
                ·intro w'
                 go_simp
                 with_reducible rfl
                rotate_left
                ·show Act.put _ (some _) _ = _
                 simp only [Act.put, List.setIfInBounds_toArray, List.set_cons_zero, List.set_cons_succ, i64_w, i32_w]
                 rfl
               refine one_ (i := 16) (N := some 15) (pT 19 17) rfl rfl (one_of HT_.out (by kernel_rfl)) (by decide) (fun K hK => ?_)
               refine box_step ?hg (N := 15) ?hd (cs := #[.int .i64 0, .int .i64 0]) (t := 26) ?hr ?_; (case hd => rfl); (case hg => rfl); (case hr => first | (go_simp; done) | (go_simp; rfl))
               intro gb192 hg w107 hbox hb
               have HS0_ := (hb.cell (World.block_lt_of_cell? _ _ (hHeld.1))).trans (hHeld.1)
               have HS1_ := (hb.cell (World.block_lt_of_cell? _ _ (hHeld.2.1))).trans (hHeld.2.1)
               have HS2_ := (hb.cell (World.block_lt_of_cell? _ _ (hHeld.2.2.1))).trans (hHeld.2.2.1)
               have HS3_ := (hb.cell (World.block_lt_of_cell? _ _ (hHeld.2.2.2))).trans (hHeld.2.2.2)
               have n0_ := Am (Kd.R_below (Kd.R_elderB (by (with_reducible repeat (first | apply Kd.R_alloc | apply Kd.R_drewN | apply Kd.R_drew)); exact HO_6.out) gb192 (Nat.le_of_eq hg.symm)) hb)
               have n1_ := Am (Kd.R_below (Kd.R_elderB (by (with_reducible repeat (first | apply Kd.R_alloc | apply Kd.R_drewN | apply Kd.R_drew)); exact HO_13.out) gb192 (Nat.le_of_eq hg.symm)) hb)
               have hp0 := hpA BK129.out hb (fun _ _ h_ => by (with_reducible repeat (first | refine kN ?_ _ | refine kD ?_ | refine kA ?_ _)); exact h_)
               have hv := hvK (w := w) hb (by repeat (first | (with_reducible first | exact HB.out | apply bA | apply bN | apply bD | refine bX ?_ (by assumption)) | exact HB.out))
               have n3_ := Am (bT hv hb)
               have n4_ := Am (hbox)
               have GW192 := kG hg hv
               have GE192 := kG hg hv
               have hp1 := hpK BK129.out hb (fun _ _ h_ => by (with_reducible repeat (first | refine kN ?_ _ | refine kD ?_ | refine kA ?_ _)); exact h_)
               have NB129_192 := kX hg (hp1 BK129.out)
               have NB192_129 := kY hg (hp1 BK129.out)
               clear HO_6 HO_13 HB
               have HO_6 := n0_; have HO_13 := n1_
               replace BK129 := hp0 BK129
               have HB := n3_; have BK192 := n4_
               clear n3_ n4_ hp0 hp1 hv hb hbox hg
               refine hK.out _ _ ⟨HS0_, HS1_, HS2_, HS3_⟩ (fun hHeld => ?_)
               clear hK K
               refine norm_ (a' := ?_) ?_ ?_
               rotate_left
               ·show Act.put _ (some 15) _ = _
                simp only [Act.put, List.setIfInBounds_toArray, List.set_cons_zero, List.set_cons_succ, i64_w, i32_w]
                rfl
               exact norm_ (by simp only [putAll, Act.put, List.setIfInBounds_toArray, List.set_cons_zero, List.set_cons_succ]) (hCont (gb192) _ ⟨hHeld, (by (with_reducible repeat (first | apply Kd.R_alloc | apply Kd.R_drewN | apply Kd.R_drew)); exact Kd.R_mono HO_13.out (fun _ hk => ⟨hk.1.1, ⟨hk.1.2, hk.2⟩⟩)), (by (with_reducible repeat (first | apply Kd.R_alloc | apply Kd.R_drewN | apply Kd.R_drew)); exact Kd.R_mono HO_6.out (fun _ hk => ⟨hk.1.1, ⟨hk.1.2, hk.2⟩⟩)), (by (with_reducible repeat (first | refine kN ?_ _ | refine kD ?_ | refine kA ?_ _)); exact BK129.out), (by (with_reducible repeat (first | refine kN ?_ _ | refine kD ?_ | refine kA ?_ _)); exact BK192.out), GW192.out, GE192.out, NB129_192.out, NB192_129.out, (by repeat (first | (with_reducible first | exact HB.out | apply bA | apply bN | apply bD | refine bX ?_ (by assumption)) | exact HB.out))⟩)
              skip
              refine box_step ?hg (N := 15) ?hd (cs := #[.int .i64 0, .int .i64 0]) (t := 26) ?hr ?_; (case hd => rfl); (case hg => rfl); (case hr => first | (go_simp; done) | (go_simp; rfl))
              intro gb192 hg w106 hbox hb
              have HS0_ := (hb.cell (World.block_lt_of_cell? _ _ (hHeld.1))).trans (hHeld.1)
              have HS1_ := (hb.cell (World.block_lt_of_cell? _ _ (hHeld.2.1))).trans (hHeld.2.1)
              have HS2_ := (hb.cell (World.block_lt_of_cell? _ _ (hHeld.2.2.1))).trans (hHeld.2.2.1)
              have HS3_ := (hb.cell (World.block_lt_of_cell? _ _ (hHeld.2.2.2))).trans (hHeld.2.2.2)
              have n0_ := Am (Kd.R_below (Kd.R_elderB (by (with_reducible repeat (first | apply Kd.R_alloc | apply Kd.R_drewN | apply Kd.R_drew)); exact HO_6.out) gb192 (Nat.le_of_eq hg.symm)) hb)
              have n1_ := Am (Kd.R_below (Kd.R_elderB (by (with_reducible repeat (first | apply Kd.R_alloc | apply Kd.R_drewN | apply Kd.R_drew)); exact HO_13.out) gb192 (Nat.le_of_eq hg.symm)) hb)
              have hp0 := hpA BK129.out hb (fun _ _ h_ => by (with_reducible repeat (first | refine kN ?_ _ | refine kD ?_ | refine kA ?_ _)); exact h_)
              have hv := hvK (w := w) hb (by repeat (first | (with_reducible first | exact HB.out | apply bA | apply bN | apply bD | refine bX ?_ (by assumption)) | exact HB.out))
              have n3_ := Am (bT hv hb)
              have n4_ := Am (hbox)
              have GW192 := kG hg hv
              have GE192 := kG hg hv
              have hp1 := hpK BK129.out hb (fun _ _ h_ => by (with_reducible repeat (first | refine kN ?_ _ | refine kD ?_ | refine kA ?_ _)); exact h_)
              have NB129_192 := kX hg (hp1 BK129.out)
              have NB192_129 := kY hg (hp1 BK129.out)
              clear HO_6 HO_13 HB
              have HO_6 := n0_; have HO_13 := n1_
              replace BK129 := hp0 BK129
              have HB := n3_; have BK192 := n4_
              clear n3_ n4_ hp0 hp1 hv hb hbox hg
              refine hK.out _ _ ⟨HS0_, HS1_, HS2_, HS3_⟩ (fun hHeld => ?_)
              clear hK K
              refine norm_ (a' := ?_) ?_ ?_
              rotate_left
              ·show Act.put _ (some 15) _ = _
               simp only [Act.put, List.setIfInBounds_toArray, List.set_cons_zero, List.set_cons_succ, i64_w, i32_w]
               rfl
              refine one_ (i := 12) (N := some 90) #[true, true, true, true, true, true, true, true, true, true, true, true, true, false, false, false, true, false, false] rfl rfl (one_of HT_.out (by kernel_rfl)) (by decide) (fun K hK => ?_)
              refine goes_ Try.func99 (by kernel_rfl) rfl #[.agg #[.int .i64 ((rd_T26 x6_2 (ji97)).f0), .int .i64 ((rd_T26 x6_2 (ji97)).f1)], .agg #[.int .i64 ((rd_T26 x6_2 x74_3).f0), .int .i64 ((rd_T26 x6_2 x74_3).f1)], .int .i64 (-1)] (by rfl) rfl rfl (by (try simp only [List.map_toArray, List.map_cons, List.map_nil]); first | done | (simp only [hji97]; rfl) | rfl | (simp only [List.length_drop, List.length_take]; rfl)) ?_
              with_reducible refine (spec_diAdd.calls k3 ((rd_T26 x6_2 (ji97)).f0) ((rd_T26 x6_2 (ji97)).f1) ((rd_T26 x6_2 x74_3).f0) ((rd_T26 x6_2 x74_3).f1) (-1) t189 t190 true _ A102.out).mono ?_
              rintro e w107 ⟨rfl, hb⟩
              have HS0_ := (hb.cell (World.block_lt_of_cell? _ _ (hHeld.1))).trans (hHeld.1)
              have HS1_ := (hb.cell (World.block_lt_of_cell? _ _ (hHeld.2.1))).trans (hHeld.2.1)
              have HS2_ := (hb.cell (World.block_lt_of_cell? _ _ (hHeld.2.2.1))).trans (hHeld.2.2.1)
              have HS3_ := (hb.cell (World.block_lt_of_cell? _ _ (hHeld.2.2.2))).trans (hHeld.2.2.2)
              refine ⟨_, rfl, ?_⟩
              have n0_ := Am (Kd.R_below (by (with_reducible repeat (first | apply Kd.R_alloc | apply Kd.R_drewN | apply Kd.R_drew)); exact HO_6.out) hb)
              have n1_ := Am (Kd.R_below (by (with_reducible repeat (first | apply Kd.R_alloc | apply Kd.R_drewN | apply Kd.R_drew)); exact HO_13.out) hb)
              have hp0 := hpA BK129.out hb (fun _ _ h_ => by (with_reducible repeat (first | refine kN ?_ _ | refine kD ?_ | refine kA ?_ _)); exact h_)
              have hv := hvK (w := w) hb (by repeat (first | (with_reducible first | exact HB.out | apply bA | apply bN | apply bD | refine bX ?_ (by assumption)) | exact HB.out))
              have n4_ := Am (bT hv hb)
              clear HO_6 HO_13 HB
              have HO_6 := n0_; have HO_13 := n1_
              replace BK129 := hp0 BK129; replace BK192 := hp0 BK192
              have HB := n4_
              clear n0_ n1_ n4_ hp0 hv
              (try clear hb)
              refine hK.out _ _ ⟨HS0_, HS1_, HS2_, HS3_⟩ (fun hHeld => ?_)
              clear hK K
              refine norm_ (a' := ?_) ?_ ?_
              rotate_left
              ·show Act.put _ (some 90) _ = _
               simp only [Act.put, List.setIfInBounds_toArray, List.set_cons_zero, List.set_cons_succ, i64_w, i32_w]
               rfl
              refine pure_ (i := 13) (N := some 77) (v := ?_) (a' := ?_) #[true, true, true, true, true, true, true, true, true, true, true, true, true, true, false, false, true, false, false] rfl rfl (any_of HT_.out (by kernel_rfl)) (fun _ _ _ h => h) (Or.inl ⟨by rfl, ?_⟩) ?_ ?_
              rotate_left
              ·intro w'
               go_simp
               with_reducible rfl
              rotate_left
              ·simp only [Act.put, List.setIfInBounds_toArray, List.set_cons_zero, List.set_cons_succ, i64_w, i32_w]
               rfl
              refine pure_ (i := 14) (N := some 91) (v := ?_) (a' := ?_) #[true, true, true, true, true, true, true, true, true, true, true, true, true, true, true, false, true, false, false] rfl rfl (any_of HT_.out (by kernel_rfl)) (fun _ _ _ h => h) (Or.inl ⟨by rfl, ?_⟩) ?_ ?_
              rotate_left
              ·intro w'
               go_simp
               with_reducible rfl
              rotate_left
              ·simp only [Act.put, List.setIfInBounds_toArray, List.set_cons_zero, List.set_cons_succ, i64_w, i32_w]
               rfl
              refine pure_ (i := 15) (N := some 92) (v := ?_) (a' := ?_) (pT 19 17) rfl rfl (any_of HT_.out (by kernel_rfl)) (fun _ _ _ h => h) (Or.inl ⟨by rfl, ?_⟩) ?_ ?_
              rotate_left
              ·intro w'
               go_simp
               with_reducible rfl
              rotate_left
              ·simp only [Act.put, List.setIfInBounds_toArray, List.set_cons_zero, List.set_cons_succ, i64_w, i32_w]
               rfl
              exact norm_ (by simp only [putAll, Act.put, List.setIfInBounds_toArray, List.set_cons_zero, List.set_cons_succ]) (hCont (gb192) _ ⟨hHeld, (by (with_reducible repeat (first | apply Kd.R_alloc | apply Kd.R_drewN | apply Kd.R_drew)); exact Kd.R_mono HO_13.out (fun _ hk => ⟨hk.1.1, ⟨hk.1.2, hk.2⟩⟩)), (by (with_reducible repeat (first | apply Kd.R_alloc | apply Kd.R_drewN | apply Kd.R_drew)); exact Kd.R_mono HO_6.out (fun _ hk => ⟨hk.1.1, ⟨hk.1.2, hk.2⟩⟩)), (by (with_reducible repeat (first | refine kN ?_ _ | refine kD ?_ | refine kA ?_ _)); exact BK129.out), (by (with_reducible repeat (first | refine kN ?_ _ | refine kD ?_ | refine kA ?_ _)); exact BK192.out), GW192.out, GE192.out, NB129_192.out, NB192_129.out, (by repeat (first | (with_reducible first | exact HB.out | apply bA | apply bN | apply bD | refine bX ?_ (by assumption)) | exact HB.out))⟩)
             rintro gb192 w108 ⟨hS_, h0_, h1_, h2_, h3_, h4_, h5_, h6_, h7_, h8_⟩
             have n0_ : Aside0 (Kd.R k26 26 w108 w.heap.size (fun k_ => some k_ ≠ (.slice (some ad187) x6_2.length co94 : Value).ownBlock ∧ k_ ≠ gb129 ∧ k_ ≠ gb192) u13 x13_3) := ⟨h0_⟩
             have n1_ : Aside0 (Kd.R k26 26 w108 w.heap.size (fun k_ => some k_ ≠ (u13 : Value).ownBlock ∧ k_ ≠ gb129 ∧ k_ ≠ gb192) (.slice (some ad187) x6_2.length co94) x6_2) := ⟨h1_⟩
             have n2_ : Aside0 (w108.heap[gb129]? = some (.cells #[.int .i64 a1_0, .int .i64 a1_1] 26 (0, 0))) := ⟨h2_⟩
             have n3_ : Aside0 (w108.heap[gb192]? = some (.cells #[.int .i64 0, .int .i64 0] 26 (0, 0))) := ⟨h3_⟩
             have n4_ : Aside0 (w.heap.size ≤ gb192) := ⟨h4_⟩
             have n5_ : Aside0 (w.heap.size ≤ gb192) := ⟨h5_⟩
             have n6_ : Aside0 (gb129 ≠ gb192) := ⟨h6_⟩
             have n7_ : Aside0 (gb192 ≠ gb129) := ⟨h7_⟩
             have n8_ : Aside0 (Below w.heap.size w w108) := ⟨h8_⟩
             clear HO_6 HO_13 BK129 HB h0_ h1_ h2_ h3_ h4_ h5_ h6_ h7_ h8_
             have HO_13 := n0_; have HO_6 := n1_; have BK129 := n2_; have BK192 := n3_; have GW192 := n4_; have GE192 := n5_; have NB129_192 := n6_; have NB192_129 := n7_; have HB := n8_
             clear n0_ n1_ n2_ n3_ n4_ n5_ n6_ n7_ n8_
             have hHeld : w108.cell? (ad187.add (((ji97)).toNat * 2)) = some (.int .i64 ((rd_T26 x6_2 (ji97)).f0)) ∧ w108.cell? ⟨(ad187.add (((ji97)).toNat * 2)).block, (ad187.add (((ji97)).toNat * 2)).off + 1, none⟩ = some (.int .i64 ((rd_T26 x6_2 (ji97)).f1)) ∧ w108.cell? (ad187.add ((x74_3).toNat * 2)) = some (.int .i64 ((rd_T26 x6_2 x74_3).f0)) ∧ w108.cell? ⟨(ad187.add ((x74_3).toNat * 2)).block, (ad187.add ((x74_3).toNat * 2)).off + 1, none⟩ = some (.int .i64 ((rd_T26 x6_2 x74_3).f1)) := hS_
             refine norm_ (a' := ?_) ?_ ?_
             rotate_left
             ·simp only [putAll, Act.put, List.setIfInBounds_toArray, List.set_cons_zero, List.set_cons_succ]
              rfl
             refine one_ (i := 17) (N := none) (pT 19 18) rfl rfl (one_of HT_.out (by kernel_rfl)) (by decide) (fun K hK => ?_)
             have hs109 : w108.cell? ⟨gb192, 0, none⟩ = some (.int .i64 0) := c20 BK192.out
             have hfs109 := kF BK192.out 0
             have hns109_0 := NB129_192.out; have hms109_0 := NB192_129.out
             have hs110 : w108.cell? ⟨gb192, 1, none⟩ = some (.int .i64 0) := c21 BK192.out
             have hfs110 := kF BK192.out 1
             have hns110_0 := NB129_192.out; have hms110_0 := NB192_129.out
             refine skip_ (w1 := ?_) (by rfl) rfl ?_ ?_
             rotate_left
             ·go_simp
              rfl
             refine hK.out _ _ ⟨((cell_far (p := ⟨gb192, _, none⟩) (by first | exact Kd.own_blk (Kd.R_away HO_6.out (fun _ hk => hk.2.2)) | (rw [add_block]; exact Kd.own_blk (Kd.R_away HO_6.out (fun _ hk => hk.2.2))) | (show (Addr.add _ _).block ≠ _; rw [add_block]; exact Kd.own_blk (Kd.R_away HO_6.out (fun _ hk => hk.2.2))) | (dsimp only; exact Kd.own_blk (Kd.R_away HO_6.out (fun _ hk => hk.2.2)))) _).trans (((cell_far (p := ⟨gb192, _, none⟩) (by first | exact Kd.own_blk (Kd.R_away HO_6.out (fun _ hk => hk.2.2)) | (rw [add_block]; exact Kd.own_blk (Kd.R_away HO_6.out (fun _ hk => hk.2.2))) | (show (Addr.add _ _).block ≠ _; rw [add_block]; exact Kd.own_blk (Kd.R_away HO_6.out (fun _ hk => hk.2.2))) | (dsimp only; exact Kd.own_blk (Kd.R_away HO_6.out (fun _ hk => hk.2.2)))) _).trans (hHeld.1)))), ((cell_far (p := ⟨gb192, _, none⟩) (by first | exact Kd.own_blk (Kd.R_away HO_6.out (fun _ hk => hk.2.2)) | (rw [add_block]; exact Kd.own_blk (Kd.R_away HO_6.out (fun _ hk => hk.2.2))) | (show (Addr.add _ _).block ≠ _; rw [add_block]; exact Kd.own_blk (Kd.R_away HO_6.out (fun _ hk => hk.2.2))) | (dsimp only; exact Kd.own_blk (Kd.R_away HO_6.out (fun _ hk => hk.2.2)))) _).trans (((cell_far (p := ⟨gb192, _, none⟩) (by first | exact Kd.own_blk (Kd.R_away HO_6.out (fun _ hk => hk.2.2)) | (rw [add_block]; exact Kd.own_blk (Kd.R_away HO_6.out (fun _ hk => hk.2.2))) | (show (Addr.add _ _).block ≠ _; rw [add_block]; exact Kd.own_blk (Kd.R_away HO_6.out (fun _ hk => hk.2.2))) | (dsimp only; exact Kd.own_blk (Kd.R_away HO_6.out (fun _ hk => hk.2.2)))) _).trans (hHeld.2.1)))), ((cell_far (p := ⟨gb192, _, none⟩) (by first | exact Kd.own_blk (Kd.R_away HO_6.out (fun _ hk => hk.2.2)) | (rw [add_block]; exact Kd.own_blk (Kd.R_away HO_6.out (fun _ hk => hk.2.2))) | (show (Addr.add _ _).block ≠ _; rw [add_block]; exact Kd.own_blk (Kd.R_away HO_6.out (fun _ hk => hk.2.2))) | (dsimp only; exact Kd.own_blk (Kd.R_away HO_6.out (fun _ hk => hk.2.2)))) _).trans (((cell_far (p := ⟨gb192, _, none⟩) (by first | exact Kd.own_blk (Kd.R_away HO_6.out (fun _ hk => hk.2.2)) | (rw [add_block]; exact Kd.own_blk (Kd.R_away HO_6.out (fun _ hk => hk.2.2))) | (show (Addr.add _ _).block ≠ _; rw [add_block]; exact Kd.own_blk (Kd.R_away HO_6.out (fun _ hk => hk.2.2))) | (dsimp only; exact Kd.own_blk (Kd.R_away HO_6.out (fun _ hk => hk.2.2)))) _).trans (hHeld.2.2.1)))), ((cell_far (p := ⟨gb192, _, none⟩) (by first | exact Kd.own_blk (Kd.R_away HO_6.out (fun _ hk => hk.2.2)) | (rw [add_block]; exact Kd.own_blk (Kd.R_away HO_6.out (fun _ hk => hk.2.2))) | (show (Addr.add _ _).block ≠ _; rw [add_block]; exact Kd.own_blk (Kd.R_away HO_6.out (fun _ hk => hk.2.2))) | (dsimp only; exact Kd.own_blk (Kd.R_away HO_6.out (fun _ hk => hk.2.2)))) _).trans (((cell_far (p := ⟨gb192, _, none⟩) (by first | exact Kd.own_blk (Kd.R_away HO_6.out (fun _ hk => hk.2.2)) | (rw [add_block]; exact Kd.own_blk (Kd.R_away HO_6.out (fun _ hk => hk.2.2))) | (show (Addr.add _ _).block ≠ _; rw [add_block]; exact Kd.own_blk (Kd.R_away HO_6.out (fun _ hk => hk.2.2))) | (dsimp only; exact Kd.own_blk (Kd.R_away HO_6.out (fun _ hk => hk.2.2)))) _).trans (hHeld.2.2.2))))⟩ (fun hHeld => ?_)
             clear hK K
             refine pI (v := ?_) (a' := ?_) rfl (any_of HT_.out (by kernel_rfl)) (fun _ _ _ h => h) (Or.inl ⟨by rfl, ?_⟩) ?_ ?_
             rotate_left
             ·intro w'
              go_simp
              with_reducible rfl
             rotate_left
             ·show Act.put _ (some _) _ = _
              simp only [Act.put, List.setIfInBounds_toArray, List.set_cons_zero, List.set_cons_succ, i64_w, i32_w]
              rfl
             refine done_ (done_of HT_.out (by kernel_rfl)) ?_
             have hnb111 := NB192_129.out; have hnc111 := NB129_192.out
             have hcz112_0 := c20 BK192.out
             have hcz112_1 := c21 BK192.out
             have hfz112_0 := kF BK192.out 0
             have hfz112_1 := kF BK192.out 1
             try go_wp2_with (first | ((with_reducible refine gate_dst (N := 97) rfl ?_); refine Kd.R_lit k26 _ 26 ?hg (N := 97) ?hd (xs := ([(⟨t189, t190⟩ : S26)] : List (S26))) (inner := [.int .i64 t189, .int .i64 t190]) (ok := fun _ => True) (okp := fun _ => True) ?hr ?hp (fun _ hk => hk) trivial (Below.refl _ _) (Nat.le_refl _) (by simp) ?_; (case hd => rfl); (case hg => rfl); (case hr => first | (go_simp; done) | (go_simp; rfl)); (case hp => exact (Reps.c2 (show Kd.M k26 _ _ _ (⟨t189, t190⟩ : S26) [.int .i64 t189, .int .i64 t190] from (k26_mkM _ _ _ (⟨t189, t190⟩ : S26) )) (Reps.none _ _))); intro v194 w113 ho114 hb hg_ hnew_; clear hg_ hnew_; (first | rw [← Ny193.out] at ho114 | (simp only [Int.reduceToNat] at ho114; rw [← Ny193.out] at ho114)); have n0_ := Am (Kd.R_elder' (by (with_reducible repeat (first | apply Kd.R_alloc | apply Kd.R_drewN | apply Kd.R_drew)); exact (Kd.R_mono (Kd.R_far (p := ⟨gb192, 1, none⟩) (Kd.R_far (p := ⟨gb192, 0, none⟩) (Kd.R_mono HO_6.out (fun k_ hk => (⟨hk, hk.2.2⟩ : _ ∧ k_ ≠ gb192))) (fun _ hk => hk.2) (.int .i64 t189)) (fun _ hk => hk.2) (.int .i64 t190)) (fun _ h_ => h_.1))) (Kd.R_base ho114) hb); have n1_ := Am (Kd.R_elder' (by (with_reducible repeat (first | apply Kd.R_alloc | apply Kd.R_drewN | apply Kd.R_drew)); exact (Kd.R_mono (Kd.R_far (p := ⟨gb192, 1, none⟩) (Kd.R_far (p := ⟨gb192, 0, none⟩) (Kd.R_mono HO_13.out (fun k_ hk => (⟨hk, hk.2.2⟩ : _ ∧ k_ ≠ gb192))) (fun _ hk => hk.2) (.int .i64 t189)) (fun _ hk => hk.2) (.int .i64 t190)) (fun _ h_ => h_.1))) (Kd.R_base ho114) hb); have n2_ := Am (Kd.R_lower (Kd.R_newB (Kd.R_newB (Kd.R_new' (Kd.R_new' ho114 (Kd.R_lt (by (with_reducible repeat (first | apply Kd.R_alloc | apply Kd.R_drewN | apply Kd.R_drew)); exact (Kd.R_mono (Kd.R_far (p := ⟨gb192, 1, none⟩) (Kd.R_far (p := ⟨gb192, 0, none⟩) (Kd.R_mono HO_6.out (fun k_ hk => (⟨hk, hk.2.2⟩ : _ ∧ k_ ≠ gb192))) (fun _ hk => hk.2) (.int .i64 t189)) (fun _ hk => hk.2) (.int .i64 t190)) (fun _ h_ => h_.1))))) (Kd.R_lt (by (with_reducible repeat (first | apply Kd.R_alloc | apply Kd.R_drewN | apply Kd.R_drew)); exact (Kd.R_mono (Kd.R_far (p := ⟨gb192, 1, none⟩) (Kd.R_far (p := ⟨gb192, 0, none⟩) (Kd.R_mono HO_13.out (fun k_ hk => (⟨hk, hk.2.2⟩ : _ ∧ k_ ≠ gb192))) (fun _ hk => hk.2) (.int .i64 t189)) (fun _ hk => hk.2) (.int .i64 t190)) (fun _ h_ => h_.1))))) (g := gb129) (o := .cells #[.int .i64 a1_0, .int .i64 a1_1] 26 (0, 0)) (by (with_reducible repeat (first | refine kN ?_ _ | refine kD ?_ | refine kA ?_ _)); refine kR ?_ NB129_192.out _; (with_reducible repeat (first | refine kN ?_ _ | refine kD ?_ | refine kA ?_ _)); refine kR ?_ NB129_192.out _; (with_reducible repeat (first | refine kN ?_ _ | refine kD ?_ | refine kA ?_ _)); exact BK129.out)) (g := gb192) (o := .cells #[.int .i64 t189, .int .i64 t190] 26 (0, 0)) (by (with_reducible repeat (first | refine kN ?_ _ | refine kD ?_ | refine kA ?_ _)); refine kP (cs := #[.int .i64 t189, .int .i64 0]) ?_ 1 _ rfl; (with_reducible repeat (first | refine kN ?_ _ | refine kD ?_ | refine kA ?_ _)); refine kP (cs := #[.int .i64 0, .int .i64 0]) ?_ 0 _ rfl; (with_reducible repeat (first | refine kN ?_ _ | refine kD ?_ | refine kA ?_ _)); exact BK192.out)) (bZ (by repeat (first | (with_reducible first | exact HB.out | apply bA | apply bN | apply bD | refine bX ?_ (by assumption)) | exact HB.out)))); have hp0 := hpB gb192 BK129.out hb (fun _ _ q_ h_ => by (with_reducible repeat (first | refine kN ?_ _ | refine kD ?_ | refine kA ?_ _ | refine kZ ?_ q_ _)); exact h_); have n4_ := Am (kB (g := gb192) (o := .cells #[.int .i64 t189, .int .i64 t190] 26 (0, 0)) (by (with_reducible repeat (first | refine kN ?_ _ | refine kD ?_ | refine kA ?_ _)); refine kP (cs := #[.int .i64 t189, .int .i64 0]) ?_ 1 _ rfl; (with_reducible repeat (first | refine kN ?_ _ | refine kD ?_ | refine kA ?_ _)); refine kP (cs := #[.int .i64 0, .int .i64 0]) ?_ 0 _ rfl; (with_reducible repeat (first | refine kN ?_ _ | refine kD ?_ | refine kA ?_ _)); exact BK192.out) hb); have hv := hvK (w := w) hb (by repeat (first | (with_reducible first | exact HB.out | apply bA | apply bN | apply bD | refine bX ?_ (by assumption)) | exact HB.out)); have n5_ := Am (bT hv hb); clear HO_6; clear HO_13; clear BK192; clear HB; have HO_6 := n0_; have HO_13 := n1_; have HO195 := n2_; replace BK129 := hp0 NB129_192 BK129; have BK192 := n4_; have HB := n5_; clear n0_ n1_ n2_ n4_ n5_ hp0 hv; clear hb ho114; obtain ⟨Ao116, co116, eo116⟩ := Kd.R_slice HO195.out; subst eo116) | ((with_reducible refine gate_builtin (b := .append) (xs := #[.tmp 95, .tmp 97]) rfl ?_); at_builtin; refine Kd.R_append_rows k26 (w0 := w) w.heap.size rfl (.tmp 95) (.tmp 97) 35 26 (.agg #[(.int .i64 0), (.int .i64 0)]) 16 rfl Try.underlying35 info26 rfl (by decide) (by omega) u13 x13_3 y193 _ _ _ (fun k_ => some k_ ≠ (.slice (some ad187) x6_2.length co94 : Value).ownBlock ∧ some k_ ≠ (.slice Ao116 y193.length co116 : Value).ownBlock ∧ k_ ≠ gb129 ∧ k_ ≠ gb192) (fun _ => False) rfl rfl ?aO ?aR (fun _ _ h => h) (fun _ h => h.elim) ?aF ?aB ?aS ?aL ?_; (case aR => repeat (first | exact (Kd.R_reads' HO195.out).2.2 | (with_reducible refine Kd.C_alloc ?_ _) | (with_reducible refine Kd.C_drewN ?_ _) | (with_reducible refine Kd.C_drew ?_))); (case aB => exact (by repeat (first | (with_reducible first | exact HB.out | apply bA | apply bN | apply bD | refine bX ?_ (by assumption)) | exact HB.out))); (case aF => exact (fun k_ hk => ⟨Kd.fresh' (Kd.R_lt (by (with_reducible repeat (first | apply Kd.R_alloc | apply Kd.R_drewN | apply Kd.R_drew)); exact HO_6.out)) k_ hk, Kd.fresh' (Kd.R_lt (by (with_reducible repeat (first | apply Kd.R_alloc | apply Kd.R_drewN | apply Kd.R_drew)); exact HO195.out)) k_ hk, Kd.freshB (g := gb129) (o := .cells #[.int .i64 a1_0, .int .i64 a1_1] 26 (0, 0)) (by (with_reducible repeat (first | refine kN ?_ _ | refine kD ?_ | refine kA ?_ _)); exact BK129.out) k_ hk, Kd.freshB (g := gb192) (o := .cells #[.int .i64 t189, .int .i64 t190] 26 (0, 0)) (by (with_reducible repeat (first | refine kN ?_ _ | refine kD ?_ | refine kA ?_ _)); exact BK192.out) k_ hk⟩)); (case aO => exact (by (with_reducible repeat (first | apply Kd.R_alloc | apply Kd.R_drewN | apply Kd.R_drew)); exact Kd.R_mono HO_13.out (fun _ hk => ⟨hk.1.1, ⟨hk.2, ⟨hk.1.2.1, hk.1.2.2⟩⟩⟩))); (case aS => exact (bZ (by repeat (first | (with_reducible first | exact HB.out | apply bA | apply bN | apply bD | refine bX ?_ (by assumption)) | exact HB.out)))); (case aL => have := LMc104.out; omega); intro v197 w115 ho hb hg hat; rw [← Ny196.out] at ho; have n0_ := Am (Kd.R_after (ok := (fun k_ => some k_ ≠ (.slice Ao116 y193.length co116 : Value).ownBlock ∧ k_ ≠ gb129 ∧ k_ ≠ gb192)) (by (with_reducible repeat (first | apply Kd.R_alloc | apply Kd.R_drewN | apply Kd.R_drew)); exact Kd.R_mono HO_6.out (fun _ hk => ⟨⟨hk.2, ⟨hk.1.2.1, hk.1.2.2⟩⟩, hk.1.1⟩)) hg hat); have n1_ := Am (blk_grown (g := gb129) (o := .cells #[.int .i64 a1_0, .int .i64 a1_1] 26 (0, 0)) (by (with_reducible repeat (first | refine kN ?_ _ | refine kD ?_ | refine kA ?_ _)); exact BK129.out) hg (Kd.R_away HO_13.out (fun _ hk => hk.1.2.1))); have n2_ := Am (blk_grown (g := gb192) (o := .cells #[.int .i64 t189, .int .i64 t190] 26 (0, 0)) (by (with_reducible repeat (first | refine kN ?_ _ | refine kD ?_ | refine kA ?_ _)); exact BK192.out) hg (Kd.R_away HO_13.out (fun _ hk => hk.1.2.2))); have n3_ := Am (Kd.R_after (ok := (fun k_ => some k_ ≠ (.slice (some ad187) x6_2.length co94 : Value).ownBlock ∧ k_ ≠ gb129 ∧ k_ ≠ gb192)) (by (with_reducible repeat (first | apply Kd.R_alloc | apply Kd.R_drewN | apply Kd.R_drew)); exact Kd.R_mono HO195.out (fun _ hk => ⟨⟨hk.1.1.1.2, ⟨hk.1.2, hk.2⟩⟩, hk.1.1.2⟩)) hg hat); have n4_ := Am (hb); have n5_ := Am (ho); clear HO_6; clear BK129; clear BK192; clear HO195; clear HB; clear HO_13; have HO_6 := n0_; have BK129 := n1_; have BK192 := n2_; have HO195 := n3_; have HB := n4_; have HO198 := n5_; clear n0_ n1_ n2_ n3_ n4_ n5_; clear ho hb hg hat))
             go_roundg k3
             case measure => have := HJ2.out; have := HK2.out; have := HK3.out; omega
             case rel => exact ⟨(y196), (wrap64 (x74_3 + 1)), (by first | rfl | (simp; done) | (simp [*]; done)), H', ⟨by have := HJ2.out; have := HK2.out; have := HK3.out; omega⟩, ⟨by (with_reducible repeat (first | apply Kd.R_alloc | apply Kd.R_drewN | apply Kd.R_drew)); exact Kd.R_mono HO_6.out (fun _ hk => ⟨hk.2, hk.1.2.1⟩)⟩, ⟨by (with_reducible repeat (first | apply Kd.R_alloc | apply Kd.R_drewN | apply Kd.R_drew)); exact Kd.R_mono HO198.out (fun _ hk => ⟨hk.1, hk.2.2.1⟩)⟩, ⟨by (with_reducible repeat (first | refine kN ?_ _ | refine kD ?_ | refine kA ?_ _)); exact BK129.out⟩, ⟨by repeat (first | (with_reducible first | exact HB.out | apply bA | apply bN | apply bD | refine bX ?_ (by assumption)) | exact HB.out)⟩⟩
            rw [if_neg c104] at H
            exact absurd H (by simp)
           replace c103 := Bool.eq_false_iff.mpr c103
           subst c103
           have H1 : (some (([] : List (S26)), false)) = some (r1, r2) := by rw [if_neg (show ¬ (false = true) by decide)] at H; exact H
           clear H
           have H := H1
           clear H1
           simp only [Option.some.injEq, Prod.mk.injEq] at H
           obtain ⟨rfl, rfl⟩ := H
           try go_wp2
           have n0_ := Am (Kd.R_drew HO_6.out)
           have n1_ := Am (Kd.R_drew HO_13.out)
           have n2_ := Am (kD BK129.out)
           have n3_ := Am (bD HB.out)
           clear HO_6 HO_13 BK129 HB
           have HO_6 := n0_; have HO_13 := n1_; have BK129 := n2_; have HB := n3_
           clear n0_ n1_ n2_ n3_
           have p187 : 0 ≤ ((ji97) : Int) := of_decide_eq_true (by first | (with_reducible assumption) | assumption)
           have q187 : (ji97) < (x6_2.length : Int) := of_decide_eq_true (by first | (with_reducible assumption) | assumption)
           obtain ⟨ad187, e187, hx187_0, hx187_1⟩ := at_T26 (Kd.R_reads' HO_6.out).2.2 (ji97) p187 q187
           cases e187
           replace p187 := eq_true p187
           replace q187 := eq_true q187
           have p188 : 0 ≤ (x74_3 : Int) := of_decide_eq_true (by first | (with_reducible assumption) | assumption)
           have q188 : x74_3 < (x6_2.length : Int) := of_decide_eq_true (by first | (with_reducible assumption) | assumption)
           obtain ⟨ad188, e188, hx188_0, hx188_1⟩ := at_T26 (Kd.R_reads' HO_6.out).2.2 x74_3 p188 q188
           obtain rfl : ad187 = ad188 := (by injection e188)
           replace p188 := eq_true p188
           replace q188 := eq_true q188
           refine start_ (n := 19) (S := fun w' => w'.cell? (ad187.add (((ji97)).toNat * 2)) = some (.int .i64 ((rd_T26 x6_2 (ji97)).f0)) ∧ w'.cell? ⟨(ad187.add (((ji97)).toNat * 2)).block, (ad187.add (((ji97)).toNat * 2)).off + 1, none⟩ = some (.int .i64 ((rd_T26 x6_2 (ji97)).f1)) ∧ w'.cell? (ad187.add ((x74_3).toNat * 2)) = some (.int .i64 ((rd_T26 x6_2 x74_3).f0)) ∧ w'.cell? ⟨(ad187.add ((x74_3).toNat * 2)).block, (ad187.add ((x74_3).toNat * 2)).off + 1, none⟩ = some (.int .i64 ((rd_T26 x6_2 x74_3).f1))) (ds := []) (pT 19 0) (by kernel_rfl) rfl rfl ⟨hx187_0, hx187_1, hx188_0, hx188_1⟩ (fun hHeld => ?_); refine with_tabW spec_meGaps.tab22 spec_meGaps.bits22 (fun HT_ HW_ => ?_)
           generalize wr.drew = w117 at HO_6 HO_13 BK129 HB hx187_0 hx187_1 hx188_0 hx188_1 hHeld ⊢
           iterate 7
            refine pI (v := ?_) (a' := ?_) rfl (any_of HT_.out (by kernel_rfl)) (fun _ _ _ h => h) (Or.inl ⟨by rfl, ?_⟩) ?_ ?_
            rotate_left
            ·intro w'
             go_simp
             with_reducible rfl
            rotate_left
            ·show Act.put _ (some _) _ = _
             simp only [Act.put, List.setIfInBounds_toArray, List.set_cons_zero, List.set_cons_succ, i64_w, i32_w]
             rfl
           refine pure_ (i := 8) (N := some 86) (v := ?_) (a' := ?_) #[true, true, true, true, true, true, true, false, true, false, false, false, false, false, false, false, false, false, false] rfl rfl (any_of HT_.out (by kernel_rfl)) (fun _ _ _ h => h) (Or.inl ⟨by rfl, ?_⟩) ?_ ?_
           rotate_left
           ·intro w'
            go_simp
            with_reducible rfl
           rotate_left
           ·simp only [Act.put, List.setIfInBounds_toArray, List.set_cons_zero, List.set_cons_succ, i64_w, i32_w]
            rfl
           refine pure_ (i := 9) (N := some 87) (v := ?_) (a' := ?_) #[true, true, true, true, true, true, true, false, true, true, false, false, false, false, false, false, false, false, false] rfl rfl (any_of HT_.out (by kernel_rfl)) (fun _ _ _ h => h) (Or.inl ⟨by rfl, ?_⟩) ?_ ?_
           rotate_left
           ·intro w'
            go_simp
            with_reducible rfl
           rotate_left
           ·simp only [Act.put, List.setIfInBounds_toArray, List.set_cons_zero, List.set_cons_succ, i64_w, i32_w]
            rfl
           refine pure_ (i := 10) (N := some 88) (v := ?_) (a' := ?_) #[true, true, true, true, true, true, true, false, true, true, true, false, false, false, false, false, false, false, false] rfl rfl (any_of HT_.out (by kernel_rfl)) (fun _ _ _ h => h) (Or.inl ⟨by rfl, ?_⟩) ?_ ?_
           rotate_left
           ·intro w'
            go_simp
            with_reducible rfl
           rotate_left
           ·simp only [Act.put, List.setIfInBounds_toArray, List.set_cons_zero, List.set_cons_succ, i64_w, i32_w]
            rfl
           refine take_ (i := 7) (N := some 85) (v := ?_) (a' := ?_) (pT 19 11) rfl rfl (take_ofW HT_.out HW_.out (by kernel_rfl)) (fun _ _ _ h => h) (Or.inl ⟨by rfl, ?_⟩) hHeld ?_ ?_
           rotate_left
           ·rintro w' ⟨s0, s1, s2, s3⟩
            go_simp
            with_reducible rfl
           rotate_left
           ·simp only [Act.put, List.setIfInBounds_toArray, List.set_cons_zero, List.set_cons_succ, i64_w, i32_w]
            rfl
           refine tI (v := ?_) (a' := ?_) rfl (take_ofW HT_.out HW_.out (by kernel_rfl)) (fun _ _ _ h => h) (Or.inl ⟨by rfl, ?_⟩) hHeld ?_ ?_
           rotate_left
           ·rintro w' ⟨s0, s1, s2, s3⟩
            go_simp
            with_reducible rfl
           rotate_left
           ·show Act.put _ (some _) _ = _
            simp only [Act.put, List.setIfInBounds_toArray, List.set_cons_zero, List.set_cons_succ, i64_w, i32_w]
            rfl
           refine join_ (σ := Nat) 2 (pT 19 17) (fun s_ => [(90, .tuple #[.agg #[.int .i64 t189, .int .i64 t190], .bool false]), (15, .pointer (some ⟨s_, 0, none⟩)), (77, .tuple #[.agg #[.int .i64 t189, .int .i64 t190], .bool false]), (91, .agg #[.int .i64 t189, .int .i64 t190]), (92, .bool false)]) (fun s_ w' => (w'.cell? (ad187.add (((ji97)).toNat * 2)) = some (.int .i64 ((rd_T26 x6_2 (ji97)).f0)) ∧ w'.cell? ⟨(ad187.add (((ji97)).toNat * 2)).block, (ad187.add (((ji97)).toNat * 2)).off + 1, none⟩ = some (.int .i64 ((rd_T26 x6_2 (ji97)).f1)) ∧ w'.cell? (ad187.add ((x74_3).toNat * 2)) = some (.int .i64 ((rd_T26 x6_2 x74_3).f0)) ∧ w'.cell? ⟨(ad187.add ((x74_3).toNat * 2)).block, (ad187.add ((x74_3).toNat * 2)).off + 1, none⟩ = some (.int .i64 ((rd_T26 x6_2 x74_3).f1))) ∧ (Kd.R k26 26 w' w.heap.size (fun k_ => some k_ ≠ (.slice (some ad187) x6_2.length co94 : Value).ownBlock ∧ k_ ≠ gb129 ∧ k_ ≠ s_) u13 x13_3) ∧ (Kd.R k26 26 w' w.heap.size (fun k_ => some k_ ≠ (u13 : Value).ownBlock ∧ k_ ≠ gb129 ∧ k_ ≠ s_) (.slice (some ad187) x6_2.length co94) x6_2) ∧ (w'.heap[gb129]? = some (.cells #[.int .i64 a1_0, .int .i64 a1_1] 26 (0, 0))) ∧ (w'.heap[s_]? = some (.cells #[.int .i64 0, .int .i64 0] 26 (0, 0))) ∧ (w.heap.size ≤ s_) ∧ (w.heap.size ≤ s_) ∧ (gb129 ≠ s_) ∧ (s_ ≠ gb129) ∧ (Below w.heap.size w w')) ?_ ?_
           rotate_left
           ·intro hCont
            refine two_ (i := 12) (j := 16) (Ni := some 90) (Nj := some 15) (pT 19 13) #[true, true, true, true, true, true, true, true, true, true, true, true, false, false, false, false, true, false, false] rfl rfl rfl rfl (two_of HT_.out (by kernel_rfl)) (by decide) (by decide) (fun K hK => ?_) (fun K hK => ?_)
            ·skip
             refine goes_ Try.func99 (by kernel_rfl) rfl #[.agg #[.int .i64 ((rd_T26 x6_2 (ji97)).f0), .int .i64 ((rd_T26 x6_2 (ji97)).f1)], .agg #[.int .i64 ((rd_T26 x6_2 x74_3).f0), .int .i64 ((rd_T26 x6_2 x74_3).f1)], .int .i64 (-1)] (by rfl) rfl rfl (by (try simp only [List.map_toArray, List.map_cons, List.map_nil]); first | done | (simp only [hji97]; rfl) | rfl | (simp only [List.length_drop, List.length_take]; rfl)) ?_
             with_reducible refine (spec_diAdd.calls k3 ((rd_T26 x6_2 (ji97)).f0) ((rd_T26 x6_2 (ji97)).f1) ((rd_T26 x6_2 x74_3).f0) ((rd_T26 x6_2 x74_3).f1) (-1) t189 t190 false _ A102.out).mono ?_
             rintro e w118 ⟨rfl, hb⟩
             have HS0_ := (hb.cell (World.block_lt_of_cell? _ _ (hHeld.1))).trans (hHeld.1)
             have HS1_ := (hb.cell (World.block_lt_of_cell? _ _ (hHeld.2.1))).trans (hHeld.2.1)
             have HS2_ := (hb.cell (World.block_lt_of_cell? _ _ (hHeld.2.2.1))).trans (hHeld.2.2.1)
             have HS3_ := (hb.cell (World.block_lt_of_cell? _ _ (hHeld.2.2.2))).trans (hHeld.2.2.2)
             refine ⟨_, rfl, ?_⟩
             have n0_ := Am (Kd.R_below (by (with_reducible repeat (first | apply Kd.R_alloc | apply Kd.R_drewN | apply Kd.R_drew)); exact HO_6.out) hb)
             have n1_ := Am (Kd.R_below (by (with_reducible repeat (first | apply Kd.R_alloc | apply Kd.R_drewN | apply Kd.R_drew)); exact HO_13.out) hb)
             have hp0 := hpA BK129.out hb (fun _ _ h_ => by (with_reducible repeat (first | refine kN ?_ _ | refine kD ?_ | refine kA ?_ _)); exact h_)
             have hv := hvK (w := w) hb (by repeat (first | (with_reducible first | exact HB.out | apply bA | apply bN | apply bD | refine bX ?_ (by assumption)) | exact HB.out))
             have n3_ := Am (bT hv hb)
             clear HO_6 HO_13 HB
             have HO_6 := n0_; have HO_13 := n1_
             replace BK129 := hp0 BK129
             have HB := n3_
             clear n0_ n1_ n3_ hp0 hv
             (try clear hb)
             refine hK.out _ _ ⟨HS0_, HS1_, HS2_, HS3_⟩ (fun hHeld => ?_)
             clear hK K
             refine norm_ (a' := ?_) ?_ ?_
             rotate_left
             ·show Act.put _ (some 90) _ = _
              simp only [Act.put, List.setIfInBounds_toArray, List.set_cons_zero, List.set_cons_succ, i64_w, i32_w]
              rfl
             iterate 3
              refine pI (v := ?_) (a' := ?_) rfl (any_of HT_.out (by kernel_rfl)) (fun _ _ _ h => h) (Or.inl ⟨by rfl, ?_⟩) ?_ ?_
              rotate_left
              ·intro w'
               go_simp
               with_reducible rfl
              rotate_left
              ·show Act.put _ (some _) _ = _
               simp only [Act.put, List.setIfInBounds_toArray, List.set_cons_zero, List.set_cons_succ, i64_w, i32_w]
               rfl
             refine one_ (i := 16) (N := some 15) (pT 19 17) rfl rfl (one_of HT_.out (by kernel_rfl)) (by decide) (fun K hK => ?_)
             refine box_step ?hg (N := 15) ?hd (cs := #[.int .i64 0, .int .i64 0]) (t := 26) ?hr ?_; (case hd => rfl); (case hg => rfl); (case hr => first | (go_simp; done) | (go_simp; rfl))
             intro gb192 hg w119 hbox hb
             have HS0_ := (hb.cell (World.block_lt_of_cell? _ _ (hHeld.1))).trans (hHeld.1)
             have HS1_ := (hb.cell (World.block_lt_of_cell? _ _ (hHeld.2.1))).trans (hHeld.2.1)
             have HS2_ := (hb.cell (World.block_lt_of_cell? _ _ (hHeld.2.2.1))).trans (hHeld.2.2.1)
             have HS3_ := (hb.cell (World.block_lt_of_cell? _ _ (hHeld.2.2.2))).trans (hHeld.2.2.2)
             have n0_ := Am (Kd.R_below (Kd.R_elderB (by (with_reducible repeat (first | apply Kd.R_alloc | apply Kd.R_drewN | apply Kd.R_drew)); exact HO_6.out) gb192 (Nat.le_of_eq hg.symm)) hb)
             have n1_ := Am (Kd.R_below (Kd.R_elderB (by (with_reducible repeat (first | apply Kd.R_alloc | apply Kd.R_drewN | apply Kd.R_drew)); exact HO_13.out) gb192 (Nat.le_of_eq hg.symm)) hb)
             have hp0 := hpA BK129.out hb (fun _ _ h_ => by (with_reducible repeat (first | refine kN ?_ _ | refine kD ?_ | refine kA ?_ _)); exact h_)
             have hv := hvK (w := w) hb (by repeat (first | (with_reducible first | exact HB.out | apply bA | apply bN | apply bD | refine bX ?_ (by assumption)) | exact HB.out))
             have n3_ := Am (bT hv hb)
             have n4_ := Am (hbox)
             have GW192 := kG hg hv
             have GE192 := kG hg hv
             have hp1 := hpK BK129.out hb (fun _ _ h_ => by (with_reducible repeat (first | refine kN ?_ _ | refine kD ?_ | refine kA ?_ _)); exact h_)
             have NB129_192 := kX hg (hp1 BK129.out)
             have NB192_129 := kY hg (hp1 BK129.out)
             clear HO_6 HO_13 HB
             have HO_6 := n0_; have HO_13 := n1_
             replace BK129 := hp0 BK129
             have HB := n3_; have BK192 := n4_
             clear n3_ n4_ hp0 hp1 hv hb hbox hg
             refine hK.out _ _ ⟨HS0_, HS1_, HS2_, HS3_⟩ (fun hHeld => ?_)
             clear hK K
             refine norm_ (a' := ?_) ?_ ?_
             rotate_left
             ·show Act.put _ (some 15) _ = _
              simp only [Act.put, List.setIfInBounds_toArray, List.set_cons_zero, List.set_cons_succ, i64_w, i32_w]
              rfl
             exact norm_ (by simp only [putAll, Act.put, List.setIfInBounds_toArray, List.set_cons_zero, List.set_cons_succ]) (hCont (gb192) _ ⟨hHeld, (by (with_reducible repeat (first | apply Kd.R_alloc | apply Kd.R_drewN | apply Kd.R_drew)); exact Kd.R_mono HO_13.out (fun _ hk => ⟨hk.1.1, ⟨hk.1.2, hk.2⟩⟩)), (by (with_reducible repeat (first | apply Kd.R_alloc | apply Kd.R_drewN | apply Kd.R_drew)); exact Kd.R_mono HO_6.out (fun _ hk => ⟨hk.1.1, ⟨hk.1.2, hk.2⟩⟩)), (by (with_reducible repeat (first | refine kN ?_ _ | refine kD ?_ | refine kA ?_ _)); exact BK129.out), (by (with_reducible repeat (first | refine kN ?_ _ | refine kD ?_ | refine kA ?_ _)); exact BK192.out), GW192.out, GE192.out, NB129_192.out, NB192_129.out, (by repeat (first | (with_reducible first | exact HB.out | apply bA | apply bN | apply bD | refine bX ?_ (by assumption)) | exact HB.out))⟩)
            skip
            refine box_step ?hg (N := 15) ?hd (cs := #[.int .i64 0, .int .i64 0]) (t := 26) ?hr ?_; (case hd => rfl); (case hg => rfl); (case hr => first | (go_simp; done) | (go_simp; rfl))
            intro gb192 hg w118 hbox hb
            have HS0_ := (hb.cell (World.block_lt_of_cell? _ _ (hHeld.1))).trans (hHeld.1)
            have HS1_ := (hb.cell (World.block_lt_of_cell? _ _ (hHeld.2.1))).trans (hHeld.2.1)
            have HS2_ := (hb.cell (World.block_lt_of_cell? _ _ (hHeld.2.2.1))).trans (hHeld.2.2.1)
            have HS3_ := (hb.cell (World.block_lt_of_cell? _ _ (hHeld.2.2.2))).trans (hHeld.2.2.2)
            have n0_ := Am (Kd.R_below (Kd.R_elderB (by (with_reducible repeat (first | apply Kd.R_alloc | apply Kd.R_drewN | apply Kd.R_drew)); exact HO_6.out) gb192 (Nat.le_of_eq hg.symm)) hb)
            have n1_ := Am (Kd.R_below (Kd.R_elderB (by (with_reducible repeat (first | apply Kd.R_alloc | apply Kd.R_drewN | apply Kd.R_drew)); exact HO_13.out) gb192 (Nat.le_of_eq hg.symm)) hb)
            have hp0 := hpA BK129.out hb (fun _ _ h_ => by (with_reducible repeat (first | refine kN ?_ _ | refine kD ?_ | refine kA ?_ _)); exact h_)
            have hv := hvK (w := w) hb (by repeat (first | (with_reducible first | exact HB.out | apply bA | apply bN | apply bD | refine bX ?_ (by assumption)) | exact HB.out))
            have n3_ := Am (bT hv hb)
            have n4_ := Am (hbox)
            have GW192 := kG hg hv
            have GE192 := kG hg hv
            have hp1 := hpK BK129.out hb (fun _ _ h_ => by (with_reducible repeat (first | refine kN ?_ _ | refine kD ?_ | refine kA ?_ _)); exact h_)
            have NB129_192 := kX hg (hp1 BK129.out)
            have NB192_129 := kY hg (hp1 BK129.out)
            clear HO_6 HO_13 HB
            have HO_6 := n0_; have HO_13 := n1_
            replace BK129 := hp0 BK129
            have HB := n3_; have BK192 := n4_
            clear n3_ n4_ hp0 hp1 hv hb hbox hg
            refine hK.out _ _ ⟨HS0_, HS1_, HS2_, HS3_⟩ (fun hHeld => ?_)
            clear hK K
            refine norm_ (a' := ?_) ?_ ?_
            rotate_left
            ·show Act.put _ (some 15) _ = _
             simp only [Act.put, List.setIfInBounds_toArray, List.set_cons_zero, List.set_cons_succ, i64_w, i32_w]
             rfl
            refine one_ (i := 12) (N := some 90) #[true, true, true, true, true, true, true, true, true, true, true, true, true, false, false, false, true, false, false] rfl rfl (one_of HT_.out (by kernel_rfl)) (by decide) (fun K hK => ?_)
            refine goes_ Try.func99 (by kernel_rfl) rfl #[.agg #[.int .i64 ((rd_T26 x6_2 (ji97)).f0), .int .i64 ((rd_T26 x6_2 (ji97)).f1)], .agg #[.int .i64 ((rd_T26 x6_2 x74_3).f0), .int .i64 ((rd_T26 x6_2 x74_3).f1)], .int .i64 (-1)] (by rfl) rfl rfl (by (try simp only [List.map_toArray, List.map_cons, List.map_nil]); first | done | (simp only [hji97]; rfl) | rfl | (simp only [List.length_drop, List.length_take]; rfl)) ?_
            with_reducible refine (spec_diAdd.calls k3 ((rd_T26 x6_2 (ji97)).f0) ((rd_T26 x6_2 (ji97)).f1) ((rd_T26 x6_2 x74_3).f0) ((rd_T26 x6_2 x74_3).f1) (-1) t189 t190 false _ A102.out).mono ?_
            rintro e w119 ⟨rfl, hb⟩
            have HS0_ := (hb.cell (World.block_lt_of_cell? _ _ (hHeld.1))).trans (hHeld.1)
            have HS1_ := (hb.cell (World.block_lt_of_cell? _ _ (hHeld.2.1))).trans (hHeld.2.1)
            have HS2_ := (hb.cell (World.block_lt_of_cell? _ _ (hHeld.2.2.1))).trans (hHeld.2.2.1)
            have HS3_ := (hb.cell (World.block_lt_of_cell? _ _ (hHeld.2.2.2))).trans (hHeld.2.2.2)
            refine ⟨_, rfl, ?_⟩
            have n0_ := Am (Kd.R_below (by (with_reducible repeat (first | apply Kd.R_alloc | apply Kd.R_drewN | apply Kd.R_drew)); exact HO_6.out) hb)
            have n1_ := Am (Kd.R_below (by (with_reducible repeat (first | apply Kd.R_alloc | apply Kd.R_drewN | apply Kd.R_drew)); exact HO_13.out) hb)
            have hp0 := hpA BK129.out hb (fun _ _ h_ => by (with_reducible repeat (first | refine kN ?_ _ | refine kD ?_ | refine kA ?_ _)); exact h_)
            have hv := hvK (w := w) hb (by repeat (first | (with_reducible first | exact HB.out | apply bA | apply bN | apply bD | refine bX ?_ (by assumption)) | exact HB.out))
            have n4_ := Am (bT hv hb)
            clear HO_6 HO_13 HB
            have HO_6 := n0_; have HO_13 := n1_
            replace BK129 := hp0 BK129; replace BK192 := hp0 BK192
            have HB := n4_
            clear n0_ n1_ n4_ hp0 hv
            (try clear hb)
            refine hK.out _ _ ⟨HS0_, HS1_, HS2_, HS3_⟩ (fun hHeld => ?_)
            clear hK K
            refine norm_ (a' := ?_) ?_ ?_
            rotate_left
            ·show Act.put _ (some 90) _ = _
             simp only [Act.put, List.setIfInBounds_toArray, List.set_cons_zero, List.set_cons_succ, i64_w, i32_w]
             rfl
            refine pure_ (i := 13) (N := some 77) (v := ?_) (a' := ?_) #[true, true, true, true, true, true, true, true, true, true, true, true, true, true, false, false, true, false, false] rfl rfl (any_of HT_.out (by kernel_rfl)) (fun _ _ _ h => h) (Or.inl ⟨by rfl, ?_⟩) ?_ ?_
            rotate_left
            ·intro w'
             go_simp
             with_reducible rfl
            rotate_left
            ·simp only [Act.put, List.setIfInBounds_toArray, List.set_cons_zero, List.set_cons_succ, i64_w, i32_w]
             rfl
            refine pure_ (i := 14) (N := some 91) (v := ?_) (a' := ?_) #[true, true, true, true, true, true, true, true, true, true, true, true, true, true, true, false, true, false, false] rfl rfl (any_of HT_.out (by kernel_rfl)) (fun _ _ _ h => h) (Or.inl ⟨by rfl, ?_⟩) ?_ ?_
            rotate_left
            ·intro w'
             go_simp
             with_reducible rfl
            rotate_left
            ·simp only [Act.put, List.setIfInBounds_toArray, List.set_cons_zero, List.set_cons_succ, i64_w, i32_w]
             rfl
            refine pure_ (i := 15) (N := some 92) (v := ?_) (a' := ?_) (pT 19 17) rfl rfl (any_of HT_.out (by kernel_rfl)) (fun _ _ _ h => h) (Or.inl ⟨by rfl, ?_⟩) ?_ ?_
            rotate_left
            ·intro w'
             go_simp
             with_reducible rfl
            rotate_left
            ·simp only [Act.put, List.setIfInBounds_toArray, List.set_cons_zero, List.set_cons_succ, i64_w, i32_w]
             rfl
            exact norm_ (by simp only [putAll, Act.put, List.setIfInBounds_toArray, List.set_cons_zero, List.set_cons_succ]) (hCont (gb192) _ ⟨hHeld, (by (with_reducible repeat (first | apply Kd.R_alloc | apply Kd.R_drewN | apply Kd.R_drew)); exact Kd.R_mono HO_13.out (fun _ hk => ⟨hk.1.1, ⟨hk.1.2, hk.2⟩⟩)), (by (with_reducible repeat (first | apply Kd.R_alloc | apply Kd.R_drewN | apply Kd.R_drew)); exact Kd.R_mono HO_6.out (fun _ hk => ⟨hk.1.1, ⟨hk.1.2, hk.2⟩⟩)), (by (with_reducible repeat (first | refine kN ?_ _ | refine kD ?_ | refine kA ?_ _)); exact BK129.out), (by (with_reducible repeat (first | refine kN ?_ _ | refine kD ?_ | refine kA ?_ _)); exact BK192.out), GW192.out, GE192.out, NB129_192.out, NB192_129.out, (by repeat (first | (with_reducible first | exact HB.out | apply bA | apply bN | apply bD | refine bX ?_ (by assumption)) | exact HB.out))⟩)
           rintro gb192 w120 ⟨hS_, h0_, h1_, h2_, h3_, h4_, h5_, h6_, h7_, h8_⟩
           have n0_ : Aside0 (Kd.R k26 26 w120 w.heap.size (fun k_ => some k_ ≠ (.slice (some ad187) x6_2.length co94 : Value).ownBlock ∧ k_ ≠ gb129 ∧ k_ ≠ gb192) u13 x13_3) := ⟨h0_⟩
           have n1_ : Aside0 (Kd.R k26 26 w120 w.heap.size (fun k_ => some k_ ≠ (u13 : Value).ownBlock ∧ k_ ≠ gb129 ∧ k_ ≠ gb192) (.slice (some ad187) x6_2.length co94) x6_2) := ⟨h1_⟩
           have n2_ : Aside0 (w120.heap[gb129]? = some (.cells #[.int .i64 a1_0, .int .i64 a1_1] 26 (0, 0))) := ⟨h2_⟩
           have n3_ : Aside0 (w120.heap[gb192]? = some (.cells #[.int .i64 0, .int .i64 0] 26 (0, 0))) := ⟨h3_⟩
           have n4_ : Aside0 (w.heap.size ≤ gb192) := ⟨h4_⟩
           have n5_ : Aside0 (w.heap.size ≤ gb192) := ⟨h5_⟩
           have n6_ : Aside0 (gb129 ≠ gb192) := ⟨h6_⟩
           have n7_ : Aside0 (gb192 ≠ gb129) := ⟨h7_⟩
           have n8_ : Aside0 (Below w.heap.size w w120) := ⟨h8_⟩
           clear HO_6 HO_13 BK129 HB h0_ h1_ h2_ h3_ h4_ h5_ h6_ h7_ h8_
           have HO_13 := n0_; have HO_6 := n1_; have BK129 := n2_; have BK192 := n3_; have GW192 := n4_; have GE192 := n5_; have NB129_192 := n6_; have NB192_129 := n7_; have HB := n8_
           clear n0_ n1_ n2_ n3_ n4_ n5_ n6_ n7_ n8_
           have hHeld : w120.cell? (ad187.add (((ji97)).toNat * 2)) = some (.int .i64 ((rd_T26 x6_2 (ji97)).f0)) ∧ w120.cell? ⟨(ad187.add (((ji97)).toNat * 2)).block, (ad187.add (((ji97)).toNat * 2)).off + 1, none⟩ = some (.int .i64 ((rd_T26 x6_2 (ji97)).f1)) ∧ w120.cell? (ad187.add ((x74_3).toNat * 2)) = some (.int .i64 ((rd_T26 x6_2 x74_3).f0)) ∧ w120.cell? ⟨(ad187.add ((x74_3).toNat * 2)).block, (ad187.add ((x74_3).toNat * 2)).off + 1, none⟩ = some (.int .i64 ((rd_T26 x6_2 x74_3).f1)) := hS_
           refine norm_ (a' := ?_) ?_ ?_
           rotate_left
           ·simp only [putAll, Act.put, List.setIfInBounds_toArray, List.set_cons_zero, List.set_cons_succ]
            rfl
           refine one_ (i := 17) (N := none) (pT 19 18) rfl rfl (one_of HT_.out (by kernel_rfl)) (by decide) (fun K hK => ?_)
           have hs121 : w120.cell? ⟨gb192, 0, none⟩ = some (.int .i64 0) := c20 BK192.out
           have hfs121 := kF BK192.out 0
           have hns121_0 := NB129_192.out; have hms121_0 := NB192_129.out
           have hs122 : w120.cell? ⟨gb192, 1, none⟩ = some (.int .i64 0) := c21 BK192.out
           have hfs122 := kF BK192.out 1
           have hns122_0 := NB129_192.out; have hms122_0 := NB192_129.out
           refine skip_ (w1 := ?_) (by rfl) rfl ?_ ?_
           rotate_left
           ·go_simp
            rfl
           refine hK.out _ _ ⟨((cell_far (p := ⟨gb192, _, none⟩) (by first | exact Kd.own_blk (Kd.R_away HO_6.out (fun _ hk => hk.2.2)) | (rw [add_block]; exact Kd.own_blk (Kd.R_away HO_6.out (fun _ hk => hk.2.2))) | (show (Addr.add _ _).block ≠ _; rw [add_block]; exact Kd.own_blk (Kd.R_away HO_6.out (fun _ hk => hk.2.2))) | (dsimp only; exact Kd.own_blk (Kd.R_away HO_6.out (fun _ hk => hk.2.2)))) _).trans (((cell_far (p := ⟨gb192, _, none⟩) (by first | exact Kd.own_blk (Kd.R_away HO_6.out (fun _ hk => hk.2.2)) | (rw [add_block]; exact Kd.own_blk (Kd.R_away HO_6.out (fun _ hk => hk.2.2))) | (show (Addr.add _ _).block ≠ _; rw [add_block]; exact Kd.own_blk (Kd.R_away HO_6.out (fun _ hk => hk.2.2))) | (dsimp only; exact Kd.own_blk (Kd.R_away HO_6.out (fun _ hk => hk.2.2)))) _).trans (hHeld.1)))), ((cell_far (p := ⟨gb192, _, none⟩) (by first | exact Kd.own_blk (Kd.R_away HO_6.out (fun _ hk => hk.2.2)) | (rw [add_block]; exact Kd.own_blk (Kd.R_away HO_6.out (fun _ hk => hk.2.2))) | (show (Addr.add _ _).block ≠ _; rw [add_block]; exact Kd.own_blk (Kd.R_away HO_6.out (fun _ hk => hk.2.2))) | (dsimp only; exact Kd.own_blk (Kd.R_away HO_6.out (fun _ hk => hk.2.2)))) _).trans (((cell_far (p := ⟨gb192, _, none⟩) (by first | exact Kd.own_blk (Kd.R_away HO_6.out (fun _ hk => hk.2.2)) | (rw [add_block]; exact Kd.own_blk (Kd.R_away HO_6.out (fun _ hk => hk.2.2))) | (show (Addr.add _ _).block ≠ _; rw [add_block]; exact Kd.own_blk (Kd.R_away HO_6.out (fun _ hk => hk.2.2))) | (dsimp only; exact Kd.own_blk (Kd.R_away HO_6.out (fun _ hk => hk.2.2)))) _).trans (hHeld.2.1)))), ((cell_far (p := ⟨gb192, _, none⟩) (by first | exact Kd.own_blk (Kd.R_away HO_6.out (fun _ hk => hk.2.2)) | (rw [add_block]; exact Kd.own_blk (Kd.R_away HO_6.out (fun _ hk => hk.2.2))) | (show (Addr.add _ _).block ≠ _; rw [add_block]; exact Kd.own_blk (Kd.R_away HO_6.out (fun _ hk => hk.2.2))) | (dsimp only; exact Kd.own_blk (Kd.R_away HO_6.out (fun _ hk => hk.2.2)))) _).trans (((cell_far (p := ⟨gb192, _, none⟩) (by first | exact Kd.own_blk (Kd.R_away HO_6.out (fun _ hk => hk.2.2)) | (rw [add_block]; exact Kd.own_blk (Kd.R_away HO_6.out (fun _ hk => hk.2.2))) | (show (Addr.add _ _).block ≠ _; rw [add_block]; exact Kd.own_blk (Kd.R_away HO_6.out (fun _ hk => hk.2.2))) | (dsimp only; exact Kd.own_blk (Kd.R_away HO_6.out (fun _ hk => hk.2.2)))) _).trans (hHeld.2.2.1)))), ((cell_far (p := ⟨gb192, _, none⟩) (by first | exact Kd.own_blk (Kd.R_away HO_6.out (fun _ hk => hk.2.2)) | (rw [add_block]; exact Kd.own_blk (Kd.R_away HO_6.out (fun _ hk => hk.2.2))) | (show (Addr.add _ _).block ≠ _; rw [add_block]; exact Kd.own_blk (Kd.R_away HO_6.out (fun _ hk => hk.2.2))) | (dsimp only; exact Kd.own_blk (Kd.R_away HO_6.out (fun _ hk => hk.2.2)))) _).trans (((cell_far (p := ⟨gb192, _, none⟩) (by first | exact Kd.own_blk (Kd.R_away HO_6.out (fun _ hk => hk.2.2)) | (rw [add_block]; exact Kd.own_blk (Kd.R_away HO_6.out (fun _ hk => hk.2.2))) | (show (Addr.add _ _).block ≠ _; rw [add_block]; exact Kd.own_blk (Kd.R_away HO_6.out (fun _ hk => hk.2.2))) | (dsimp only; exact Kd.own_blk (Kd.R_away HO_6.out (fun _ hk => hk.2.2)))) _).trans (hHeld.2.2.2))))⟩ (fun hHeld => ?_)
           clear hK K
           refine pI (v := ?_) (a' := ?_) rfl (any_of HT_.out (by kernel_rfl)) (fun _ _ _ h => h) (Or.inl ⟨by rfl, ?_⟩) ?_ ?_
           rotate_left
           ·intro w'
            go_simp
            with_reducible rfl
           rotate_left
           ·show Act.put _ (some _) _ = _
            simp only [Act.put, List.setIfInBounds_toArray, List.set_cons_zero, List.set_cons_succ, i64_w, i32_w]
            rfl
           refine done_ (done_of HT_.out (by kernel_rfl)) ?_
           try go_wp2
           go_ret2
           exact ⟨_, by first | rfl | (simp [errW_none, errW_some] <;> rfl) | (simp only [← hji97]; first | rfl | (simp [errW_none, errW_some] <;> rfl)) | (simp [*, errW_none, errW_some] <;> rfl), by first | exact Kd.R_nil _ _ _ _ _ | exact Kd.N_nil _ _ _ _ _ | exact Kd.V_nil _ _ _ _ _ | exact Kd.Q_nil _ _ _ _ _ | exact Kd.S_nil _ _ _ _ _, by repeat (first | (with_reducible first | exact HB.out | apply bA | apply bN | apply bD | refine bX ?_ (by assumption)) | exact HB.out)⟩
          rw [if_neg c101] at H
          exact absurd H (by simp)
         rw [if_neg c100] at H
         exact absurd H (by simp)
        rw [if_neg c99] at H
        exact absurd H (by simp)
       rw [if_neg c98] at H
       exact absurd H (by simp)
      rw [if_neg c95] at H
      have c95b0 : decide (x74_3 < (x6_2.length : Int)) = false := decide_eq_false c95
      clear c95
      simp only [Option.some.injEq, Prod.mk.injEq] at H
      obtain ⟨rfl, rfl⟩ := H
      go_wp2
      go_ret2
      exact ⟨_, by first | rfl | (simp [errW_none, errW_some] <;> rfl) | (simp [*, errW_none, errW_some] <;> rfl), by (with_reducible repeat (first | apply Kd.R_alloc | apply Kd.R_drewN | apply Kd.R_drew)); exact Kd.R_mono HO_13.out (fun _ hk => trivial), by repeat (first | (with_reducible first | exact HB.out | apply bA | apply bN | apply bD | refine bX ?_ (by assumption)) | exact HB.out)⟩
end Go.Proofs.Ytioggbokjfdoaaa.PFnExactAreSpread
