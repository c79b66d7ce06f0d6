-- WRITTEN BY A PROGRAM OF THIS SESSION (wip/tools): its own text, not the kit's printed one.
import Derived.Test.YtnffmifjleebpaaPFnHandsSpreadOfAllx0
import Derived.Test.YtnffmifjleebpaaPFnHandsSpreadOfAllx6
namespace Go.Proofs.Ytnffmifjleebpaa.PFnHandsSpreadOfAll
open Go.RowKit Go.Proofs.YtnffmifjleebpaaW.PrintWords Go.Proofs.YtnffmifjleebpaaW.PrintLast Go.Proofs.YtnffmifjleebpaaW.PrintMore
attribute [local go_sem] max2_int min2_int max_two min_two max_three min_three max_four min_four   -- for this text's walks alone
set_option linter.unusedVariables false
set_option linter.unusedSimpArgs false

/-! ### spec_meGaps: function 28 -/
mutual
def spec_meGaps.j0 : Nat → List (S26) → Bool → Int → Int → Option ((List (S24)) × Bool)
 | 0, _, _, _, _ => none
 | k + 1, x0, x25, x197000, x197001 => if x25 = true then (some (([] : List (S24)), false)) else (spec_meGaps.l0 k ([] : List (S24)) x0 (x0.length : Int) 0 x197000 x197001)
def spec_meGaps.l0 : Nat → List (S24) → List (S26) → Int → Int → Int → Int → Option ((List (S24)) × Bool)
 | 0, _, _, _, _, _, _ => none
 | k + 1, x6, x26, x27, x28, x197000, x197001 => if x28 < x27 then (if 0 ≤ x28 then (if x28 < (x26.length : Int) then ((spec_meGood.f k ((rd_T26 x26 x28).f0.f0) ((rd_T26 x26 x28).f0.f1) ((rd_T26 x26 x28).f1)).bind fun t201 => (if t201 = true then ((spec_meAt.f k ((rd_T26 x26 x28).f0.f0) ((rd_T26 x26 x28).f0.f1) ((rd_T26 x26 x28).f1) x197000 x197001).bind fun bt202 => (if bt202.2.2 = true then (spec_meGaps.l1 k x6 0 x26 x27 x28 x197000 x197001 bt202.1 bt202.2.1) else (some (([] : List (S24)), false)))) else (some (([] : List (S24)), false)))) else (none)) else (none)) else (spec_meGaps.l2 k x6 ([] : List (S24)) (x6.length : Int) 0)
def spec_meGaps.l1 : Nat → List (S24) → Int → List (S26) → Int → Int → Int → Int → Int → Int → Option ((List (S24)) × Bool)
 | 0, _, _, _, _, _, _, _, _, _ => none
 | k + 1, x6, x11, x26, x27, x28, x197000, x197001, x206000, x206001 => if x11 < (x6.length : Int) then (if 0 ≤ x11 then ((spec_diCompare.f ((rd_T24 x6 x11).f0) ((rd_T24 x6 x11).f1) x206000 x206001).bind fun t207 => (if t207 ≤ 0 then (spec_meGaps.l1 k x6 (wrap64 (x11 + 1)) x26 x27 x28 x197000 x197001 x206000 x206001) else ((some (([] : List (S24)) : List (S24))).bind fun y208 => (if x11 ≤ (x6.length : Int) then ((some (x6.take (x11 : Int).toNat : List (S24))).bind fun y211 => (if y208.length + y211.length < 8796093022208 then ((some (y208 ++ y211 : List (S24))).bind fun y215 => ((some (([(⟨x206000, x206001⟩ : S24)] : List (S24)) : List (S24))).bind fun y218 => (if y215.length + y218.length < 8796093022208 then ((some (y215 ++ y218 : List (S24))).bind fun y221 => ((some (x6.drop (x11 : Int).toNat : List (S24))).bind fun y224 => (if y221.length + y224.length < 8796093022208 then (spec_meGaps.l0 k (y221 ++ y224) x26 x27 (wrap64 (x28 + 1)) x197000 x197001) else (none)))) else (none)))) else (none))) else (none))))) else (none)) else ((some (([] : List (S24)) : List (S24))).bind fun y231 => (if 0 ≤ x11 then (if x11 ≤ (x6.length : Int) then ((some (x6.take (x11 : Int).toNat : List (S24))).bind fun y234 => (if y231.length + y234.length < 8796093022208 then ((some (y231 ++ y234 : List (S24))).bind fun y238 => ((some (([(⟨x206000, x206001⟩ : S24)] : List (S24)) : List (S24))).bind fun y241 => (if y238.length + y241.length < 8796093022208 then ((some (y238 ++ y241 : List (S24))).bind fun y244 => ((some (x6.drop (x11 : Int).toNat : List (S24))).bind fun y247 => (if y244.length + y247.length < 8796093022208 then (spec_meGaps.l0 k (y244 ++ y247) x26 x27 (wrap64 (x28 + 1)) x197000 x197001) else (none)))) else (none)))) else (none))) else (none)) else (none)))
def spec_meGaps.l2 : Nat → List (S24) → List (S24) → Int → Int → Option ((List (S24)) × Bool)
 | 0, _, _, _, _ => none
 | k + 1, x6, x13, x73, x74 => if x74 < x73 then (if (x6.length : Int) = 0 then (none) else (if 0 ≤ (Int.tmod (wrap64 (x74 + 1)) (x6.length : Int)) then (if (Int.tmod (wrap64 (x74 + 1)) (x6.length : Int)) < (x6.length : Int) then (if 0 ≤ x74 then (if x74 < (x6.length : Int) then ((spec_diAdd.f k ((rd_T24 x6 (Int.tmod (wrap64 (x74 + 1)) (x6.length : Int))).f0) ((rd_T24 x6 (Int.tmod (wrap64 (x74 + 1)) (x6.length : Int))).f1) ((rd_T24 x6 x74).f0) ((rd_T24 x6 x74).f1) (-1)).bind fun bt256 => (if bt256.2.2 = true then ((some (([(⟨bt256.1, bt256.2.1⟩ : S24)] : List (S24)) : List (S24))).bind fun y260 => (if x13.length + y260.length < 8796093022208 then (spec_meGaps.l2 k x6 (x13 ++ y260) x73 (wrap64 (x74 + 1))) else (none))) else (some (([] : List (S24)), false)))) else (none)) else (none)) else (none)) else (none))) else (some (x13, true))
end
def spec_meGaps.f (k : Nat) (l0 : List (S26)) (a1_0 : Int) (a1_1 : Int) : Option ((List (S24)) × Bool) := (spec_l1In.f (l0.length : Int) 1 12).bind fun t197 => (if t197 = true then ((spec_diGood.f k a1_0 a1_1).bind fun t198 => (spec_meGaps.j0 k l0 (!t198) a1_0 a1_1)) else (spec_meGaps.j0 k l0 true a1_0 a1_1))
theorem spec_meGaps.mono_l : ∀ k, (∀ y0 y1 y2 y3, LeO (spec_meGaps.j0 k y0 y1 y2 y3) (spec_meGaps.j0 (k + 1) y0 y1 y2 y3)) ∧ (∀ y0 y1 y2 y3 y4 y5, LeO (spec_meGaps.l0 k y0 y1 y2 y3 y4 y5) (spec_meGaps.l0 (k + 1) y0 y1 y2 y3 y4 y5)) ∧ (∀ y0 y1 y2 y3 y4 y5 y6 y7 y8, LeO (spec_meGaps.l1 k y0 y1 y2 y3 y4 y5 y6 y7 y8) (spec_meGaps.l1 (k + 1) y0 y1 y2 y3 y4 y5 y6 y7 y8)) ∧ (∀ y0 y1 y2 y3, LeO (spec_meGaps.l2 k y0 y1 y2 y3) (spec_meGaps.l2 (k + 1) y0 y1 y2 y3))
 | 0 => ⟨fun _ _ _ _ r h => by simp [spec_meGaps.j0] at h, fun _ _ _ _ _ _ r h => by simp [spec_meGaps.l0] at h, fun _ _ _ _ _ _ _ _ _ r h => by simp [spec_meGaps.l1] at h, fun _ _ _ _ r h => by simp [spec_meGaps.l2] at h⟩
 | k + 1 => by
  obtain ⟨ih0, ih1, ih2, ih3⟩ := spec_meGaps.mono_l k
  refine ⟨?_, ?_, ?_, ?_⟩
  ·intro y0 y1 y2 y3
   unfold spec_meGaps.j0
   repeat' first
   | (with_reducible apply ih0)
   | (with_reducible apply ih1)
   | (with_reducible apply ih2)
   | (with_reducible apply ih3)
   | (with_reducible exact spec_diAdd.mono _ _ _ _ _ _)
   | (with_reducible exact spec_diGood.mono _ _ _)
   | (with_reducible exact spec_meAt.mono _ _ _ _ _ _)
   | (with_reducible exact spec_meGood.mono _ _ _ _)
   | (with_reducible exact LeO.refl _)
   | (with_reducible exact LeO.none _)
   | (with_reducible refine LeO.ite ?_ ?_)
   | (with_reducible refine LeO.bind ?_ (fun _ => ?_))
   | apply ih0
   | apply ih1
   | apply ih2
   | apply ih3
   | exact spec_diAdd.mono _ _ _ _ _ _
   | exact spec_diGood.mono _ _ _
   | exact spec_meAt.mono _ _ _ _ _ _
   | exact spec_meGood.mono _ _ _ _
   | exact LeO.none _
   | refine LeO.ite ?_ ?_
   | refine LeO.bind ?_ (fun _ => ?_)
  ·intro y0 y1 y2 y3 y4 y5
   unfold spec_meGaps.l0
   repeat' first
   | (with_reducible apply ih0)
   | (with_reducible apply ih1)
   | (with_reducible apply ih2)
   | (with_reducible apply ih3)
   | (with_reducible exact spec_diAdd.mono _ _ _ _ _ _)
   | (with_reducible exact spec_diGood.mono _ _ _)
   | (with_reducible exact spec_meAt.mono _ _ _ _ _ _)
   | (with_reducible exact spec_meGood.mono _ _ _ _)
   | (with_reducible exact LeO.refl _)
   | (with_reducible exact LeO.none _)
   | (with_reducible refine LeO.ite ?_ ?_)
   | (with_reducible refine LeO.bind ?_ (fun _ => ?_))
   | apply ih0
   | apply ih1
   | apply ih2
   | apply ih3
   | exact spec_diAdd.mono _ _ _ _ _ _
   | exact spec_diGood.mono _ _ _
   | exact spec_meAt.mono _ _ _ _ _ _
   | exact spec_meGood.mono _ _ _ _
   | exact LeO.none _
   | refine LeO.ite ?_ ?_
   | refine LeO.bind ?_ (fun _ => ?_)
  ·intro y0 y1 y2 y3 y4 y5 y6 y7 y8
   unfold spec_meGaps.l1
   repeat' first
   | (with_reducible apply ih0)
   | (with_reducible apply ih1)
   | (with_reducible apply ih2)
   | (with_reducible apply ih3)
   | (with_reducible exact spec_diAdd.mono _ _ _ _ _ _)
   | (with_reducible exact spec_diGood.mono _ _ _)
   | (with_reducible exact spec_meAt.mono _ _ _ _ _ _)
   | (with_reducible exact spec_meGood.mono _ _ _ _)
   | (with_reducible exact LeO.refl _)
   | (with_reducible exact LeO.none _)
   | (with_reducible refine LeO.ite ?_ ?_)
   | (with_reducible refine LeO.bind ?_ (fun _ => ?_))
   | apply ih0
   | apply ih1
   | apply ih2
   | apply ih3
   | exact spec_diAdd.mono _ _ _ _ _ _
   | exact spec_diGood.mono _ _ _
   | exact spec_meAt.mono _ _ _ _ _ _
   | exact spec_meGood.mono _ _ _ _
   | exact LeO.none _
   | refine LeO.ite ?_ ?_
   | refine LeO.bind ?_ (fun _ => ?_)
  ·intro y0 y1 y2 y3
   unfold spec_meGaps.l2
   repeat' first
   | (with_reducible apply ih0)
   | (with_reducible apply ih1)
   | (with_reducible apply ih2)
   | (with_reducible apply ih3)
   | (with_reducible exact spec_diAdd.mono _ _ _ _ _ _)
   | (with_reducible exact spec_diGood.mono _ _ _)
   | (with_reducible exact spec_meAt.mono _ _ _ _ _ _)
   | (with_reducible exact spec_meGood.mono _ _ _ _)
   | (with_reducible exact LeO.refl _)
   | (with_reducible exact LeO.none _)
   | (with_reducible refine LeO.ite ?_ ?_)
   | (with_reducible refine LeO.bind ?_ (fun _ => ?_))
   | apply ih0
   | apply ih1
   | apply ih2
   | apply ih3
   | exact spec_diAdd.mono _ _ _ _ _ _
   | exact spec_diGood.mono _ _ _
   | exact spec_meAt.mono _ _ _ _ _ _
   | exact spec_meGood.mono _ _ _ _
   | exact LeO.none _
   | refine LeO.ite ?_ ?_
   | refine LeO.bind ?_ (fun _ => ?_)
theorem spec_meGaps.mono : ∀ a0 a1 a2 k, LeO (spec_meGaps.f k a0 a1 a2) (spec_meGaps.f (k + 1) a0 a1 a2) := by
 intro a0 a1 a2 k
 obtain ⟨ih0, ih1, ih2, ih3⟩ := spec_meGaps.mono_l k
 unfold spec_meGaps.f
 repeat' first
   | (with_reducible apply ih0)
   | (with_reducible apply ih1)
   | (with_reducible apply ih2)
   | (with_reducible apply ih3)
   | (with_reducible exact spec_diAdd.mono _ _ _ _ _ _)
   | (with_reducible exact spec_diGood.mono _ _ _)
   | (with_reducible exact spec_meAt.mono _ _ _ _ _ _)
   | (with_reducible exact spec_meGood.mono _ _ _ _)
   | (with_reducible exact LeO.refl _)
   | (with_reducible exact LeO.none _)
   | (with_reducible refine LeO.ite ?_ ?_)
   | (with_reducible refine LeO.bind ?_ (fun _ => ?_))
   | apply ih0
   | apply ih1
   | apply ih2
   | apply ih3
   | exact spec_diAdd.mono _ _ _ _ _ _
   | exact spec_diGood.mono _ _ _
   | exact spec_meAt.mono _ _ _ _ _ _
   | exact spec_meGood.mono _ _ _ _
   | exact LeO.none _
   | refine LeO.ite ?_ ?_
   | refine LeO.bind ?_ (fun _ => ?_)
def spec_meGaps.T13 : Bool × List (List Nat × List Nat) := (true, [([], []), ([], []), ([1], [1]), ([0, 2], [0, 2]), ([3], [3]), ([4], [4]), ([4], [4]), ([5, 6, 4], [4, 5, 6]), ([7, 4], [4, 7]), ([4], [4]), ([8, 9, 4, 4], [4, 8, 9]), ([10, 4], [4, 10]), ([4, 11], [4, 11])])
def spec_meGaps.B13 : List Nat := [0, 0, 2, 7, 15, 31, 31, 127, 255, 31, 1023, 2047, 4095]
theorem spec_meGaps.tab13 : rtab .any (opsOf Try.f28 13) = spec_meGaps.T13 := by kernel_rfl
theorem spec_meGaps.bits13 : waitsOk spec_meGaps.T13.2 spec_meGaps.B13 = true := by kernel_rfl
def spec_meGaps.T15 : Bool × List (List Nat × List Nat) := (true, [([], []), ([], []), ([], []), ([1, 2], [1, 2]), ([0, 3], [0, 3]), ([], []), ([5], [5]), ([4, 6, 4], [4, 6]), ([7, 7, 0, 1, 2, 3, 4, 5, 6, 7], [7])])
def spec_meGaps.B15 : List Nat := [0, 0, 0, 6, 15, 0, 32, 127, 255]
theorem spec_meGaps.tab15 : rtab .any (opsOf Try.f28 15) = spec_meGaps.T15 := by kernel_rfl
theorem spec_meGaps.bits15 : waitsOk spec_meGaps.T15.2 spec_meGaps.B15 = true := by kernel_rfl
def spec_meGaps.T22 : Bool × List (List Nat × List Nat) := (true, [([], []), ([], []), ([1], [1]), ([], []), ([3], [3]), ([2, 4], [2, 4]), ([0, 5], [0, 5]), ([6], [6]), ([], []), ([], []), ([8, 9], [8, 9]), ([10], [10]), ([7, 11], [7, 11]), ([12], [12]), ([13], [13]), ([13], [13]), ([], []), ([16, 14, 12, 0, 1, 2, 3, 4, 5, 6, 7, 8, 9, 10, 11, 12, 13, 14, 16], [14, 16]), ([15, 17, 0, 1, 2, 3, 4, 5, 6, 7, 8, 9, 10, 11, 12, 13, 14, 15, 16, 17], [15])])
def spec_meGaps.B22 : List Nat := [0, 0, 2, 0, 8, 30, 63, 127, 0, 0, 768, 1792, 4095, 8191, 16383, 16383, 0, 98303, 262143]
theorem spec_meGaps.tab22 : rtab .any (opsOf Try.f28 22) = spec_meGaps.T22 := by kernel_rfl
theorem spec_meGaps.bits22 : waitsOk spec_meGaps.T22.2 spec_meGaps.B22 = true := by kernel_rfl
set_option maxHeartbeats 8000000 in
set_option maxRecDepth 100000 in
theorem spec_meGaps.calls (k : Nat) (A0 : Option Addr) (c0 : Nat) (l0 : List (S26)) (a1_0 : Int) (a1_1 : Int) (r1 : List (S24)) (r2 : Bool) (w : World) (hr0 : Kd.C k26 w A0 l0.length l0) (hc0 : l0.length ≤ c0) (h : spec_meGaps.f k l0 a1_0 a1_1 = some (r1, r2)) :
  Calls Try.prog 28 #[.slice A0 l0.length c0, .agg #[.int .i64 a1_0, .int .i64 a1_1]] w fun e w' => ∃ v0_ : Value, e = .returned (.tuple #[v0_, .bool r2]) ∧ Kd.R k24 24 w' w.heap.size (fun _ => True) v0_ r1 ∧ Below w.heap.size w w' := by
 have hu24 := Try.underlying24; have hu26 := Try.underlying26
 have HR0 := Am hr0
 have HC0 := Am hc0
 clear hr0 hc0
 have HB := Am (Below.refl w.heap.size w)
 have H : ((spec_l1In.f (l0.length : Int) 1 12).bind fun t197 => (if t197 = true then ((spec_diGood.f k a1_0 a1_1).bind fun t198 => (spec_meGaps.j0 k l0 (!t198) a1_0 a1_1)) else (spec_meGaps.j0 k l0 true a1_0 a1_1))) = some (r1, r2) := h
 clear h
 have HC3 := Am H
 clear H
 go_enter Try.func28, Try.ntmps28
 go_upto_region 1 with (first | ((with_reducible refine gate_dst (N := 3) rfl ?_); refine bE 3 #[.int .i64 a1_0, .int .i64 a1_1] 24 ?_; intro gb196 hg w4 hbox hb; have hv := vK HB hb; have n0_ := Am (bT hv hb); have n1_ := Am (hbox); have GW196 := kG hg hv; have GE196 := kG hg hv; clear HB; have HB := n0_; have BK196 := n1_; clear n0_ n1_ hv; clear hb hbox hg))
 (try simp only [Act.put, List.setIfInBounds_toArray, List.set_cons_zero, List.set_cons_succ])
 go_cut [25] (fun v25 wc => ∃ (kq : Nat) (x25_2 : Bool), v25 = .bool x25_2 ∧ Aside0 (spec_meGaps.j0 kq l0 x25_2 a1_0 a1_1 = some (r1, r2)) ∧ Aside0 (kq ≤ k) ∧ Aside0 (wc.heap[gb196]? = some (.cells #[.int .i64 a1_0, .int .i64 a1_1] 24 (0, 0))) ∧ Aside0 (Below w.heap.size w wc))
 case first =>
  have H := HC3.out
  clear HC3
  replace H := Option.bind_eq_some_iff.mp H
  obtain ⟨t197, A50, H⟩ := H
  try dsimp only at H
  have A5 := Am A50
  clear A50
  by_cases c6 : t197 = true
  ·subst c6
   have H1 : ((spec_diGood.f k a1_0 a1_1).bind fun t198 => (spec_meGaps.j0 k l0 (!t198) a1_0 a1_1)) = some (r1, r2) := by rw [if_pos rfl] at H; exact H
   clear H
   have H := H1
   clear H1
   replace H := Option.bind_eq_some_iff.mp H
   obtain ⟨t198, A70, H⟩ := H
   try dsimp only at H
   have A7 := Am A70
   clear A70
   focus
    have H' := Am H
    clear H
    go_wp2_with (first | ((with_reducible refine gate_callee (f := 46) rfl ?_); refine gL (some 19) Try.func46 #[.int .i64 (l0.length : Int), .int .i64 1, .int .i64 12] rfl ?_; (with_reducible refine (spec_l1In.calls (l0.length : Int) 1 12 true _ A5.out).mono ?_); rintro e w' ⟨rfl, ⟨nd, rfl⟩⟩; refine ⟨_, rfl, ?_⟩; have zq8 := c2 BK196) | (go_at_call 47; (with_reducible refine (spec_diGood.calls k a1_0 a1_1 t198 _ A7.out).mono ?_); rintro e w9 ⟨rfl, hb⟩; have hp0 := pA BK196 hb; have hv := vK HB hb; have n1_ := Am (bT hv hb); clear HB; replace BK196 := hp0 BK196; have HB := n1_; clear n1_ hp0 hv; (try clear hb)))
    go_meet
    case rel => exact ⟨_, (!t198), (by first | rfl | (simp; done) | (simp [*]; done)), H', ⟨by first | omega | exact Nat.le_refl _⟩, kV BK196, ⟨by repeat (first | (with_reducible first | exact HB.out | apply bA | apply bN | apply bD | refine bX ?_ (by assumption)) | exact HB.out)⟩⟩
  replace c6 := Bool.eq_false_iff.mpr c6
  subst c6
  have H1 : (spec_meGaps.j0 k l0 true a1_0 a1_1) = some (r1, r2) := by rw [if_neg (show ¬ (false = true) by decide)] at H; exact H
  clear H
  have H := H1
  clear H1
  focus
   have H' := Am H
   clear H
   go_wp2_with (first | ((with_reducible refine gate_callee (f := 46) rfl ?_); refine gL (some 19) Try.func46 #[.int .i64 (l0.length : Int), .int .i64 1, .int .i64 12] rfl ?_; (with_reducible refine (spec_l1In.calls (l0.length : Int) 1 12 false _ A5.out).mono ?_); rintro e w' ⟨rfl, ⟨nd, rfl⟩⟩; refine ⟨_, rfl, ?_⟩))
   go_meet
   case rel => exact ⟨_, (true), (by first | rfl | (simp; done) | (simp [*]; done)), H', ⟨by first | omega | exact Nat.le_refl _⟩, kV BK196, ⟨by repeat (first | (with_reducible first | exact HB.out | apply bA | apply bN | apply bD | refine bX ?_ (by assumption)) | exact HB.out)⟩⟩
 clear HC3
 obtain ⟨kq, x25_2, rfl, HA, HJ2, BK196, HB⟩ := hcut
 cases kq with
 | zero => exact absurd HA.out (by simp [spec_meGaps.j0])
 | succ kj2 =>
  have H := HA.out
  clear HA
  simp only [spec_meGaps.j0] at H
  by_cases c10 : x25_2 = true
  ·subst c10
   have H1 : (some (([] : List (S24)), false)) = some (r1, r2) := by rw [if_pos rfl] at H; exact H
   clear H
   have H := H1
   clear H1
   focus
    simp only [Option.some.injEq, Prod.mk.injEq] at H
    obtain ⟨rfl, rfl⟩ := H
    go_wp2
    go_ret2
    exact ⟨_, by first | rfl | (simp [errW_none, errW_some] <;> rfl) | (simp [*, errW_none, errW_some] <;> rfl), by first | exact Kd.R_nil _ _ _ _ _ | exact Kd.N_nil _ _ _ _ _ | exact Kd.V_nil _ _ _ _ _ | exact Kd.Q_nil _ _ _ _ _ | exact Kd.S_nil _ _ _ _ _, by repeat (first | (with_reducible first | exact HB.out | apply bA | apply bN | apply bD | refine bX ?_ (by assumption)) | exact HB.out)⟩
  replace c10 := Bool.eq_false_iff.mpr c10
  subst c10
  have H1 : (spec_meGaps.l0 kj2 ([] : List (S24)) l0 (l0.length : Int) 0 a1_0 a1_1) = some (r1, r2) := by rw [if_neg (show ¬ (false = true) by decide)] at H; exact H
  clear H
  have H := H1
  clear H1
  have H' := Am H
  clear H
  go_wp2
  go_loopg [6, 28] kj2 (fun kq v6 v28 w' => ∃ (x6_2 : List (S24)) (x28_2 : Int), v28 = .int .i64 x28_2 ∧ Aside0 (spec_meGaps.l0 kq x6_2 l0 (l0.length : Int) x28_2 a1_0 a1_1 = some (r1, r2)) ∧ Aside0 (kq ≤ kj2) ∧ Aside0 (Kd.R k24 24 w' w.heap.size (fun k_ => k_ ≠ gb196) v6 x6_2) ∧ Aside0 (w'.heap[gb196]? = some (.cells #[.int .i64 a1_0, .int .i64 a1_1] 24 (0, 0))) ∧ Aside0 (Below w.heap.size w w'))
  case atStart => exact ⟨(([] : List (S24))), (0), (by first | rfl | (simp; done) | (simp [*]; done)), H', ⟨Nat.le_refl _⟩, ⟨by first | exact Kd.R_nil _ _ _ _ _ | exact Kd.N_nil _ _ _ _ _ | exact Kd.V_nil _ _ _ _ _ | exact Kd.Q_nil _ _ _ _ _ | exact Kd.S_nil _ _ _ _ _⟩, kV BK196, ⟨by repeat (first | (with_reducible first | exact HB.out | apply bA | apply bN | apply bD | refine bX ?_ (by assumption)) | exact HB.out)⟩⟩
  case round =>
   clear H'
   (try clear c10)
   obtain ⟨x6_2, x28_2, rfl, HA, HK2, HO_6, BK196, HB⟩ := hrel
   cases gk with
   | zero => exact absurd HA.out (by simp [spec_meGaps.l0])
   | succ k2 =>
    have H := HA.out
    clear HA
    simp only [spec_meGaps.l0] at H
    by_cases c11 : x28_2 < (l0.length : Int)
    ·rw [if_pos c11] at H
     have c11b0 : decide (x28_2 < (l0.length : Int)) = true := decide_eq_true c11
     clear c11
     by_cases c12 : 0 ≤ x28_2
     ·rw [if_pos c12] at H
      have c12b0 : decide (0 ≤ x28_2) = true := decide_eq_true c12
      clear c12
      by_cases c13 : x28_2 < (l0.length : Int)
      ·rw [if_pos c13] at H
       have c13b0 : decide (x28_2 < (l0.length : Int)) = true := decide_eq_true c13
       clear c13
       replace H := Option.bind_eq_some_iff.mp H
       obtain ⟨t201, A140, H⟩ := H
       try dsimp only at H
       have A14 := Am A140
       clear A140
       by_cases c15 : t201 = true
       ·subst c15
        have H1 : ((spec_meAt.f k2 ((rd_T26 l0 x28_2).f0.f0) ((rd_T26 l0 x28_2).f0.f1) ((rd_T26 l0 x28_2).f1) a1_0 a1_1).bind fun bt202 => (if bt202.2.2 = true then (spec_meGaps.l1 k2 x6_2 0 l0 (l0.length : Int) x28_2 a1_0 a1_1 bt202.1 bt202.2.1) else (some (([] : List (S24)), false)))) = some (r1, r2) := by rw [if_pos rfl] at H; exact H
        clear H
        have H := H1
        clear H1
        replace H := Option.bind_eq_some_iff.mp H
        obtain ⟨⟨t202, t203, t204⟩, A160, H⟩ := H
        try dsimp only at H
        have A16 := Am A160
        clear A160
        by_cases c17 : t204 = true
        ·subst c17
         have H1 : (spec_meGaps.l1 k2 x6_2 0 l0 (l0.length : Int) x28_2 a1_0 a1_1 t202 t203) = some (r1, r2) := by rw [if_pos rfl] at H; exact H
         clear H
         have H := H1
         clear H1
         have H' := Am H
         clear H
         have p199 : 0 ≤ (x28_2 : Int) := of_decide_eq_true (by first | (with_reducible assumption) | assumption)
         have q199 : x28_2 < (l0.length : Int) := of_decide_eq_true (by first | (with_reducible assumption) | assumption)
         obtain ⟨ad199, e199, hx199_0, hx199_1, hx199_2⟩ := at_T26 HR0.out x28_2 p199 q199
         cases e199
         replace hx199_0 := (HB.out.cell (World.block_lt_of_cell? w _ hx199_0)).trans hx199_0
         replace hx199_1 := (HB.out.cell (World.block_lt_of_cell? w _ hx199_1)).trans hx199_1
         replace hx199_2 := (HB.out.cell (World.block_lt_of_cell? w _ hx199_2)).trans hx199_2
         replace p199 := eq_true p199
         replace q199 := eq_true q199
         go_wp2_with (first | ((with_reducible refine gate_dst (N := 8) rfl ?_); refine bE 8 #[.int .i64 0, .int .i64 0, .int .i64 0] 26 ?_; intro gb200 hg w18 hbox hb; have n0_ := Am (Kd.R_below (kW HO_6) hb); have hp0 := pA BK196 hb; have hv := vK HB hb; have n2_ := Am (bT hv hb); have n3_ := Am (hbox); have GW200 := kG hg hv; have GE200 := kG hg hv; have hp1 := pK BK196 hb; obtain ⟨NB196_200, NB200_196⟩ := kXY hg hp1 BK196; clear HO_6; clear HB; have HO_6 := n0_; replace BK196 := hp0 BK196; have HB := n2_; have BK200 := n3_; clear n0_ n2_ n3_ hp0 hp1 hv; clear hb hbox hg; have nq19 := kO NB200_196; have zq20 := c3 BK200) | ((with_reducible refine gate_callee (f := 37) rfl ?_); refine gL (some 33) Try.func37 #[.agg #[.int .i64 ((rd_T26 l0 x28_2).f0.f0), .int .i64 ((rd_T26 l0 x28_2).f0.f1), .int .i64 ((rd_T26 l0 x28_2).f1)]] rfl ?_; (with_reducible refine (spec_meGood.calls k2 ((rd_T26 l0 x28_2).f0.f0) ((rd_T26 l0 x28_2).f0.f1) ((rd_T26 l0 x28_2).f1) true _ A14.out).mono ?_); rintro e w21 ⟨rfl, hb⟩; refine ⟨_, rfl, ?_⟩; have n0_ := Am (Kd.R_below (by (with_reducible repeat (first | apply Kd.R_alloc | apply Kd.R_drewN | apply Kd.R_drew)); exact (Kd.R_mono (Kd.R_far (p := ⟨gb200, 2, none⟩) (Kd.R_far (p := ⟨gb200, 1, none⟩) (Kd.R_far (p := ⟨gb200, 0, none⟩) (Kd.R_types HO_6.out BK200.out (by decide)) (fun _ hk => hk.2) (.int .i64 ((rd_T26 l0 x28_2).f0.f0))) (fun _ hk => hk.2) (.int .i64 ((rd_T26 l0 x28_2).f0.f1))) (fun _ hk => hk.2) (.int .i64 ((rd_T26 l0 x28_2).f1))) (fun _ h_ => h_.1))) hb); have hp0 := pB gb200 BK196 hb; have n2_ := Am (kB (g := gb200) (o := .cells #[.int .i64 ((rd_T26 l0 x28_2).f0.f0), .int .i64 ((rd_T26 l0 x28_2).f0.f1), .int .i64 ((rd_T26 l0 x28_2).f1)] 26 (0, 0)) (by (with_reducible repeat (first | refine kN ?_ _ | refine kD ?_ | refine kA ?_ _)); refine kP (cs := #[.int .i64 ((rd_T26 l0 x28_2).f0.f0), .int .i64 ((rd_T26 l0 x28_2).f0.f1), .int .i64 0]) ?_ 2 _ rfl; (with_reducible repeat (first | refine kN ?_ _ | refine kD ?_ | refine kA ?_ _)); refine kP (cs := #[.int .i64 ((rd_T26 l0 x28_2).f0.f0), .int .i64 0, .int .i64 0]) ?_ 1 _ rfl; (with_reducible repeat (first | refine kN ?_ _ | refine kD ?_ | refine kA ?_ _)); refine kP (cs := #[.int .i64 0, .int .i64 0, .int .i64 0]) ?_ 0 _ rfl; (with_reducible repeat (first | refine kN ?_ _ | refine kD ?_ | refine kA ?_ _)); exact BK200.out) hb); have hv := vK HB hb; have n3_ := Am (bT hv hb); clear HO_6; clear BK200; clear HB; have HO_6 := n0_; replace BK196 := hp0 NB196_200 BK196; have BK200 := n2_; have HB := n3_; clear n0_ n2_ n3_ hp0 hv; (try clear hb); (try clear hk); have zq22 := c3 BK200; have zq23 := c2 BK196) | ((with_reducible refine gate_callee (f := 48) rfl ?_); refine gL (some 38) Try.func48 #[.agg #[.int .i64 ((rd_T26 l0 x28_2).f0.f0), .int .i64 ((rd_T26 l0 x28_2).f0.f1), .int .i64 ((rd_T26 l0 x28_2).f1)], .agg #[.int .i64 a1_0, .int .i64 a1_1]] rfl ?_; (with_reducible refine (spec_meAt.calls k2 ((rd_T26 l0 x28_2).f0.f0) ((rd_T26 l0 x28_2).f0.f1) ((rd_T26 l0 x28_2).f1) a1_0 a1_1 t202 t203 true _ A16.out).mono ?_); rintro e w24 ⟨rfl, hb⟩; refine ⟨_, rfl, ?_⟩; have n0_ := Am (Kd.R_below (kW HO_6) hb); have hp0 := pA BK196 hb; have hv := vK HB hb; have n3_ := Am (bT hv hb); clear HO_6; clear HB; have HO_6 := n0_; replace BK196 := hp0 BK196; replace BK200 := hp0 BK200; have HB := n3_; clear n0_ n3_ hp0 hv; (try clear hb)) | ((with_reducible refine gate_dst (N := 9) rfl ?_); refine bE 9 #[.int .i64 0, .int .i64 0] 24 ?_; intro gb205 hg w25 hbox hb; have n0_ := Am (Kd.R_below (Kd.R_elderB (kW HO_6) gb205 (Nat.le_of_eq hg.symm)) hb); have hp0 := pA BK196 hb; have hv := vK HB hb; have n3_ := Am (bT hv hb); have n4_ := Am (hbox); have GW205 := kG hg hv; have GE205 := kG hg hv; have hp1 := pK BK196 hb; obtain ⟨NB196_205, NB205_196⟩ := kXY hg hp1 BK196; obtain ⟨NB200_205, NB205_200⟩ := kXY hg hp1 BK200; clear HO_6; clear HB; have HO_6 := n0_; replace BK196 := hp0 BK196; replace BK200 := hp0 BK200; have HB := n3_; have BK205 := n4_; clear n0_ n3_ n4_ hp0 hp1 hv; clear hb hbox hg; have nq26 := kO NB205_196; have nq27 := kO NB205_200; have zq28 := c2 BK205))
         go_loopg [11] k2 (fun kq v11 w' => ∃ (x11_3 : Int), v11 = .int .i64 x11_3 ∧ Aside0 (spec_meGaps.l1 kq x6_2 x11_3 l0 (l0.length : Int) x28_2 a1_0 a1_1 t202 t203 = some (r1, r2)) ∧ Aside0 (kq ≤ k2) ∧ Aside0 (Kd.R k24 24 w' w.heap.size (fun k_ => k_ ≠ gb196 ∧ k_ ≠ gb205) u6 x6_2) ∧ Aside0 (w'.heap[gb196]? = some (.cells #[.int .i64 a1_0, .int .i64 a1_1] 24 (0, 0))) ∧ Aside0 (w'.heap[gb200]? = some (.cells #[.int .i64 ((rd_T26 l0 x28_2).f0.f0), .int .i64 ((rd_T26 l0 x28_2).f0.f1), .int .i64 ((rd_T26 l0 x28_2).f1)] 26 (0, 0))) ∧ Aside0 (w'.heap[gb205]? = some (.cells #[.int .i64 t202, .int .i64 t203] 24 (0, 0))) ∧ Aside0 (Below w.heap.size w w'))
         case atStart => exact ⟨(0), (by first | rfl | (simp; done) | (simp [*]; done)), H', ⟨Nat.le_refl _⟩, ⟨by (with_reducible repeat (first | apply Kd.R_alloc | apply Kd.R_drewN | apply Kd.R_drew)); exact Kd.R_mono (Kd.R_far (p := ⟨gb205, 1, none⟩) (Kd.R_far (p := ⟨gb205, 0, none⟩) (Kd.R_mono HO_6.out (fun k_ hk => (⟨hk, hk.2⟩ : _ ∧ k_ ≠ gb205))) (fun _ hk => hk.2) (.int .i64 t202)) (fun _ hk => hk.2) (.int .i64 t203)) (fun _ hk => ⟨hk.1.1, hk.1.2⟩)⟩, ⟨by (with_reducible repeat (first | refine kN ?_ _ | refine kD ?_ | refine kA ?_ _)); refine kR ?_ NB196_205.out _; (with_reducible repeat (first | refine kN ?_ _ | refine kD ?_ | refine kA ?_ _)); refine kR ?_ NB196_205.out _; (with_reducible repeat (first | refine kN ?_ _ | refine kD ?_ | refine kA ?_ _)); exact BK196.out⟩, ⟨by (with_reducible repeat (first | refine kN ?_ _ | refine kD ?_ | refine kA ?_ _)); refine kR ?_ NB200_205.out _; (with_reducible repeat (first | refine kN ?_ _ | refine kD ?_ | refine kA ?_ _)); refine kR ?_ NB200_205.out _; (with_reducible repeat (first | refine kN ?_ _ | refine kD ?_ | refine kA ?_ _)); exact BK200.out⟩, ⟨by (with_reducible repeat (first | refine kN ?_ _ | refine kD ?_ | refine kA ?_ _)); refine kP (cs := #[.int .i64 t202, .int .i64 0]) ?_ 1 _ rfl; (with_reducible repeat (first | refine kN ?_ _ | refine kD ?_ | refine kA ?_ _)); refine kP (cs := #[.int .i64 0, .int .i64 0]) ?_ 0 _ rfl; (with_reducible repeat (first | refine kN ?_ _ | refine kD ?_ | refine kA ?_ _)); exact BK205.out⟩, ⟨by repeat (first | (with_reducible first | exact HB.out | apply bA | apply bN | apply bD | refine bX ?_ (by assumption)) | exact HB.out)⟩⟩
         case round =>
          clear H'
          (try clear c10); (try clear c11); (try clear c11b0); (try clear c12); (try clear c12b0); (try clear c13); (try clear c13b0); (try clear c15); (try clear c17); (try clear zq20); (try clear zq22); (try clear zq23); (try clear zq28); (try clear hx199_0); (try clear hx199_1); (try clear hx199_2); (try clear p199); (try clear q199)
          obtain ⟨x11_3, rfl, HA, HK3, HO_6, BK196, BK200, BK205, HB⟩ := hrel
          cases gk with
          | zero => exact absurd HA.out (by simp [spec_meGaps.l1])
          | succ k3 =>
           have H := HA.out
           clear HA
           simp only [spec_meGaps.l1] at H
           by_cases c29 : x11_3 < (x6_2.length : Int)
           ·rw [if_pos c29] at H
            have c29b0 : decide (x11_3 < (x6_2.length : Int)) = true := decide_eq_true c29
            clear c29
            by_cases c30 : 0 ≤ x11_3
            ·rw [if_pos c30] at H
             have c30b0 : decide (0 ≤ x11_3) = true := decide_eq_true c30
             clear c30
             replace H := Option.bind_eq_some_iff.mp H
             obtain ⟨t207, A310, H⟩ := H
             try dsimp only at H
             have A31 := Am A310
             clear A310
             by_cases c32 : t207 ≤ 0
             ·rw [if_pos c32] at H
              have c32b0 : decide (t207 ≤ 0) = true := decide_eq_true c32
              clear c32
              focus
               have H' := Am H
               clear H
               try go_wp2
               have n0_ := Am (Kd.R_drew HO_6.out)
               have n1_ := Am (kD BK196.out)
               have n2_ := Am (kD BK200.out)
               have n3_ := Am (kD BK205.out)
               have n4_ := Am (bD HB.out)
               clear HO_6 BK196 BK200 BK205 HB
               have HO_6 := n0_; have BK196 := n1_; have BK200 := n2_; have BK205 := n3_; have HB := n4_
               clear n0_ n1_ n2_ n3_ n4_
               obtain ⟨Ao34, co34, eo34⟩ := Kd.R_slice HO_6.out
               (first | subst eo34 | (injection eo34 with f1_ f2_ f3_; have f4_ := f1_.symm; have f5_ := f3_.symm; clear f1_ f2_ f3_; subst f4_; subst f5_))
               have p206 : 0 ≤ (x11_3 : Int) := of_decide_eq_true (by first | (with_reducible assumption) | assumption)
               have q206 : x11_3 < (x6_2.length : Int) := of_decide_eq_true (by first | (with_reducible assumption) | assumption)
               obtain ⟨ad206, e206, hx206_0, hx206_1⟩ := at_T24 (Kd.R_reads' HO_6.out).2.2 x11_3 p206 q206
               cases e206
               replace p206 := eq_true p206
               replace q206 := eq_true q206
               refine start_ (n := 13) (S := fun w' => w'.cell? ⟨gb205, 0, none⟩ = some (.int .i64 t202) ∧ w'.cell? ⟨gb205, 1, none⟩ = some (.int .i64 t203) ∧ w'.cell? (ad206.add ((x11_3).toNat * 2)) = some (.int .i64 ((rd_T24 x6_2 x11_3).f0)) ∧ w'.cell? ⟨(ad206.add ((x11_3).toNat * 2)).block, (ad206.add ((x11_3).toNat * 2)).off + 1, none⟩ = some (.int .i64 ((rd_T24 x6_2 x11_3).f1))) (ds := []) (pT 13 0) (by kernel_rfl) rfl rfl ⟨c20 BK205.out, c21 BK205.out, hx206_0, hx206_1⟩ (fun hHeld => ?_); refine with_tabW spec_meGaps.tab13 spec_meGaps.bits13 (fun HT_ HW_ => ?_)
               generalize wr.drew = w33 at HO_6 BK196 BK200 BK205 HB hx206_0 hx206_1 hHeld ⊢
               iterate 10
                first
                | refine pI (v := ?_) (a' := ?_) rfl (any_of HT_.out (by kernel_rfl)) (fun _ _ _ h => h) (Or.inl ⟨by rfl, ?_⟩) ?_ ?_
                  rotate_left
                  ·intro w'
                   go_simp
                   with_reducible rfl
                  rotate_left
                  ·show Act.put _ (some _) _ = _
                   simp only [Act.put, List.setIfInBounds_toArray, List.set_cons_zero, List.set_cons_succ, i64_w, i32_w]
                   rfl
                | refine tI (v := ?_) (a' := ?_) rfl (take_ofW HT_.out HW_.out (by kernel_rfl)) (fun _ _ _ h => h) (Or.inl ⟨by rfl, ?_⟩) hHeld ?_ ?_
                  rotate_left
                  ·rintro w' ⟨s0, s1, s2, s3⟩
                   go_simp
                   with_reducible rfl
                  rotate_left
                  ·show Act.put _ (some _) _ = _
                   simp only [Act.put, List.setIfInBounds_toArray, List.set_cons_zero, List.set_cons_succ, i64_w, i32_w]
                   rfl
               refine one_ (i := 10) (N := some 53) (pT 13 11) rfl rfl (one_of HT_.out (by kernel_rfl)) (by decide) (fun K hK => ?_)
               refine goes_ Try.func49 (by kernel_rfl) rfl #[.agg #[.int .i64 ((rd_T24 x6_2 x11_3).f0), .int .i64 ((rd_T24 x6_2 x11_3).f1)], .agg #[.int .i64 t202, .int .i64 t203]] (by rfl) rfl rfl (by (try simp only [List.map_toArray, List.map_cons, List.map_nil]); first | done | rfl | (simp only [List.length_drop, List.length_take]; rfl)) ?_
               with_reducible refine (spec_diCompare.calls ((rd_T24 x6_2 x11_3).f0) ((rd_T24 x6_2 x11_3).f1) t202 t203 t207 _ A31.out).mono ?_
               rintro e w35 ⟨rfl, hb⟩
               have HS2_ := (hb.cell (World.block_lt_of_cell? _ _ (hHeld.2.2.1))).trans (hHeld.2.2.1)
               have HS3_ := (hb.cell (World.block_lt_of_cell? _ _ (hHeld.2.2.2))).trans (hHeld.2.2.2)
               refine ⟨_, rfl, ?_⟩
               have n0_ := Am (Kd.R_below (kW HO_6) hb)
               have hp0 := pA BK196 hb
               have hv := vK HB hb
               have n4_ := Am (bT hv hb)
               clear HO_6 HB
               have HO_6 := n0_
               replace BK196 := hp0 BK196; replace BK200 := hp0 BK200; replace BK205 := hp0 BK205
               have HB := n4_
               clear n0_ n4_ hp0 hv
               (try clear hb)
               refine hK.out _ _ ⟨c20 BK205.out, c21 BK205.out, HS2_, HS3_⟩ (fun hHeld => ?_)
               clear hK K
               refine norm_ (a' := ?_) ?_ ?_
               rotate_left
               ·show Act.put _ (some 53) _ = _
                simp only [Act.put, List.setIfInBounds_toArray, List.set_cons_zero, List.set_cons_succ, i64_w, i32_w]
                rfl
               iterate 2
                refine pI (v := ?_) (a' := ?_) rfl (any_of HT_.out (by kernel_rfl)) (fun _ _ _ h => h) (Or.inl ⟨by rfl, ?_⟩) ?_ ?_
                rotate_left
                ·intro w'
                 go_simp
                 with_reducible rfl
                rotate_left
                ·show Act.put _ (some _) _ = _
                 simp only [Act.put, List.setIfInBounds_toArray, List.set_cons_zero, List.set_cons_succ, i64_w, i32_w]
                 rfl
               refine done_ (done_of HT_.out (by kernel_rfl)) ?_
               try go_wp2
               go_roundg k3
               case measure => have := HJ2.out; have := HK2.out; have := HK3.out; omega
               case rel =>
                refine ⟨(wrap64 (x11_3 + 1)), (by first | rfl | (simp; done) | (simp [*]; done)), H', ⟨by have := HJ2.out; have := HK2.out; have := HK3.out; omega⟩, ⟨kW HO_6⟩, ⟨?_⟩, ⟨?_⟩, ⟨?_⟩, ⟨by repeat (first | (with_reducible first | exact HB.out | apply bA | apply bN | apply bD | refine bX ?_ (by assumption)) | exact HB.out)⟩⟩
                all_goals ((with_reducible repeat (first | refine kN ?_ _ | refine kD ?_ | refine kA ?_ _)); exact Aside0.out (by assumption))
             rw [if_neg c32] at H
             have c32b0 : decide (t207 ≤ 0) = false := decide_eq_false c32
             clear c32
             obtain ⟨y208, hy208⟩ : ∃ y_ : List (S24), y_ = (([] : List (S24))) := ⟨_, rfl⟩
             replace H : (if x11_3 ≤ (x6_2.length : Int) then ((some (x6_2.take (x11_3 : Int).toNat : List (S24))).bind fun y211 => (if y208.length + y211.length < 8796093022208 then ((some (y208 ++ y211 : List (S24))).bind fun y215 => ((some (([(⟨t202, t203⟩ : S24)] : List (S24)) : List (S24))).bind fun y218 => (if y215.length + y218.length < 8796093022208 then ((some (y215 ++ y218 : List (S24))).bind fun y221 => ((some (x6_2.drop (x11_3 : Int).toNat : List (S24))).bind fun y224 => (if y221.length + y224.length < 8796093022208 then (spec_meGaps.l0 k3 (y221 ++ y224) l0 (l0.length : Int) (wrap64 (x28_2 + 1)) a1_0 a1_1) else (none)))) else (none)))) else (none))) else (none)) = some (r1, r2) := by first | (rw [hy208]; with_reducible exact H) | (have H2_ := (Option.bind_some _ _).symm.trans H; rw [hy208]; with_reducible exact H2_) | (have H2_ := (Option.bind_some _ _).symm.trans H; with_reducible exact H2_) | with_reducible exact H | (rw [hy208]; exact H) | exact H
             have Ny208 := Am hy208
             clear hy208
             have c36b0 := eq_true (of_decide_eq_true (by first | (with_reducible assumption) | assumption) : 0 ≤ x11_3)
             by_cases c37 : x11_3 ≤ (x6_2.length : Int)
             ·rw [if_pos c37] at H
              have c37b0 := eq_true c37
              have c37b1 : decide (x11_3 ≤ (x6_2.length : Int)) = true := decide_eq_true c37
              clear c37
              obtain ⟨y211, hy211⟩ : ∃ y_ : List (S24), y_ = (x6_2.take (x11_3 : Int).toNat) := ⟨_, rfl⟩
              replace H : (if y208.length + y211.length < 8796093022208 then ((some (y208 ++ y211 : List (S24))).bind fun y215 => ((some (([(⟨t202, t203⟩ : S24)] : List (S24)) : List (S24))).bind fun y218 => (if y215.length + y218.length < 8796093022208 then ((some (y215 ++ y218 : List (S24))).bind fun y221 => ((some (x6_2.drop (x11_3 : Int).toNat : List (S24))).bind fun y224 => (if y221.length + y224.length < 8796093022208 then (spec_meGaps.l0 k3 (y221 ++ y224) l0 (l0.length : Int) (wrap64 (x28_2 + 1)) a1_0 a1_1) else (none)))) else (none)))) else (none)) = some (r1, r2) := by first | (rw [hy211]; with_reducible exact H) | (have H2_ := (Option.bind_some _ _).symm.trans H; rw [hy211]; with_reducible exact H2_) | (have H2_ := (Option.bind_some _ _).symm.trans H; with_reducible exact H2_) | with_reducible exact H | (rw [hy211]; exact H) | exact H
              have Ny211 := Am hy211
              clear hy211
              by_cases c38 : y208.length + y211.length < 8796093022208
              ·rw [if_pos c38] at H
               have LMc38 := Am c38
               clear c38
               obtain ⟨y215, hy215⟩ : ∃ y_ : List (S24), y_ = (y208 ++ y211) := ⟨_, rfl⟩
               replace H : ((some (([(⟨t202, t203⟩ : S24)] : List (S24)) : List (S24))).bind fun y218 => (if y215.length + y218.length < 8796093022208 then ((some (y215 ++ y218 : List (S24))).bind fun y221 => ((some (x6_2.drop (x11_3 : Int).toNat : List (S24))).bind fun y224 => (if y221.length + y224.length < 8796093022208 then (spec_meGaps.l0 k3 (y221 ++ y224) l0 (l0.length : Int) (wrap64 (x28_2 + 1)) a1_0 a1_1) else (none)))) else (none))) = some (r1, r2) := by first | (rw [hy215]; with_reducible exact H) | (have H2_ := (Option.bind_some _ _).symm.trans H; rw [hy215]; with_reducible exact H2_) | (have H2_ := (Option.bind_some _ _).symm.trans H; with_reducible exact H2_) | with_reducible exact H | (rw [hy215]; exact H) | exact H
               have Ny215 := Am hy215
               clear hy215
               obtain ⟨y218, hy218⟩ : ∃ y_ : List (S24), y_ = (([(⟨t202, t203⟩ : S24)] : List (S24))) := ⟨_, rfl⟩
               replace H : (if y215.length + y218.length < 8796093022208 then ((some (y215 ++ y218 : List (S24))).bind fun y221 => ((some (x6_2.drop (x11_3 : Int).toNat : List (S24))).bind fun y224 => (if y221.length + y224.length < 8796093022208 then (spec_meGaps.l0 k3 (y221 ++ y224) l0 (l0.length : Int) (wrap64 (x28_2 + 1)) a1_0 a1_1) else (none)))) else (none)) = some (r1, r2) := by first | (rw [hy218]; with_reducible exact H) | (have H2_ := (Option.bind_some _ _).symm.trans H; rw [hy218]; with_reducible exact H2_) | (have H2_ := (Option.bind_some _ _).symm.trans H; with_reducible exact H2_) | with_reducible exact H | (rw [hy218]; exact H) | exact H
               have Ny218 := Am hy218
               clear hy218
               by_cases c39 : y215.length + y218.length < 8796093022208
               ·rw [if_pos c39] at H
                have LMc39 := Am c39
                clear c39
                obtain ⟨y221, hy221⟩ : ∃ y_ : List (S24), y_ = (y215 ++ y218) := ⟨_, rfl⟩
                replace H : ((some (x6_2.drop (x11_3 : Int).toNat : List (S24))).bind fun y224 => (if y221.length + y224.length < 8796093022208 then (spec_meGaps.l0 k3 (y221 ++ y224) l0 (l0.length : Int) (wrap64 (x28_2 + 1)) a1_0 a1_1) else (none))) = some (r1, r2) := by first | (rw [hy221]; with_reducible exact H) | (have H2_ := (Option.bind_some _ _).symm.trans H; rw [hy221]; with_reducible exact H2_) | (have H2_ := (Option.bind_some _ _).symm.trans H; with_reducible exact H2_) | with_reducible exact H | (rw [hy221]; exact H) | exact H
                have Ny221 := Am hy221
                clear hy221
                have c40b0 := eq_true (of_decide_eq_true (by first | (with_reducible assumption) | assumption) : 0 ≤ x11_3)
                have c41b0 := eq_true (of_decide_eq_true (by first | (with_reducible assumption) | assumption) : x11_3 ≤ (x6_2.length : Int))
                obtain ⟨y224, hy224⟩ : ∃ y_ : List (S24), y_ = (x6_2.drop (x11_3 : Int).toNat) := ⟨_, rfl⟩
                replace H : (if y221.length + y224.length < 8796093022208 then (spec_meGaps.l0 k3 (y221 ++ y224) l0 (l0.length : Int) (wrap64 (x28_2 + 1)) a1_0 a1_1) else (none)) = some (r1, r2) := by first | (rw [hy224]; with_reducible exact H) | (have H2_ := (Option.bind_some _ _).symm.trans H; rw [hy224]; with_reducible exact H2_) | (have H2_ := (Option.bind_some _ _).symm.trans H; with_reducible exact H2_) | with_reducible exact H | (rw [hy224]; exact H) | exact H
                have Ny224 := Am hy224
                clear hy224
                by_cases c42 : y221.length + y224.length < 8796093022208
                ·rw [if_pos c42] at H
                 have LMc42 := Am c42
                 clear c42
                 obtain ⟨y228, hy228⟩ : ∃ y_ : List (S24), y_ = (y221 ++ y224) := ⟨_, rfl⟩
                 replace H : (spec_meGaps.l0 k3 y228 l0 (l0.length : Int) (wrap64 (x28_2 + 1)) a1_0 a1_1) = some (r1, r2) := by first | (rw [hy228]; with_reducible exact H) | (have H2_ := (Option.bind_some _ _).symm.trans H; rw [hy228]; with_reducible exact H2_) | (have H2_ := (Option.bind_some _ _).symm.trans H; with_reducible exact H2_) | with_reducible exact H | (rw [hy228]; exact H) | exact H
                 have Ny228 := Am hy228
                 clear hy228
                 focus
                  have H' := Am H
                  clear H
                  try go_wp2
                  have n0_ := Am (Kd.R_drew HO_6.out)
                  have n1_ := Am (kD BK196.out)
                  have n2_ := Am (kD BK200.out)
                  have n3_ := Am (kD BK205.out)
                  have n4_ := Am (bD HB.out)
                  clear HO_6 BK196 BK200 BK205 HB
                  have HO_6 := n0_; have BK196 := n1_; have BK200 := n2_; have BK205 := n3_; have HB := n4_
                  clear n0_ n1_ n2_ n3_ n4_
                  obtain ⟨Ao44, co44, eo44⟩ := Kd.R_slice HO_6.out
                  (first | subst eo44 | (injection eo44 with f1_ f2_ f3_; have f4_ := f1_.symm; have f5_ := f3_.symm; clear f1_ f2_ f3_; subst f4_; subst f5_))
                  have p206 : 0 ≤ (x11_3 : Int) := of_decide_eq_true (by first | (with_reducible assumption) | assumption)
                  have q206 : x11_3 < (x6_2.length : Int) := of_decide_eq_true (by first | (with_reducible assumption) | assumption)
                  obtain ⟨ad206, e206, hx206_0, hx206_1⟩ := at_T24 (Kd.R_reads' HO_6.out).2.2 x11_3 p206 q206
                  cases e206
                  replace p206 := eq_true p206
                  replace q206 := eq_true q206
                  refine start_ (n := 13) (S := fun w' => w'.cell? ⟨gb205, 0, none⟩ = some (.int .i64 t202) ∧ w'.cell? ⟨gb205, 1, none⟩ = some (.int .i64 t203) ∧ w'.cell? (ad206.add ((x11_3).toNat * 2)) = some (.int .i64 ((rd_T24 x6_2 x11_3).f0)) ∧ w'.cell? ⟨(ad206.add ((x11_3).toNat * 2)).block, (ad206.add ((x11_3).toNat * 2)).off + 1, none⟩ = some (.int .i64 ((rd_T24 x6_2 x11_3).f1))) (ds := []) (pT 13 0) (by kernel_rfl) rfl rfl ⟨c20 BK205.out, c21 BK205.out, hx206_0, hx206_1⟩ (fun hHeld => ?_); refine with_tabW spec_meGaps.tab13 spec_meGaps.bits13 (fun HT_ HW_ => ?_)
                  generalize wr.drew = w43 at HO_6 BK196 BK200 BK205 HB hx206_0 hx206_1 hHeld ⊢
                  iterate 10
                   first
                   | refine pI (v := ?_) (a' := ?_) rfl (any_of HT_.out (by kernel_rfl)) (fun _ _ _ h => h) (Or.inl ⟨by rfl, ?_⟩) ?_ ?_
                     rotate_left
                     ·intro w'
                      go_simp
                      with_reducible rfl
                     rotate_left
                     ·show Act.put _ (some _) _ = _
                      simp only [Act.put, List.setIfInBounds_toArray, List.set_cons_zero, List.set_cons_succ, i64_w, i32_w]
                      rfl
                   | refine tI (v := ?_) (a' := ?_) rfl (take_ofW HT_.out HW_.out (by kernel_rfl)) (fun _ _ _ h => h) (Or.inl ⟨by rfl, ?_⟩) hHeld ?_ ?_
                     rotate_left
                     ·rintro w' ⟨s0, s1, s2, s3⟩
                      go_simp
                      with_reducible rfl
                     rotate_left
                     ·show Act.put _ (some _) _ = _
                      simp only [Act.put, List.setIfInBounds_toArray, List.set_cons_zero, List.set_cons_succ, i64_w, i32_w]
                      rfl
                  refine one_ (i := 10) (N := some 53) (pT 13 11) rfl rfl (one_of HT_.out (by kernel_rfl)) (by decide) (fun K hK => ?_)
                  refine goes_ Try.func49 (by kernel_rfl) rfl #[.agg #[.int .i64 ((rd_T24 x6_2 x11_3).f0), .int .i64 ((rd_T24 x6_2 x11_3).f1)], .agg #[.int .i64 t202, .int .i64 t203]] (by rfl) rfl rfl (by (try simp only [List.map_toArray, List.map_cons, List.map_nil]); first | done | rfl | (simp only [List.length_drop, List.length_take]; rfl)) ?_
                  with_reducible refine (spec_diCompare.calls ((rd_T24 x6_2 x11_3).f0) ((rd_T24 x6_2 x11_3).f1) t202 t203 t207 _ A31.out).mono ?_
                  rintro e w45 ⟨rfl, hb⟩
                  have HS2_ := (hb.cell (World.block_lt_of_cell? _ _ (hHeld.2.2.1))).trans (hHeld.2.2.1)
                  have HS3_ := (hb.cell (World.block_lt_of_cell? _ _ (hHeld.2.2.2))).trans (hHeld.2.2.2)
                  refine ⟨_, rfl, ?_⟩
                  have n0_ := Am (Kd.R_below (kW HO_6) hb)
                  have hp0 := pA BK196 hb
                  have hv := vK HB hb
                  have n4_ := Am (bT hv hb)
                  clear HO_6 HB
                  have HO_6 := n0_
                  replace BK196 := hp0 BK196; replace BK200 := hp0 BK200; replace BK205 := hp0 BK205
                  have HB := n4_
                  clear n0_ n4_ hp0 hv
                  (try clear hb)
                  refine hK.out _ _ ⟨c20 BK205.out, c21 BK205.out, HS2_, HS3_⟩ (fun hHeld => ?_)
                  clear hK K
                  refine norm_ (a' := ?_) ?_ ?_
                  rotate_left
                  ·show Act.put _ (some 53) _ = _
                   simp only [Act.put, List.setIfInBounds_toArray, List.set_cons_zero, List.set_cons_succ, i64_w, i32_w]
                   rfl
                  iterate 2
                   refine pI (v := ?_) (a' := ?_) rfl (any_of HT_.out (by kernel_rfl)) (fun _ _ _ h => h) (Or.inl ⟨by rfl, ?_⟩) ?_ ?_
                   rotate_left
                   ·intro w'
                    go_simp
                    with_reducible rfl
                   rotate_left
                   ·show Act.put _ (some _) _ = _
                    simp only [Act.put, List.setIfInBounds_toArray, List.set_cons_zero, List.set_cons_succ, i64_w, i32_w]
                    rfl
                  refine done_ (done_of HT_.out (by kernel_rfl)) ?_
                  try go_wp2
                  have n0_ := Am (Kd.R_drew HO_6.out)
                  have n1_ := Am (kD BK196.out)
                  have n2_ := Am (kD BK200.out)
                  have n3_ := Am (kD BK205.out)
                  have n4_ := Am (bD HB.out)
                  clear HO_6 BK196 BK200 BK205 HB
                  have HO_6 := n0_; have BK196 := n1_; have BK200 := n2_; have BK205 := n3_; have HB := n4_
                  clear n0_ n1_ n2_ n3_ n4_
                  have q47 : (x11_3 : Int) ≤ ((x6_2.length : Int) : Int) := of_decide_eq_true (by first | (with_reducible assumption) | assumption)
                  obtain ⟨i047, hi047, _, hsz47, _⟩ := info_parts info24
                  have hroom47 : x6_2.length ≤ co44 := (Kd.R_reads' HO_6.out).2.1
                  have hC47 : Kd.C k24 _ (some ad206) x6_2.length x6_2 := (Kd.R_reads' HO_6.out).2.2
                  have hcut47 := cut_to (P := Try.prog) 27 24 .i64 Try.underlying27 hi047 (some ad206) x6_2.length co44 x11_3 (of_decide_eq_true (by first | (with_reducible assumption) | assumption)) q47 hroom47
                  have hr47 := Kd.C_take (m := (x11_3 : Int).toNat) hC47 (by omega)
                  have hy47 : y211.length = (x11_3 : Int).toNat := (by rw [Ny211.out, List.length_take]; omega)
                  rw [← Ny211.out] at hr47
                  rw [← hy47] at hcut47
                  have HR214 := Am hr47
                  have HC214 := Am (show y211.length ≤ co44 from by omega)
                  clear hr47 hC47 hroom47 hi047 hsz47
                  have KY47 := Am hy47
                  clear hy47
                  have KL47 := Am (show (x11_3 : Int).toNat ≤ x6_2.length from by omega)
                  replace q47 := eq_true q47
                  refine start_ (n := 9) (S := fun w' => w'.cell? ⟨gb205, 0, none⟩ = some (.int .i64 t202) ∧ w'.cell? ⟨gb205, 1, none⟩ = some (.int .i64 t203)) (ds := []) (pT 9 0) (by kernel_rfl) rfl rfl ⟨c20 BK205.out, c21 BK205.out⟩ (fun hHeld => ?_); refine with_tabW spec_meGaps.tab15 spec_meGaps.bits15 (fun HT_ HW_ => ?_)
                  generalize w45.drew = w46 at HO_6 BK196 BK200 BK205 HB HR214 hHeld ⊢
                  refine pure_ (i := 1) (N := some 59) (v := ?_) (a' := ?_) #[false, true, false, false, false, false, false, false, false] rfl rfl (any_of HT_.out (by kernel_rfl)) (fun _ _ _ h => h) (Or.inl ⟨by rfl, ?_⟩) ?_ ?_
                  rotate_left
                  ·intro w'
                   go_simp
                   with_reducible rfl
                  rotate_left
                  ·simp only [Act.put, List.setIfInBounds_toArray, List.set_cons_zero, List.set_cons_succ, i64_w, i32_w]
                   rfl
                  refine pure_ (i := 2) (N := some 60) (v := ?_) (a' := ?_) #[false, true, true, false, false, false, false, false, false] rfl rfl (any_of HT_.out (by kernel_rfl)) (fun _ _ _ h => h) (Or.inl ⟨by rfl, ?_⟩) ?_ ?_
                  rotate_left
                  ·intro w'
                   go_simp
                   with_reducible rfl
                  rotate_left
                  ·simp only [Act.put, List.setIfInBounds_toArray, List.set_cons_zero, List.set_cons_succ, i64_w, i32_w]
                   rfl
                  refine pure_ (i := 3) (N := some 61) (v := ?_) (a' := ?_) #[false, true, true, true, false, false, false, false, false] rfl rfl (any_of HT_.out (by kernel_rfl)) (fun _ _ _ h => h) (Or.inl ⟨by rfl, ?_⟩) ?_ ?_
                  rotate_left
                  ·intro w'
                   go_simp
                   with_reducible rfl
                  rotate_left
                  ·simp only [Act.put, List.setIfInBounds_toArray, List.set_cons_zero, List.set_cons_succ, i64_w, i32_w]
                   rfl
                  refine take_ (i := 5) (N := some 63) (v := ?_) (a' := ?_) #[false, true, true, true, false, true, false, false, false] rfl rfl (take_ofW HT_.out HW_.out (by kernel_rfl)) (fun _ _ _ h => h) (Or.inl ⟨by rfl, ?_⟩) hHeld ?_ ?_
                  rotate_left
                  ·rintro w' ⟨s0, s1⟩
                   go_simp
                   with_reducible rfl
                  rotate_left
                  ·simp only [Act.put, List.setIfInBounds_toArray, List.set_cons_zero, List.set_cons_succ, i64_w, i32_w]
                   rfl
                  refine join_ (σ := Value × Value × Value) 2 (pT 9 7) (fun s_ => [(58, s_.1), (62, s_.2.1), (64, s_.2.2)]) (fun s_ w' => (w'.cell? ⟨gb205, 0, none⟩ = some (.int .i64 t202) ∧ w'.cell? ⟨gb205, 1, none⟩ = some (.int .i64 t203)) ∧ (Kd.R k24 24 w' w.heap.size (fun k_ => some k_ ≠ (s_.2.2 : Value).ownBlock ∧ some k_ ≠ (.slice (some ad206) x6_2.length co44 : Value).ownBlock ∧ k_ ≠ gb196 ∧ k_ ≠ gb205) s_.2.1 y215) ∧ (Kd.R k24 24 w' w.heap.size (fun k_ => some k_ ≠ (s_.2.1 : Value).ownBlock ∧ some k_ ≠ (.slice (some ad206) x6_2.length co44 : Value).ownBlock ∧ k_ ≠ gb196 ∧ k_ ≠ gb205) s_.2.2 y218) ∧ (Kd.R k24 24 w' w.heap.size (fun k_ => some k_ ≠ (s_.2.1 : Value).ownBlock ∧ some k_ ≠ (s_.2.2 : Value).ownBlock ∧ k_ ≠ gb196 ∧ k_ ≠ gb205) (.slice (some ad206) x6_2.length co44) x6_2) ∧ (w'.heap[gb196]? = some (.cells #[.int .i64 a1_0, .int .i64 a1_1] 24 (0, 0))) ∧ (w'.heap[gb200]? = some (.cells #[.int .i64 ((rd_T26 l0 x28_2).f0.f0), .int .i64 ((rd_T26 l0 x28_2).f0.f1), .int .i64 ((rd_T26 l0 x28_2).f1)] 26 (0, 0))) ∧ (w'.heap[gb205]? = some (.cells #[.int .i64 t202, .int .i64 t203] 24 (0, 0))) ∧ (Below w.heap.size w w')) ?_ ?_
                  rotate_left
                  ·intro hCont
                   refine two_ (i := 0) (j := 6) (Ni := some 58) (Nj := some 64) #[true, true, true, true, false, true, false, false, false] #[false, true, true, true, false, true, true, false, false] rfl rfl rfl rfl (two_of HT_.out (by kernel_rfl)) (by decide) (by decide) (fun K hK => ?_) (fun K hK => ?_)
                   ·skip
                    refine Kd.R_lit_step k24 _ 24 ?hg (N := 58) ?hd (xs := ([] : List (S24))) (inner := []) (ok := fun _ => True) (okp := fun _ => True) ?hr ?hp (fun _ hk => hk) trivial (Below.refl _ _) (Nat.le_refl _) (by simp) ?_; (case hd => rfl); (case hg => rfl); (case hr => first | (go_simp; done) | (go_simp; rfl)); (case hp => exact (Reps.none _ _))
                    intro v209 w48 ho49 hb hg_ hnew_
                    clear hg_ hnew_
                    (first | rw [← Ny208.out] at ho49 | (simp only [Int.reduceToNat] at ho49; rw [← Ny208.out] at ho49))
                    have n0_ := Am (Kd.R_elder' (kW HO_6) (Kd.R_base ho49) hb)
                    have n1_ := Am (Kd.R_lower (Kd.R_newB (Kd.R_newB (Kd.R_new' ho49 (Kd.R_lt (kW HO_6))) (g := gb196) (o := .cells #[.int .i64 a1_0, .int .i64 a1_1] 24 (0, 0)) (kU BK196)) (g := gb205) (o := .cells #[.int .i64 t202, .int .i64 t203] 24 (0, 0)) (kU BK205)) (bZ (by repeat (first | (with_reducible first | exact HB.out | apply bA | apply bN | apply bD | refine bX ?_ (by assumption)) | exact HB.out))))
                    have hp0 := pA BK196 hb
                    have n5_ := Am (Kd.C_below (by repeat (first | (with_reducible exact HR214.out) | (with_reducible refine Kd.C_alloc ?_ _) | (with_reducible refine Kd.C_drewN ?_ _) | (with_reducible refine Kd.C_drew ?_) | exact HR214.out)) hb)
                    have hv := vK HB hb
                    have n6_ := Am (bT hv hb)
                    clear HO_6 HR214 HB
                    have HO_6 := n0_; have HO210 := n1_
                    replace BK196 := hp0 BK196; replace BK200 := hp0 BK200; replace BK205 := hp0 BK205
                    have HR214 := n5_; have HB := n6_
                    clear n0_ n1_ n5_ n6_ hp0 hv hb ho49
                    refine hK.out _ _ ⟨c20 BK205.out, c21 BK205.out⟩ (fun hHeld => ?_)
                    clear hK K
                    refine norm_ (a' := ?_) ?_ ?_
                    rotate_left
                    ·show Act.put _ (some 58) _ = _
                     simp only [Act.put, List.setIfInBounds_toArray, List.set_cons_zero, List.set_cons_succ, i64_w, i32_w]
                     rfl
                    refine two_ (i := 4) (j := 6) (Ni := some 62) (Nj := some 64) (pT 9 6) #[true, true, true, true, false, true, true, false, false] rfl rfl rfl rfl (two_of HT_.out (by kernel_rfl)) (by decide) (by decide) (fun K hK => ?_) (fun K hK => ?_)
                    ·skip
                     refine Kd.R_append_rows_step k24 (w0 := w) w.heap.size (by rfl) (.tmp 58) (.tmp 61) 27 24 (.agg #[(.int .i64 0), (.int .i64 0)]) 16 rfl Try.underlying27 info24 rfl (by decide) (by omega) v209 y208 y211 _ _ _ (fun k_ => some k_ ≠ (.slice (some ad206) x6_2.length co44 : Value).ownBlock ∧ k_ ≠ gb196 ∧ k_ ≠ gb205) (fun _ => False) rfl rfl ?aO ?aR (fun _ _ h => h) (fun _ h => h.elim) ?aF ?aB ?aS ?aL ?_
                     (case aR => repeat (first | exact (by repeat (first | (with_reducible exact HR214.out) | (with_reducible refine Kd.C_alloc ?_ _) | (with_reducible refine Kd.C_drewN ?_ _) | (with_reducible refine Kd.C_drew ?_) | exact HR214.out)) | (with_reducible refine Kd.C_alloc ?_ _) | (with_reducible refine Kd.C_drewN ?_ _) | (with_reducible refine Kd.C_drew ?_)))
                     (case aB => exact (by repeat (first | (with_reducible first | exact HB.out | apply bA | apply bN | apply bD | refine bX ?_ (by assumption)) | exact HB.out)))
                     (case aF => exact (fun k_ hk => ⟨Kd.fresh' (Kd.R_lt (kW HO_6)) k_ hk, Kd.freshB (g := gb196) (o := .cells #[.int .i64 a1_0, .int .i64 a1_1] 24 (0, 0)) (kU BK196) k_ hk, Kd.freshB (g := gb205) (o := .cells #[.int .i64 t202, .int .i64 t203] 24 (0, 0)) (kU BK205) k_ hk⟩))
                     (case aO => exact (by (with_reducible repeat (first | apply Kd.R_alloc | apply Kd.R_drewN | apply Kd.R_drew)); exact Kd.R_mono HO210.out (fun _ hk => ⟨hk.1.1.2, ⟨hk.1.2, hk.2⟩⟩)))
                     (case aS => exact (bZ (by repeat (first | (with_reducible first | exact HB.out | apply bA | apply bN | apply bD | refine bX ?_ (by assumption)) | exact HB.out))))
                     (case aL => have := LMc38.out; omega)
                     intro v216 w50 ho hb hg hat
                     rw [← Ny215.out] at ho
                     have n0_ := Am (Kd.R_after (ok := (fun k_ => k_ ≠ gb196 ∧ k_ ≠ gb205)) (kW HO_6) hg hat)
                     have n1_ := Am (blk_grown (g := gb196) (o := .cells #[.int .i64 a1_0, .int .i64 a1_1] 24 (0, 0)) (kU BK196) hg (Kd.R_away HO210.out (fun _ hk => hk.1.2)))
                     have n2_ := Am (blk_grown (g := gb200) (o := .cells #[.int .i64 ((rd_T26 l0 x28_2).f0.f0), .int .i64 ((rd_T26 l0 x28_2).f0.f1), .int .i64 ((rd_T26 l0 x28_2).f1)] 26 (0, 0)) (kU BK200) hg (Kd.R_ne HO210.out BK200.out (by decide)))
                     have n3_ := Am (blk_grown (g := gb205) (o := .cells #[.int .i64 t202, .int .i64 t203] 24 (0, 0)) (kU BK205) hg (Kd.R_away HO210.out (fun _ hk => hk.2)))
                     have n4_ := Am (hb)
                     have n5_ := Am ((show Kd.C k24 w50 (some ad206) y211.length y211 from by rw [Ny211.out]; exact Kd.C_take (m := (x11_3 : Int).toNat) ((Kd.R_reads' (Kd.R_after (ok := (fun k_ => k_ ≠ gb196 ∧ k_ ≠ gb205)) (kW HO_6) hg hat)).2.2) KL47.out))
                     have n6_ := Am (ho)
                     clear HO_6 BK196 BK200 BK205 HB HR214 HO210
                     have HO_6 := n0_; have BK196 := n1_; have BK200 := n2_; have BK205 := n3_; have HB := n4_; have HR214 := n5_; have HO217 := n6_
                     clear n0_ n1_ n2_ n3_ n4_ n5_ n6_ ho hb hg hat
                     refine hK.out _ _ ⟨c20 BK205.out, c21 BK205.out⟩ (fun hHeld => ?_)
                     clear hK K
                     refine norm_ (a' := ?_) ?_ ?_
                     rotate_left
                     ·show Act.put _ (some 62) _ = _
                      simp only [Act.put, List.setIfInBounds_toArray, List.set_cons_zero, List.set_cons_succ, i64_w, i32_w]
                      rfl
                     refine one_ (i := 6) (N := some 64) (pT 9 7) rfl rfl (one_of HT_.out (by kernel_rfl)) (by decide) (fun K hK => ?_)
                     refine Kd.R_lit_step k24 _ 24 ?hg (N := 64) ?hd (xs := ([(⟨t202, t203⟩ : S24)] : List (S24))) (inner := [.int .i64 t202, .int .i64 t203]) (ok := fun _ => True) (okp := fun _ => True) ?hr ?hp (fun _ hk => hk) trivial (Below.refl _ _) (Nat.le_refl _) (by simp) ?_; (case hd => rfl); (case hg => rfl); (case hr => first | (go_simp; done) | (go_simp; rfl)); (case hp => exact (Reps.c2 (show Kd.M k24 _ _ _ (⟨t202, t203⟩ : S24) [.int .i64 t202, .int .i64 t203] from (k24_mkM _ _ _ (⟨t202, t203⟩ : S24) )) (Reps.none _ _)))
                     intro v219 w51 ho52 hb hg_ hnew_
                     clear hg_ hnew_
                     (first | rw [← Ny218.out] at ho52 | (simp only [Int.reduceToNat] at ho52; rw [← Ny218.out] at ho52))
                     have n0_ := Am (Kd.R_elder' (kW HO_6) (Kd.R_base ho52) hb)
                     have n1_ := Am (Kd.R_elder' (kW HO217) (Kd.R_base ho52) hb)
                     have n2_ := Am (Kd.R_lower (Kd.R_newB (Kd.R_newB (Kd.R_new' (Kd.R_new' ho52 (Kd.R_lt (kW HO_6))) (Kd.R_lt (kW HO217))) (g := gb196) (o := .cells #[.int .i64 a1_0, .int .i64 a1_1] 24 (0, 0)) (kU BK196)) (g := gb205) (o := .cells #[.int .i64 t202, .int .i64 t203] 24 (0, 0)) (kU BK205)) (bZ (by repeat (first | (with_reducible first | exact HB.out | apply bA | apply bN | apply bD | refine bX ?_ (by assumption)) | exact HB.out))))
                     have hp0 := pA BK196 hb
                     have n6_ := Am (Kd.C_below (by repeat (first | (with_reducible exact HR214.out) | (with_reducible refine Kd.C_alloc ?_ _) | (with_reducible refine Kd.C_drewN ?_ _) | (with_reducible refine Kd.C_drew ?_) | exact HR214.out)) hb)
                     have hv := vK HB hb
                     have n7_ := Am (bT hv hb)
                     clear HO_6 HO217 HR214 HB
                     have HO_6 := n0_; have HO217 := n1_; have HO220 := n2_
                     replace BK196 := hp0 BK196; replace BK200 := hp0 BK200; replace BK205 := hp0 BK205
                     have HR214 := n6_; have HB := n7_
                     clear n0_ n1_ n2_ n6_ n7_ hp0 hv hb ho52
                     refine hK.out _ _ ⟨c20 BK205.out, c21 BK205.out⟩ (fun hHeld => ?_)
                     clear hK K
                     refine norm_ (a' := ?_) ?_ ?_
                     rotate_left
                     ·show Act.put _ (some 64) _ = _
                      simp only [Act.put, List.setIfInBounds_toArray, List.set_cons_zero, List.set_cons_succ, i64_w, i32_w]
                      rfl
                     exact norm_ (by simp only [putAll, Act.put, List.setIfInBounds_toArray, List.set_cons_zero, List.set_cons_succ]) (hCont (v209, v216, v219) _ ⟨hHeld, (by (with_reducible repeat (first | apply Kd.R_alloc | apply Kd.R_drewN | apply Kd.R_drew)); exact Kd.R_mono HO217.out (fun _ hk => ⟨hk.2, ⟨hk.1.1, ⟨hk.1.2.1, hk.1.2.2⟩⟩⟩)), (by (with_reducible repeat (first | apply Kd.R_alloc | apply Kd.R_drewN | apply Kd.R_drew)); exact Kd.R_mono HO220.out (fun _ hk => ⟨hk.1.1.2, ⟨hk.1.1.1.2, ⟨hk.1.2, hk.2⟩⟩⟩)), (by (with_reducible repeat (first | apply Kd.R_alloc | apply Kd.R_drewN | apply Kd.R_drew)); exact Kd.R_mono HO_6.out (fun _ hk => ⟨hk.1.2, ⟨hk.2, ⟨hk.1.1.1, hk.1.1.2⟩⟩⟩)), (kU BK196), (kU BK200), (kU BK205), (by repeat (first | (with_reducible first | exact HB.out | apply bA | apply bN | apply bD | refine bX ?_ (by assumption)) | exact HB.out))⟩)
                    skip
                    refine Kd.R_lit_step k24 _ 24 ?hg (N := 64) ?hd (xs := ([(⟨t202, t203⟩ : S24)] : List (S24))) (inner := [.int .i64 t202, .int .i64 t203]) (ok := fun _ => True) (okp := fun _ => True) ?hr ?hp (fun _ hk => hk) trivial (Below.refl _ _) (Nat.le_refl _) (by simp) ?_; (case hd => rfl); (case hg => rfl); (case hr => first | (go_simp; done) | (go_simp; rfl)); (case hp => exact (Reps.c2 (show Kd.M k24 _ _ _ (⟨t202, t203⟩ : S24) [.int .i64 t202, .int .i64 t203] from (k24_mkM _ _ _ (⟨t202, t203⟩ : S24) )) (Reps.none _ _)))
                    intro v219 w50 ho51 hb hg_ hnew_
                    clear hg_ hnew_
                    (first | rw [← Ny218.out] at ho51 | (simp only [Int.reduceToNat] at ho51; rw [← Ny218.out] at ho51))
                    have n0_ := Am (Kd.R_elder' (kW HO_6) (Kd.R_base ho51) hb)
                    have n1_ := Am (Kd.R_elder' (kW HO210) (Kd.R_base ho51) hb)
                    have n2_ := Am (Kd.R_lower (Kd.R_newB (Kd.R_newB (Kd.R_new' (Kd.R_new' ho51 (Kd.R_lt (kW HO_6))) (Kd.R_lt (kW HO210))) (g := gb196) (o := .cells #[.int .i64 a1_0, .int .i64 a1_1] 24 (0, 0)) (kU BK196)) (g := gb205) (o := .cells #[.int .i64 t202, .int .i64 t203] 24 (0, 0)) (kU BK205)) (bZ (by repeat (first | (with_reducible first | exact HB.out | apply bA | apply bN | apply bD | refine bX ?_ (by assumption)) | exact HB.out))))
                    have hp0 := pA BK196 hb
                    have n6_ := Am (Kd.C_below (by repeat (first | (with_reducible exact HR214.out) | (with_reducible refine Kd.C_alloc ?_ _) | (with_reducible refine Kd.C_drewN ?_ _) | (with_reducible refine Kd.C_drew ?_) | exact HR214.out)) hb)
                    have hv := vK HB hb
                    have n7_ := Am (bT hv hb)
                    clear HO_6 HO210 HR214 HB
                    have HO_6 := n0_; have HO210 := n1_; have HO220 := n2_
                    replace BK196 := hp0 BK196; replace BK200 := hp0 BK200; replace BK205 := hp0 BK205
                    have HR214 := n6_; have HB := n7_
                    clear n0_ n1_ n2_ n6_ n7_ hp0 hv hb ho51
                    refine hK.out _ _ ⟨c20 BK205.out, c21 BK205.out⟩ (fun hHeld => ?_)
                    clear hK K
                    refine norm_ (a' := ?_) ?_ ?_
                    rotate_left
                    ·show Act.put _ (some 64) _ = _
                     simp only [Act.put, List.setIfInBounds_toArray, List.set_cons_zero, List.set_cons_succ, i64_w, i32_w]
                     rfl
                    refine one_ (i := 4) (N := some 62) (pT 9 7) rfl rfl (one_of HT_.out (by kernel_rfl)) (by decide) (fun K hK => ?_)
                    refine Kd.R_append_rows_step k24 (w0 := w) w.heap.size (by rfl) (.tmp 58) (.tmp 61) 27 24 (.agg #[(.int .i64 0), (.int .i64 0)]) 16 rfl Try.underlying27 info24 rfl (by decide) (by omega) v209 y208 y211 _ _ _ (fun k_ => some k_ ≠ (.slice (some ad206) x6_2.length co44 : Value).ownBlock ∧ some k_ ≠ (v219 : Value).ownBlock ∧ k_ ≠ gb196 ∧ k_ ≠ gb205) (fun _ => False) rfl rfl ?aO ?aR (fun _ _ h => h) (fun _ h => h.elim) ?aF ?aB ?aS ?aL ?_
                    (case aR => repeat (first | exact (by repeat (first | (with_reducible exact HR214.out) | (with_reducible refine Kd.C_alloc ?_ _) | (with_reducible refine Kd.C_drewN ?_ _) | (with_reducible refine Kd.C_drew ?_) | exact HR214.out)) | (with_reducible refine Kd.C_alloc ?_ _) | (with_reducible refine Kd.C_drewN ?_ _) | (with_reducible refine Kd.C_drew ?_)))
                    (case aB => exact (by repeat (first | (with_reducible first | exact HB.out | apply bA | apply bN | apply bD | refine bX ?_ (by assumption)) | exact HB.out)))
                    (case aF => exact (fun k_ hk => ⟨Kd.fresh' (Kd.R_lt (kW HO_6)) k_ hk, Kd.fresh' (Kd.R_lt (kW HO220)) k_ hk, Kd.freshB (g := gb196) (o := .cells #[.int .i64 a1_0, .int .i64 a1_1] 24 (0, 0)) (kU BK196) k_ hk, Kd.freshB (g := gb205) (o := .cells #[.int .i64 t202, .int .i64 t203] 24 (0, 0)) (kU BK205) k_ hk⟩))
                    (case aO => exact (by (with_reducible repeat (first | apply Kd.R_alloc | apply Kd.R_drewN | apply Kd.R_drew)); exact Kd.R_mono HO210.out (fun _ hk => ⟨hk.1.1.1.2, ⟨hk.2, ⟨hk.1.1.2, hk.1.2⟩⟩⟩)))
                    (case aS => exact (bZ (by repeat (first | (with_reducible first | exact HB.out | apply bA | apply bN | apply bD | refine bX ?_ (by assumption)) | exact HB.out))))
                    (case aL => have := LMc38.out; omega)
                    intro v216 w52 ho hb hg hat
                    rw [← Ny215.out] at ho
                    have n0_ := Am (Kd.R_after (ok := (fun k_ => some k_ ≠ (v219 : Value).ownBlock ∧ k_ ≠ gb196 ∧ k_ ≠ gb205)) (by (with_reducible repeat (first | apply Kd.R_alloc | apply Kd.R_drewN | apply Kd.R_drew)); exact Kd.R_mono HO_6.out (fun _ hk => ⟨⟨hk.2, ⟨hk.1.1.1, hk.1.1.2⟩⟩, hk.1.2⟩)) hg hat)
                    have n1_ := Am (blk_grown (g := gb196) (o := .cells #[.int .i64 a1_0, .int .i64 a1_1] 24 (0, 0)) (kU BK196) hg (Kd.R_away HO210.out (fun _ hk => hk.1.1.2)))
                    have n2_ := Am (blk_grown (g := gb200) (o := .cells #[.int .i64 ((rd_T26 l0 x28_2).f0.f0), .int .i64 ((rd_T26 l0 x28_2).f0.f1), .int .i64 ((rd_T26 l0 x28_2).f1)] 26 (0, 0)) (kU BK200) hg (Kd.R_ne HO210.out BK200.out (by decide)))
                    have n3_ := Am (blk_grown (g := gb205) (o := .cells #[.int .i64 t202, .int .i64 t203] 24 (0, 0)) (kU BK205) hg (Kd.R_away HO210.out (fun _ hk => hk.1.2)))
                    have n4_ := Am (Kd.R_after (ok := (fun k_ => some k_ ≠ (.slice (some ad206) x6_2.length co44 : Value).ownBlock ∧ k_ ≠ gb196 ∧ k_ ≠ gb205)) (by (with_reducible repeat (first | apply Kd.R_alloc | apply Kd.R_drewN | apply Kd.R_drew)); exact Kd.R_mono HO220.out (fun _ hk => ⟨⟨hk.1.1.1.2, ⟨hk.1.2, hk.2⟩⟩, hk.1.1.2⟩)) hg hat)
                    have n5_ := Am (hb)
                    have n6_ := Am ((show Kd.C k24 w52 (some ad206) y211.length y211 from by rw [Ny211.out]; exact Kd.C_take (m := (x11_3 : Int).toNat) ((Kd.R_reads' (Kd.R_after (ok := (fun k_ => some k_ ≠ (v219 : Value).ownBlock ∧ k_ ≠ gb196 ∧ k_ ≠ gb205)) (by (with_reducible repeat (first | apply Kd.R_alloc | apply Kd.R_drewN | apply Kd.R_drew)); exact Kd.R_mono HO_6.out (fun _ hk => ⟨⟨hk.2, ⟨hk.1.1.1, hk.1.1.2⟩⟩, hk.1.2⟩)) hg hat)).2.2) KL47.out))
                    have n7_ := Am (ho)
                    clear HO_6 BK196 BK200 BK205 HO220 HB HR214 HO210
                    have HO_6 := n0_; have BK196 := n1_; have BK200 := n2_; have BK205 := n3_; have HO220 := n4_; have HB := n5_; have HR214 := n6_; have HO217 := n7_
                    clear n0_ n1_ n2_ n3_ n4_ n5_ n6_ n7_ ho hb hg hat
                    refine hK.out _ _ ⟨c20 BK205.out, c21 BK205.out⟩ (fun hHeld => ?_)
                    clear hK K
                    refine norm_ (a' := ?_) ?_ ?_
                    rotate_left
                    ·show Act.put _ (some 62) _ = _
                     simp only [Act.put, List.setIfInBounds_toArray, List.set_cons_zero, List.set_cons_succ, i64_w, i32_w]
                     rfl
                    exact norm_ (by simp only [putAll, Act.put, List.setIfInBounds_toArray, List.set_cons_zero, List.set_cons_succ]) (hCont (v209, v216, v219) _ ⟨hHeld, (by (with_reducible repeat (first | apply Kd.R_alloc | apply Kd.R_drewN | apply Kd.R_drew)); exact Kd.R_mono HO217.out (fun _ hk => ⟨hk.2.1, ⟨hk.1, ⟨hk.2.2.1, hk.2.2.2⟩⟩⟩)), (by (with_reducible repeat (first | apply Kd.R_alloc | apply Kd.R_drewN | apply Kd.R_drew)); exact Kd.R_mono HO220.out (fun _ hk => ⟨hk.2, ⟨hk.1.1, ⟨hk.1.2.1, hk.1.2.2⟩⟩⟩)), (by (with_reducible repeat (first | apply Kd.R_alloc | apply Kd.R_drewN | apply Kd.R_drew)); exact Kd.R_mono HO_6.out (fun _ hk => ⟨hk.2, ⟨hk.1.1, ⟨hk.1.2.1, hk.1.2.2⟩⟩⟩)), (kU BK196), (kU BK200), (kU BK205), (by repeat (first | (with_reducible first | exact HB.out | apply bA | apply bN | apply bD | refine bX ?_ (by assumption)) | exact HB.out))⟩)
                   skip
                   refine Kd.R_lit_step k24 _ 24 ?hg (N := 64) ?hd (xs := ([(⟨t202, t203⟩ : S24)] : List (S24))) (inner := [.int .i64 t202, .int .i64 t203]) (ok := fun _ => True) (okp := fun _ => True) ?hr ?hp (fun _ hk => hk) trivial (Below.refl _ _) (Nat.le_refl _) (by simp) ?_; (case hd => rfl); (case hg => rfl); (case hr => first | (go_simp; done) | (go_simp; rfl)); (case hp => exact (Reps.c2 (show Kd.M k24 _ _ _ (⟨t202, t203⟩ : S24) [.int .i64 t202, .int .i64 t203] from (k24_mkM _ _ _ (⟨t202, t203⟩ : S24) )) (Reps.none _ _)))
                   intro v219 w48 ho49 hb hg_ hnew_
                   clear hg_ hnew_
                   (first | rw [← Ny218.out] at ho49 | (simp only [Int.reduceToNat] at ho49; rw [← Ny218.out] at ho49))
                   have n0_ := Am (Kd.R_elder' (kW HO_6) (Kd.R_base ho49) hb)
                   have n1_ := Am (Kd.R_lower (Kd.R_newB (Kd.R_newB (Kd.R_new' ho49 (Kd.R_lt (kW HO_6))) (g := gb196) (o := .cells #[.int .i64 a1_0, .int .i64 a1_1] 24 (0, 0)) (kU BK196)) (g := gb205) (o := .cells #[.int .i64 t202, .int .i64 t203] 24 (0, 0)) (kU BK205)) (bZ (by repeat (first | (with_reducible first | exact HB.out | apply bA | apply bN | apply bD | refine bX ?_ (by assumption)) | exact HB.out))))
                   have hp0 := pA BK196 hb
                   have n5_ := Am (Kd.C_below (by repeat (first | (with_reducible exact HR214.out) | (with_reducible refine Kd.C_alloc ?_ _) | (with_reducible refine Kd.C_drewN ?_ _) | (with_reducible refine Kd.C_drew ?_) | exact HR214.out)) hb)
                   have hv := vK HB hb
                   have n6_ := Am (bT hv hb)
                   clear HO_6 HR214 HB
                   have HO_6 := n0_; have HO220 := n1_
                   replace BK196 := hp0 BK196; replace BK200 := hp0 BK200; replace BK205 := hp0 BK205
                   have HR214 := n5_; have HB := n6_
                   clear n0_ n1_ n5_ n6_ hp0 hv hb ho49
                   refine hK.out _ _ ⟨c20 BK205.out, c21 BK205.out⟩ (fun hHeld => ?_)
                   clear hK K
                   refine norm_ (a' := ?_) ?_ ?_
                   rotate_left
                   ·show Act.put _ (some 64) _ = _
                    simp only [Act.put, List.setIfInBounds_toArray, List.set_cons_zero, List.set_cons_succ, i64_w, i32_w]
                    rfl
                   refine one_ (i := 0) (N := some 58) #[true, true, true, true, false, true, true, false, false] rfl rfl (one_of HT_.out (by kernel_rfl)) (by decide) (fun K hK => ?_)
                   refine Kd.R_lit_step k24 _ 24 ?hg (N := 58) ?hd (xs := ([] : List (S24))) (inner := []) (ok := fun _ => True) (okp := fun _ => True) ?hr ?hp (fun _ hk => hk) trivial (Below.refl _ _) (Nat.le_refl _) (by simp) ?_; (case hd => rfl); (case hg => rfl); (case hr => first | (go_simp; done) | (go_simp; rfl)); (case hp => exact (Reps.none _ _))
                   intro v209 w50 ho51 hb hg_ hnew_
                   clear hg_ hnew_
                   (first | rw [← Ny208.out] at ho51 | (simp only [Int.reduceToNat] at ho51; rw [← Ny208.out] at ho51))
                   have n0_ := Am (Kd.R_elder' (kW HO_6) (Kd.R_base ho51) hb)
                   have n1_ := Am (Kd.R_elder' (kW HO220) (Kd.R_base ho51) hb)
                   have n2_ := Am (Kd.R_lower (Kd.R_newB (Kd.R_newB (Kd.R_new' (Kd.R_new' ho51 (Kd.R_lt (kW HO_6))) (Kd.R_lt (kW HO220))) (g := gb196) (o := .cells #[.int .i64 a1_0, .int .i64 a1_1] 24 (0, 0)) (kU BK196)) (g := gb205) (o := .cells #[.int .i64 t202, .int .i64 t203] 24 (0, 0)) (kU BK205)) (bZ (by repeat (first | (with_reducible first | exact HB.out | apply bA | apply bN | apply bD | refine bX ?_ (by assumption)) | exact HB.out))))
                   have hp0 := pA BK196 hb
                   have n6_ := Am (Kd.C_below (by repeat (first | (with_reducible exact HR214.out) | (with_reducible refine Kd.C_alloc ?_ _) | (with_reducible refine Kd.C_drewN ?_ _) | (with_reducible refine Kd.C_drew ?_) | exact HR214.out)) hb)
                   have hv := vK HB hb
                   have n7_ := Am (bT hv hb)
                   clear HO_6 HO220 HR214 HB
                   have HO_6 := n0_; have HO220 := n1_; have HO210 := n2_
                   replace BK196 := hp0 BK196; replace BK200 := hp0 BK200; replace BK205 := hp0 BK205
                   have HR214 := n6_; have HB := n7_
                   clear n0_ n1_ n2_ n6_ n7_ hp0 hv hb ho51
                   refine hK.out _ _ ⟨c20 BK205.out, c21 BK205.out⟩ (fun hHeld => ?_)
                   clear hK K
                   refine norm_ (a' := ?_) ?_ ?_
                   rotate_left
                   ·show Act.put _ (some 58) _ = _
                    simp only [Act.put, List.setIfInBounds_toArray, List.set_cons_zero, List.set_cons_succ, i64_w, i32_w]
                    rfl
                   refine one_ (i := 4) (N := some 62) (pT 9 7) rfl rfl (one_of HT_.out (by kernel_rfl)) (by decide) (fun K hK => ?_)
                   refine Kd.R_append_rows_step k24 (w0 := w) w.heap.size (by rfl) (.tmp 58) (.tmp 61) 27 24 (.agg #[(.int .i64 0), (.int .i64 0)]) 16 rfl Try.underlying27 info24 rfl (by decide) (by omega) v209 y208 y211 _ _ _ (fun k_ => some k_ ≠ (.slice (some ad206) x6_2.length co44 : Value).ownBlock ∧ some k_ ≠ (v219 : Value).ownBlock ∧ k_ ≠ gb196 ∧ k_ ≠ gb205) (fun _ => False) rfl rfl ?aO ?aR (fun _ _ h => h) (fun _ h => h.elim) ?aF ?aB ?aS ?aL ?_
                   (case aR => repeat (first | exact (by repeat (first | (with_reducible exact HR214.out) | (with_reducible refine Kd.C_alloc ?_ _) | (with_reducible refine Kd.C_drewN ?_ _) | (with_reducible refine Kd.C_drew ?_) | exact HR214.out)) | (with_reducible refine Kd.C_alloc ?_ _) | (with_reducible refine Kd.C_drewN ?_ _) | (with_reducible refine Kd.C_drew ?_)))
                   (case aB => exact (by repeat (first | (with_reducible first | exact HB.out | apply bA | apply bN | apply bD | refine bX ?_ (by assumption)) | exact HB.out)))
                   (case aF => exact (fun k_ hk => ⟨Kd.fresh' (Kd.R_lt (kW HO_6)) k_ hk, Kd.fresh' (Kd.R_lt (kW HO220)) k_ hk, Kd.freshB (g := gb196) (o := .cells #[.int .i64 a1_0, .int .i64 a1_1] 24 (0, 0)) (kU BK196) k_ hk, Kd.freshB (g := gb205) (o := .cells #[.int .i64 t202, .int .i64 t203] 24 (0, 0)) (kU BK205) k_ hk⟩))
                   (case aO => exact (by (with_reducible repeat (first | apply Kd.R_alloc | apply Kd.R_drewN | apply Kd.R_drew)); exact Kd.R_mono HO210.out (fun _ hk => ⟨hk.1.1.1.2, ⟨hk.1.1.2, ⟨hk.1.2, hk.2⟩⟩⟩)))
                   (case aS => exact (bZ (by repeat (first | (with_reducible first | exact HB.out | apply bA | apply bN | apply bD | refine bX ?_ (by assumption)) | exact HB.out))))
                   (case aL => have := LMc38.out; omega)
                   intro v216 w52 ho hb hg hat
                   rw [← Ny215.out] at ho
                   have n0_ := Am (Kd.R_after (ok := (fun k_ => some k_ ≠ (v219 : Value).ownBlock ∧ k_ ≠ gb196 ∧ k_ ≠ gb205)) (by (with_reducible repeat (first | apply Kd.R_alloc | apply Kd.R_drewN | apply Kd.R_drew)); exact Kd.R_mono HO_6.out (fun _ hk => ⟨⟨hk.1.2, ⟨hk.1.1.1, hk.1.1.2⟩⟩, hk.2⟩)) hg hat)
                   have n1_ := Am (blk_grown (g := gb196) (o := .cells #[.int .i64 a1_0, .int .i64 a1_1] 24 (0, 0)) (kU BK196) hg (Kd.R_away HO210.out (fun _ hk => hk.1.2)))
                   have n2_ := Am (blk_grown (g := gb200) (o := .cells #[.int .i64 ((rd_T26 l0 x28_2).f0.f0), .int .i64 ((rd_T26 l0 x28_2).f0.f1), .int .i64 ((rd_T26 l0 x28_2).f1)] 26 (0, 0)) (kU BK200) hg (Kd.R_ne HO210.out BK200.out (by decide)))
                   have n3_ := Am (blk_grown (g := gb205) (o := .cells #[.int .i64 t202, .int .i64 t203] 24 (0, 0)) (kU BK205) hg (Kd.R_away HO210.out (fun _ hk => hk.2)))
                   have n4_ := Am (Kd.R_after (ok := (fun k_ => some k_ ≠ (.slice (some ad206) x6_2.length co44 : Value).ownBlock ∧ k_ ≠ gb196 ∧ k_ ≠ gb205)) (by (with_reducible repeat (first | apply Kd.R_alloc | apply Kd.R_drewN | apply Kd.R_drew)); exact Kd.R_mono HO220.out (fun _ hk => ⟨⟨hk.1.1.1.2, ⟨hk.1.1.2, hk.1.2⟩⟩, hk.2⟩)) hg hat)
                   have n5_ := Am (hb)
                   have n6_ := Am ((show Kd.C k24 w52 (some ad206) y211.length y211 from by rw [Ny211.out]; exact Kd.C_take (m := (x11_3 : Int).toNat) ((Kd.R_reads' (Kd.R_after (ok := (fun k_ => some k_ ≠ (v219 : Value).ownBlock ∧ k_ ≠ gb196 ∧ k_ ≠ gb205)) (by (with_reducible repeat (first | apply Kd.R_alloc | apply Kd.R_drewN | apply Kd.R_drew)); exact Kd.R_mono HO_6.out (fun _ hk => ⟨⟨hk.1.2, ⟨hk.1.1.1, hk.1.1.2⟩⟩, hk.2⟩)) hg hat)).2.2) KL47.out))
                   have n7_ := Am (ho)
                   clear HO_6 BK196 BK200 BK205 HO220 HB HR214 HO210
                   have HO_6 := n0_; have BK196 := n1_; have BK200 := n2_; have BK205 := n3_; have HO220 := n4_; have HB := n5_; have HR214 := n6_; have HO217 := n7_
                   clear n0_ n1_ n2_ n3_ n4_ n5_ n6_ n7_ ho hb hg hat
                   refine hK.out _ _ ⟨c20 BK205.out, c21 BK205.out⟩ (fun hHeld => ?_)
                   clear hK K
                   refine norm_ (a' := ?_) ?_ ?_
                   rotate_left
                   ·show Act.put _ (some 62) _ = _
                    simp only [Act.put, List.setIfInBounds_toArray, List.set_cons_zero, List.set_cons_succ, i64_w, i32_w]
                    rfl
                   exact norm_ (by simp only [putAll, Act.put, List.setIfInBounds_toArray, List.set_cons_zero, List.set_cons_succ]) (hCont (v209, v216, v219) _ ⟨hHeld, (by (with_reducible repeat (first | apply Kd.R_alloc | apply Kd.R_drewN | apply Kd.R_drew)); exact Kd.R_mono HO217.out (fun _ hk => ⟨hk.2.1, ⟨hk.1, ⟨hk.2.2.1, hk.2.2.2⟩⟩⟩)), (by (with_reducible repeat (first | apply Kd.R_alloc | apply Kd.R_drewN | apply Kd.R_drew)); exact Kd.R_mono HO220.out (fun _ hk => ⟨hk.2, ⟨hk.1.1, ⟨hk.1.2.1, hk.1.2.2⟩⟩⟩)), (by (with_reducible repeat (first | apply Kd.R_alloc | apply Kd.R_drewN | apply Kd.R_drew)); exact Kd.R_mono HO_6.out (fun _ hk => ⟨hk.2, ⟨hk.1.1, ⟨hk.1.2.1, hk.1.2.2⟩⟩⟩)), (kU BK196), (kU BK200), (kU BK205), (by repeat (first | (with_reducible first | exact HB.out | apply bA | apply bN | apply bD | refine bX ?_ (by assumption)) | exact HB.out))⟩)
                  rintro ⟨v209, v216, v219⟩ w53 ⟨hS_, h0_, h1_, h2_, h3_, h4_, h5_, h6_⟩
                  have n0_ : Aside0 (Kd.R k24 24 w53 w.heap.size (fun k_ => some k_ ≠ (v219 : Value).ownBlock ∧ some k_ ≠ (.slice (some ad206) x6_2.length co44 : Value).ownBlock ∧ k_ ≠ gb196 ∧ k_ ≠ gb205) v216 y215) := ⟨h0_⟩
                  have n1_ : Aside0 (Kd.R k24 24 w53 w.heap.size (fun k_ => some k_ ≠ (v216 : Value).ownBlock ∧ some k_ ≠ (.slice (some ad206) x6_2.length co44 : Value).ownBlock ∧ k_ ≠ gb196 ∧ k_ ≠ gb205) v219 y218) := ⟨h1_⟩
                  have n2_ : Aside0 (Kd.R k24 24 w53 w.heap.size (fun k_ => some k_ ≠ (v216 : Value).ownBlock ∧ some k_ ≠ (v219 : Value).ownBlock ∧ k_ ≠ gb196 ∧ k_ ≠ gb205) (.slice (some ad206) x6_2.length co44) x6_2) := ⟨h2_⟩
                  have n3_ : Aside0 (w53.heap[gb196]? = some (.cells #[.int .i64 a1_0, .int .i64 a1_1] 24 (0, 0))) := ⟨h3_⟩
                  have n4_ : Aside0 (w53.heap[gb200]? = some (.cells #[.int .i64 ((rd_T26 l0 x28_2).f0.f0), .int .i64 ((rd_T26 l0 x28_2).f0.f1), .int .i64 ((rd_T26 l0 x28_2).f1)] 26 (0, 0))) := ⟨h4_⟩
                  have n5_ : Aside0 (w53.heap[gb205]? = some (.cells #[.int .i64 t202, .int .i64 t203] 24 (0, 0))) := ⟨h5_⟩
                  have n6_ : Aside0 (Below w.heap.size w w53) := ⟨h6_⟩
                  clear HO_6 BK196 BK200 BK205 HB h0_ h1_ h2_ h3_ h4_ h5_ h6_
                  have HO217 := n0_; have HO220 := n1_; have HO_6 := n2_; have BK196 := n3_; have BK200 := n4_; have BK205 := n5_; have HB := n6_
                  clear n0_ n1_ n2_ n3_ n4_ n5_ n6_
                  have hHeld : w53.cell? ⟨gb205, 0, none⟩ = some (.int .i64 t202) ∧ w53.cell? ⟨gb205, 1, none⟩ = some (.int .i64 t203) := hS_
                  obtain ⟨Ao55, co55, eo55⟩ := Kd.R_slice HO220.out
                  (first | subst eo55 | (injection eo55 with f1_ f2_ f3_; have f4_ := f1_.symm; have f5_ := f3_.symm; clear f1_ f2_ f3_; subst f4_; subst f5_))
                  refine norm_ (a' := ?_) ?_ ?_
                  rotate_left
                  ·simp only [putAll, Act.put, List.setIfInBounds_toArray, List.set_cons_zero, List.set_cons_succ]
                   rfl
                  refine one_ (i := 7) (N := some 65) (pT 9 8) rfl rfl (one_of HT_.out (by kernel_rfl)) (by decide) (fun K hK => ?_)
                  refine Kd.R_append_rows_step k24 (w0 := w) w.heap.size (by rfl) (.tmp 62) (.tmp 64) 27 24 (.agg #[(.int .i64 0), (.int .i64 0)]) 16 rfl Try.underlying27 info24 rfl (by decide) (by omega) v216 y215 y218 _ _ _ (fun k_ => some k_ ≠ (.slice (some ad206) x6_2.length co44 : Value).ownBlock ∧ some k_ ≠ (.slice Ao55 y218.length co55 : Value).ownBlock ∧ k_ ≠ gb196 ∧ k_ ≠ gb205) (fun _ => False) rfl rfl ?aO ?aR (fun _ _ h => h) (fun _ h => h.elim) ?aF ?aB ?aS ?aL ?_
                  (case aR => repeat (first | exact (Kd.R_reads' HO220.out).2.2 | (with_reducible refine Kd.C_alloc ?_ _) | (with_reducible refine Kd.C_drewN ?_ _) | (with_reducible refine Kd.C_drew ?_)))
                  (case aB => exact (by repeat (first | (with_reducible first | exact HB.out | apply bA | apply bN | apply bD | refine bX ?_ (by assumption)) | exact HB.out)))
                  (case aF => exact (fun k_ hk => ⟨Kd.fresh' (Kd.R_lt (kW HO_6)) k_ hk, Kd.fresh' (Kd.R_lt (kW HO220)) k_ hk, Kd.freshB (g := gb196) (o := .cells #[.int .i64 a1_0, .int .i64 a1_1] 24 (0, 0)) (kU BK196) k_ hk, Kd.freshB (g := gb205) (o := .cells #[.int .i64 t202, .int .i64 t203] 24 (0, 0)) (kU BK205) k_ hk⟩))
                  (case aO => exact (by (with_reducible repeat (first | apply Kd.R_alloc | apply Kd.R_drewN | apply Kd.R_drew)); exact Kd.R_mono HO217.out (fun _ hk => ⟨hk.2.1, ⟨hk.1, ⟨hk.2.2.1, hk.2.2.2⟩⟩⟩)))
                  (case aS => exact (bZ (by repeat (first | (with_reducible first | exact HB.out | apply bA | apply bN | apply bD | refine bX ?_ (by assumption)) | exact HB.out))))
                  (case aL => have := LMc39.out; omega)
                  intro v222 w54 ho hb hg hat
                  rw [← Ny221.out] at ho
                  have n0_ := Am (Kd.R_after (ok := (fun k_ => some k_ ≠ (.slice Ao55 y218.length co55 : Value).ownBlock ∧ k_ ≠ gb196 ∧ k_ ≠ gb205)) (by (with_reducible repeat (first | apply Kd.R_alloc | apply Kd.R_drewN | apply Kd.R_drew)); exact Kd.R_mono HO_6.out (fun _ hk => ⟨⟨hk.2.1, ⟨hk.2.2.1, hk.2.2.2⟩⟩, hk.1⟩)) hg hat)
                  have n1_ := Am (blk_grown (g := gb196) (o := .cells #[.int .i64 a1_0, .int .i64 a1_1] 24 (0, 0)) (kU BK196) hg (Kd.R_away HO217.out (fun _ hk => hk.2.2.1)))
                  have n2_ := Am (blk_grown (g := gb200) (o := .cells #[.int .i64 ((rd_T26 l0 x28_2).f0.f0), .int .i64 ((rd_T26 l0 x28_2).f0.f1), .int .i64 ((rd_T26 l0 x28_2).f1)] 26 (0, 0)) (kU BK200) hg (Kd.R_ne HO217.out BK200.out (by decide)))
                  have n3_ := Am (blk_grown (g := gb205) (o := .cells #[.int .i64 t202, .int .i64 t203] 24 (0, 0)) (kU BK205) hg (Kd.R_away HO217.out (fun _ hk => hk.2.2.2)))
                  have n4_ := Am (Kd.R_after (ok := (fun k_ => some k_ ≠ (.slice (some ad206) x6_2.length co44 : Value).ownBlock ∧ k_ ≠ gb196 ∧ k_ ≠ gb205)) (by (with_reducible repeat (first | apply Kd.R_alloc | apply Kd.R_drewN | apply Kd.R_drew)); exact Kd.R_mono HO220.out (fun _ hk => ⟨⟨hk.2.1, ⟨hk.2.2.1, hk.2.2.2⟩⟩, hk.1⟩)) hg hat)
                  have n5_ := Am (hb)
                  have n6_ := Am (ho)
                  clear HO_6 BK196 BK200 BK205 HO220 HB HO217
                  have HO_6 := n0_; have BK196 := n1_; have BK200 := n2_; have BK205 := n3_; have HO220 := n4_; have HB := n5_; have HO223 := n6_
                  clear n0_ n1_ n2_ n3_ n4_ n5_ n6_ ho hb hg hat
                  refine hK.out _ _ ⟨c20 BK205.out, c21 BK205.out⟩ (fun hHeld => ?_)
                  clear hK K
                  refine norm_ (a' := ?_) ?_ ?_
                  rotate_left
                  ·show Act.put _ (some 65) _ = _
                   simp only [Act.put, List.setIfInBounds_toArray, List.set_cons_zero, List.set_cons_succ, i64_w, i32_w]
                   rfl
                  refine pI (v := ?_) (a' := ?_) rfl (any_of HT_.out (by kernel_rfl)) (fun _ _ _ h => h) (Or.inl ⟨by rfl, ?_⟩) ?_ ?_
                  rotate_left
                  ·intro w'
                   go_simp
                   with_reducible rfl
                  rotate_left
                  ·show Act.put _ (some _) _ = _
                   simp only [Act.put, List.setIfInBounds_toArray, List.set_cons_zero, List.set_cons_succ, i64_w, i32_w]
                   rfl
                  refine done_ (done_of HT_.out (by kernel_rfl)) ?_
                  have q56 : (x11_3 : Int) ≤ ((x6_2.length : Int) : Int) := of_decide_eq_true (by first | (with_reducible assumption) | assumption)
                  obtain ⟨i056, hi056, _, hsz56, _⟩ := info_parts info24
                  have hroom56 : x6_2.length ≤ co44 := (Kd.R_reads' HO_6.out).2.1
                  have hC56 : Kd.C k24 _ (some ad206) x6_2.length x6_2 := (Kd.R_reads' HO_6.out).2.2
                  have q056 : (0 : Int) ≤ (x11_3 : Int) := of_decide_eq_true (by first | (with_reducible assumption) | assumption)
                  have hcut56 := cut_from (P := Try.prog) 27 24 .i64 Try.underlying27 hi056 2 hsz56 (some ad206) x6_2.length co44 x11_3 q056 q56
                  have hr56 := Kd.C_drop (m := (x11_3 : Int).toNat) (c := co44) hC56 (by omega) hroom56
                  obtain ⟨A56, hA56⟩ : ∃ A1, A1 = (if co44 = (x11_3 : Int).toNat then (some ad206) else ((some ad206) : Option Addr).map (·.add ((x11_3 : Int).toNat * 2))) := ⟨_, rfl⟩
                  obtain ⟨c56, hc56⟩ : ∃ c1, c1 = co44 - (x11_3 : Int).toNat := ⟨_, rfl⟩
                  have hy56 : y224.length = x6_2.length - (x11_3 : Int).toNat := (by rw [Ny224.out, List.length_drop] <;> omega)
                  rw [show (x6_2).drop (x11_3 : Int).toNat = y224 from Ny224.out.symm] at hr56
                  replace hr56 : Kd.C k24 _ A56 y224.length y224 := (by rw [hA56]; exact hr56)
                  rw [← hy56, ← hA56, ← hc56] at hcut56
                  have HR227 := Am hr56
                  have HC227 := Am (show y224.length ≤ c56 from by rw [hy56, hc56]; exact Nat.sub_le_sub_right hroom56 _)
                  clear hr56 hC56 hroom56 hi056 hsz56 hc56
                  have KY56 := Am hy56
                  have KA56 := Am hA56
                  clear hy56 hA56
                  have KL56 := Am (show (x11_3 : Int).toNat ≤ x6_2.length from by omega)
                  replace q56 := eq_true q56
                  try go_wp2_with (first | ((with_reducible refine gate_builtin (b := .append) (xs := #[.tmp 66, .tmp 69]) rfl ?_); at_builtin; refine Kd.R_append_rows k24 (w0 := w) w.heap.size rfl (.tmp 66) (.tmp 69) 27 24 (.agg #[(.int .i64 0), (.int .i64 0)]) 16 rfl Try.underlying27 info24 rfl (by decide) (by omega) v222 y221 y224 _ _ _ (fun k_ => some k_ ≠ (.slice (some ad206) x6_2.length co44 : Value).ownBlock ∧ some k_ ≠ (.slice Ao55 y218.length co55 : Value).ownBlock ∧ k_ ≠ gb196 ∧ k_ ≠ gb205) (fun _ => False) rfl rfl ?aO ?aR (fun _ _ h => h) (fun _ h => h.elim) ?aF ?aB ?aS ?aL ?_; (case aR => repeat (first | exact (by repeat (first | (with_reducible exact HR227.out) | (with_reducible refine Kd.C_alloc ?_ _) | (with_reducible refine Kd.C_drewN ?_ _) | (with_reducible refine Kd.C_drew ?_) | exact HR227.out)) | (with_reducible refine Kd.C_alloc ?_ _) | (with_reducible refine Kd.C_drewN ?_ _) | (with_reducible refine Kd.C_drew ?_))); (case aB => exact (by repeat (first | (with_reducible first | exact HB.out | apply bA | apply bN | apply bD | refine bX ?_ (by assumption)) | exact HB.out))); (case aF => exact (fun k_ hk => ⟨Kd.fresh' (Kd.R_lt (kW HO_6)) k_ hk, Kd.fresh' (Kd.R_lt (kW HO220)) k_ hk, Kd.freshB (g := gb196) (o := .cells #[.int .i64 a1_0, .int .i64 a1_1] 24 (0, 0)) (kU BK196) k_ hk, Kd.freshB (g := gb205) (o := .cells #[.int .i64 t202, .int .i64 t203] 24 (0, 0)) (kU BK205) k_ hk⟩)); (case aO => exact (kW HO223)); (case aS => exact (bZ (by repeat (first | (with_reducible first | exact HB.out | apply bA | apply bN | apply bD | refine bX ?_ (by assumption)) | exact HB.out)))); (case aL => have := LMc42.out; omega); intro v229 w57 ho hb hg hat; rw [← Ny228.out] at ho; have n0_ := Am (Kd.R_after (ok := (fun k_ => some k_ ≠ (.slice Ao55 y218.length co55 : Value).ownBlock ∧ k_ ≠ gb196 ∧ k_ ≠ gb205)) (kW HO_6) hg hat); have n1_ := Am (blk_grown (g := gb196) (o := .cells #[.int .i64 a1_0, .int .i64 a1_1] 24 (0, 0)) (kU BK196) hg (Kd.R_away HO223.out (fun _ hk => hk.2.2.1))); have n2_ := Am (blk_grown (g := gb200) (o := .cells #[.int .i64 ((rd_T26 l0 x28_2).f0.f0), .int .i64 ((rd_T26 l0 x28_2).f0.f1), .int .i64 ((rd_T26 l0 x28_2).f1)] 26 (0, 0)) (kU BK200) hg (Kd.R_ne HO223.out BK200.out (by decide))); have n3_ := Am (blk_grown (g := gb205) (o := .cells #[.int .i64 t202, .int .i64 t203] 24 (0, 0)) (kU BK205) hg (Kd.R_away HO223.out (fun _ hk => hk.2.2.2))); have n4_ := Am (Kd.R_after (ok := (fun k_ => some k_ ≠ (.slice (some ad206) x6_2.length co44 : Value).ownBlock ∧ k_ ≠ gb196 ∧ k_ ≠ gb205)) (kW HO220) hg hat); have n5_ := Am (hb); have n6_ := Am ((show Kd.C k24 w57 A56 y224.length y224 from by rw [Ny224.out, KA56.out]; exact Kd.C_drop (m := (x11_3 : Int).toNat) (c := co44) ((Kd.R_reads' (Kd.R_after (ok := (fun k_ => some k_ ≠ (.slice Ao55 y218.length co55 : Value).ownBlock ∧ k_ ≠ gb196 ∧ k_ ≠ gb205)) (kW HO_6) hg hat)).2.2) KL56.out ((Kd.R_reads' (Kd.R_after (ok := (fun k_ => some k_ ≠ (.slice Ao55 y218.length co55 : Value).ownBlock ∧ k_ ≠ gb196 ∧ k_ ≠ gb205)) (kW HO_6) hg hat)).2.1))); have n7_ := Am (ho); clear HO_6; clear BK196; clear BK200; clear BK205; clear HO220; clear HB; clear HR227; clear HO223; have HO_6 := n0_; have BK196 := n1_; have BK200 := n2_; have BK205 := n3_; have HO220 := n4_; have HB := n5_; have HR227 := n6_; have HO230 := n7_; clear n0_ n1_ n2_ n3_ n4_ n5_ n6_ n7_; clear ho hb hg hat))
                  go_roundg k3
                  case measure => have := HJ2.out; have := HK2.out; have := HK3.out; omega
                  case rel => exact ⟨(y228), (wrap64 (x28_2 + 1)), (by first | rfl | (simp; done) | (simp [*]; done)), H', ⟨by have := HJ2.out; have := HK2.out; have := HK3.out; omega⟩, ⟨by (with_reducible repeat (first | apply Kd.R_alloc | apply Kd.R_drewN | apply Kd.R_drew)); exact Kd.R_mono HO230.out (fun _ hk => hk.2.2.1)⟩, kV BK196, ⟨by repeat (first | (with_reducible first | exact HB.out | apply bA | apply bN | apply bD | refine bX ?_ (by assumption)) | exact HB.out)⟩⟩
                rw [if_neg c42] at H
                exact absurd H (by simp)
               rw [if_neg c39] at H
               exact absurd H (by simp)
              rw [if_neg c38] at H
              exact absurd H (by simp)
             rw [if_neg c37] at H
             exact absurd H (by simp)
            rw [if_neg c30] at H
            exact absurd H (by simp)
           rw [if_neg c29] at H
           have c29b0 : decide (x11_3 < (x6_2.length : Int)) = false := decide_eq_false c29
           clear c29
           obtain ⟨y231, hy231⟩ : ∃ y_ : List (S24), y_ = (([] : List (S24))) := ⟨_, rfl⟩
           replace H : (if 0 ≤ x11_3 then (if x11_3 ≤ (x6_2.length : Int) then ((some (x6_2.take (x11_3 : Int).toNat : List (S24))).bind fun y234 => (if y231.length + y234.length < 8796093022208 then ((some (y231 ++ y234 : List (S24))).bind fun y238 => ((some (([(⟨t202, t203⟩ : S24)] : List (S24)) : List (S24))).bind fun y241 => (if y238.length + y241.length < 8796093022208 then ((some (y238 ++ y241 : List (S24))).bind fun y244 => ((some (x6_2.drop (x11_3 : Int).toNat : List (S24))).bind fun y247 => (if y244.length + y247.length < 8796093022208 then (spec_meGaps.l0 k3 (y244 ++ y247) l0 (l0.length : Int) (wrap64 (x28_2 + 1)) a1_0 a1_1) else (none)))) else (none)))) else (none))) else (none)) else (none)) = some (r1, r2) := by first | (rw [hy231]; with_reducible exact H) | (have H2_ := (Option.bind_some _ _).symm.trans H; rw [hy231]; with_reducible exact H2_) | (have H2_ := (Option.bind_some _ _).symm.trans H; with_reducible exact H2_) | with_reducible exact H | (rw [hy231]; exact H) | exact H
           have Ny231 := Am hy231
           clear hy231
           by_cases c58 : 0 ≤ x11_3
           ·rw [if_pos c58] at H
            have c58b0 := eq_true c58
            have c58b1 : decide (0 ≤ x11_3) = true := decide_eq_true c58
            clear c58
            by_cases c59 : x11_3 ≤ (x6_2.length : Int)
            ·rw [if_pos c59] at H
             have c59b0 := eq_true c59
             have c59b1 : decide (x11_3 ≤ (x6_2.length : Int)) = true := decide_eq_true c59
             clear c59
             obtain ⟨y234, hy234⟩ : ∃ y_ : List (S24), y_ = (x6_2.take (x11_3 : Int).toNat) := ⟨_, rfl⟩
             replace H : (if y231.length + y234.length < 8796093022208 then ((some (y231 ++ y234 : List (S24))).bind fun y238 => ((some (([(⟨t202, t203⟩ : S24)] : List (S24)) : List (S24))).bind fun y241 => (if y238.length + y241.length < 8796093022208 then ((some (y238 ++ y241 : List (S24))).bind fun y244 => ((some (x6_2.drop (x11_3 : Int).toNat : List (S24))).bind fun y247 => (if y244.length + y247.length < 8796093022208 then (spec_meGaps.l0 k3 (y244 ++ y247) l0 (l0.length : Int) (wrap64 (x28_2 + 1)) a1_0 a1_1) else (none)))) else (none)))) else (none)) = some (r1, r2) := by first | (rw [hy234]; with_reducible exact H) | (have H2_ := (Option.bind_some _ _).symm.trans H; rw [hy234]; with_reducible exact H2_) | (have H2_ := (Option.bind_some _ _).symm.trans H; with_reducible exact H2_) | with_reducible exact H | (rw [hy234]; exact H) | exact H
             have Ny234 := Am hy234
             clear hy234
             by_cases c60 : y231.length + y234.length < 8796093022208
             ·rw [if_pos c60] at H
              have LMc60 := Am c60
              clear c60
              obtain ⟨y238, hy238⟩ : ∃ y_ : List (S24), y_ = (y231 ++ y234) := ⟨_, rfl⟩
              replace H : ((some (([(⟨t202, t203⟩ : S24)] : List (S24)) : List (S24))).bind fun y241 => (if y238.length + y241.length < 8796093022208 then ((some (y238 ++ y241 : List (S24))).bind fun y244 => ((some (x6_2.drop (x11_3 : Int).toNat : List (S24))).bind fun y247 => (if y244.length + y247.length < 8796093022208 then (spec_meGaps.l0 k3 (y244 ++ y247) l0 (l0.length : Int) (wrap64 (x28_2 + 1)) a1_0 a1_1) else (none)))) else (none))) = some (r1, r2) := by first | (rw [hy238]; with_reducible exact H) | (have H2_ := (Option.bind_some _ _).symm.trans H; rw [hy238]; with_reducible exact H2_) | (have H2_ := (Option.bind_some _ _).symm.trans H; with_reducible exact H2_) | with_reducible exact H | (rw [hy238]; exact H) | exact H
              have Ny238 := Am hy238
              clear hy238
              obtain ⟨y241, hy241⟩ : ∃ y_ : List (S24), y_ = (([(⟨t202, t203⟩ : S24)] : List (S24))) := ⟨_, rfl⟩
              replace H : (if y238.length + y241.length < 8796093022208 then ((some (y238 ++ y241 : List (S24))).bind fun y244 => ((some (x6_2.drop (x11_3 : Int).toNat : List (S24))).bind fun y247 => (if y244.length + y247.length < 8796093022208 then (spec_meGaps.l0 k3 (y244 ++ y247) l0 (l0.length : Int) (wrap64 (x28_2 + 1)) a1_0 a1_1) else (none)))) else (none)) = some (r1, r2) := by first | (rw [hy241]; with_reducible exact H) | (have H2_ := (Option.bind_some _ _).symm.trans H; rw [hy241]; with_reducible exact H2_) | (have H2_ := (Option.bind_some _ _).symm.trans H; with_reducible exact H2_) | with_reducible exact H | (rw [hy241]; exact H) | exact H
              have Ny241 := Am hy241
              clear hy241
              by_cases c61 : y238.length + y241.length < 8796093022208
              ·rw [if_pos c61] at H
               have LMc61 := Am c61
               clear c61
               obtain ⟨y244, hy244⟩ : ∃ y_ : List (S24), y_ = (y238 ++ y241) := ⟨_, rfl⟩
               replace H : ((some (x6_2.drop (x11_3 : Int).toNat : List (S24))).bind fun y247 => (if y244.length + y247.length < 8796093022208 then (spec_meGaps.l0 k3 (y244 ++ y247) l0 (l0.length : Int) (wrap64 (x28_2 + 1)) a1_0 a1_1) else (none))) = some (r1, r2) := by first | (rw [hy244]; with_reducible exact H) | (have H2_ := (Option.bind_some _ _).symm.trans H; rw [hy244]; with_reducible exact H2_) | (have H2_ := (Option.bind_some _ _).symm.trans H; with_reducible exact H2_) | with_reducible exact H | (rw [hy244]; exact H) | exact H
               have Ny244 := Am hy244
               clear hy244
               have c62b0 := eq_true (of_decide_eq_true (by first | (with_reducible assumption) | assumption) : 0 ≤ x11_3)
               have c63b0 := eq_true (of_decide_eq_true (by first | (with_reducible assumption) | assumption) : x11_3 ≤ (x6_2.length : Int))
               obtain ⟨y247, hy247⟩ : ∃ y_ : List (S24), y_ = (x6_2.drop (x11_3 : Int).toNat) := ⟨_, rfl⟩
               replace H : (if y244.length + y247.length < 8796093022208 then (spec_meGaps.l0 k3 (y244 ++ y247) l0 (l0.length : Int) (wrap64 (x28_2 + 1)) a1_0 a1_1) else (none)) = some (r1, r2) := by first | (rw [hy247]; with_reducible exact H) | (have H2_ := (Option.bind_some _ _).symm.trans H; rw [hy247]; with_reducible exact H2_) | (have H2_ := (Option.bind_some _ _).symm.trans H; with_reducible exact H2_) | with_reducible exact H | (rw [hy247]; exact H) | exact H
               have Ny247 := Am hy247
               clear hy247
               by_cases c64 : y244.length + y247.length < 8796093022208
               ·rw [if_pos c64] at H
                have LMc64 := Am c64
                clear c64
                obtain ⟨y251, hy251⟩ : ∃ y_ : List (S24), y_ = (y244 ++ y247) := ⟨_, rfl⟩
                replace H : (spec_meGaps.l0 k3 y251 l0 (l0.length : Int) (wrap64 (x28_2 + 1)) a1_0 a1_1) = some (r1, r2) := by first | (rw [hy251]; with_reducible exact H) | (have H2_ := (Option.bind_some _ _).symm.trans H; rw [hy251]; with_reducible exact H2_) | (have H2_ := (Option.bind_some _ _).symm.trans H; with_reducible exact H2_) | with_reducible exact H | (rw [hy251]; exact H) | exact H
                have Ny251 := Am hy251
                clear hy251
                focus
                 have H' := Am H
                 clear H
                 try go_wp2
                 have n0_ := Am (Kd.R_drew HO_6.out)
                 have n1_ := Am (kD BK196.out)
                 have n2_ := Am (kD BK200.out)
                 have n3_ := Am (kD BK205.out)
                 have n4_ := Am (bD HB.out)
                 clear HO_6 BK196 BK200 BK205 HB
                 have HO_6 := n0_; have BK196 := n1_; have BK200 := n2_; have BK205 := n3_; have HB := n4_
                 clear n0_ n1_ n2_ n3_ n4_
                 obtain ⟨Ao66, co66, eo66⟩ := Kd.R_slice HO_6.out
                 (first | subst eo66 | (injection eo66 with f1_ f2_ f3_; have f4_ := f1_.symm; have f5_ := f3_.symm; clear f1_ f2_ f3_; subst f4_; subst f5_))
                 refine start_ (n := 13) (S := fun w' => True) (ds := []) (pT 13 0) (by kernel_rfl) rfl rfl trivial (fun hHeld => ?_); refine with_tabW spec_meGaps.tab13 spec_meGaps.bits13 (fun HT_ HW_ => ?_)
                 generalize wr.drew = w65 at HO_6 BK196 BK200 BK205 HB hHeld ⊢
                 iterate 13
                  first
                  | refine pI (v := ?_) (a' := ?_) rfl (any_of HT_.out (by kernel_rfl)) (fun _ _ _ h => h) (Or.inl ⟨by rfl, ?_⟩) ?_ ?_
                    rotate_left
                    ·intro w'
                     go_simp
                     with_reducible rfl
                    rotate_left
                    ·show Act.put _ (some _) _ = _
                     simp only [Act.put, List.setIfInBounds_toArray, List.set_cons_zero, List.set_cons_succ, i64_w, i32_w]
                     rfl
                  | refine pI (v := undef) (a' := ?_) rfl (any_of HT_.out (by kernel_rfl)) (fun _ _ _ h => h) (Or.inr ⟨by rfl, rfl⟩) ?_ ?_
                    rotate_left
                    ·show Act.put _ (some _) _ = _
                     simp only [Act.put, List.setIfInBounds_toArray, List.set_cons_zero, List.set_cons_succ, i64_w, i32_w]
                     rfl
                 refine done_ (done_of HT_.out (by kernel_rfl)) ?_
                 try go_wp2
                 have n0_ := Am (Kd.R_drew HO_6.out)
                 have n1_ := Am (kD BK196.out)
                 have n2_ := Am (kD BK200.out)
                 have n3_ := Am (kD BK205.out)
                 have n4_ := Am (bD HB.out)
                 clear HO_6 BK196 BK200 BK205 HB
                 have HO_6 := n0_; have BK196 := n1_; have BK200 := n2_; have BK205 := n3_; have HB := n4_
                 clear n0_ n1_ n2_ n3_ n4_
                 have q68 : (x11_3 : Int) ≤ ((x6_2.length : Int) : Int) := of_decide_eq_true (by first | (with_reducible assumption) | assumption)
                 obtain ⟨i068, hi068, _, hsz68, _⟩ := info_parts info24
                 have hroom68 : x6_2.length ≤ co66 := (Kd.R_reads' HO_6.out).2.1
                 have hC68 : Kd.C k24 _ Ao66 x6_2.length x6_2 := (Kd.R_reads' HO_6.out).2.2
                 have hcut68 := cut_to (P := Try.prog) 27 24 .i64 Try.underlying27 hi068 Ao66 x6_2.length co66 x11_3 (of_decide_eq_true (by first | (with_reducible assumption) | assumption)) q68 hroom68
                 have hr68 := Kd.C_take (m := (x11_3 : Int).toNat) hC68 (by omega)
                 have hy68 : y234.length = (x11_3 : Int).toNat := (by rw [Ny234.out, List.length_take]; omega)
                 rw [← Ny234.out] at hr68
                 rw [← hy68] at hcut68
                 have HR237 := Am hr68
                 have HC237 := Am (show y234.length ≤ co66 from by omega)
                 clear hr68 hC68 hroom68 hi068 hsz68
                 have KY68 := Am hy68
                 clear hy68
                 have KL68 := Am (show (x11_3 : Int).toNat ≤ x6_2.length from by omega)
                 replace q68 := eq_true q68
                 refine start_ (n := 9) (S := fun w' => w'.cell? ⟨gb205, 0, none⟩ = some (.int .i64 t202) ∧ w'.cell? ⟨gb205, 1, none⟩ = some (.int .i64 t203)) (ds := []) (pT 9 0) (by kernel_rfl) rfl rfl ⟨c20 BK205.out, c21 BK205.out⟩ (fun hHeld => ?_); refine with_tabW spec_meGaps.tab15 spec_meGaps.bits15 (fun HT_ HW_ => ?_)
                 generalize w65.drew = w67 at HO_6 BK196 BK200 BK205 HB HR237 hHeld ⊢
                 refine pure_ (i := 1) (N := some 59) (v := ?_) (a' := ?_) #[false, true, false, false, false, false, false, false, false] rfl rfl (any_of HT_.out (by kernel_rfl)) (fun _ _ _ h => h) (Or.inl ⟨by rfl, ?_⟩) ?_ ?_
                 rotate_left
                 ·intro w'
                  go_simp
                  with_reducible rfl
                 rotate_left
                 ·simp only [Act.put, List.setIfInBounds_toArray, List.set_cons_zero, List.set_cons_succ, i64_w, i32_w]
                  rfl
                 refine pure_ (i := 2) (N := some 60) (v := ?_) (a' := ?_) #[false, true, true, false, false, false, false, false, false] rfl rfl (any_of HT_.out (by kernel_rfl)) (fun _ _ _ h => h) (Or.inl ⟨by rfl, ?_⟩) ?_ ?_
                 rotate_left
                 ·intro w'
                  go_simp
                  with_reducible rfl
                 rotate_left
                 ·simp only [Act.put, List.setIfInBounds_toArray, List.set_cons_zero, List.set_cons_succ, i64_w, i32_w]
                  rfl
                 refine pure_ (i := 3) (N := some 61) (v := ?_) (a' := ?_) #[false, true, true, true, false, false, false, false, false] rfl rfl (any_of HT_.out (by kernel_rfl)) (fun _ _ _ h => h) (Or.inl ⟨by rfl, ?_⟩) ?_ ?_
                 rotate_left
                 ·intro w'
                  go_simp
                  with_reducible rfl
                 rotate_left
                 ·simp only [Act.put, List.setIfInBounds_toArray, List.set_cons_zero, List.set_cons_succ, i64_w, i32_w]
                  rfl
                 refine take_ (i := 5) (N := some 63) (v := ?_) (a' := ?_) #[false, true, true, true, false, true, false, false, false] rfl rfl (take_ofW HT_.out HW_.out (by kernel_rfl)) (fun _ _ _ h => h) (Or.inl ⟨by rfl, ?_⟩) hHeld ?_ ?_
                 rotate_left
                 ·rintro w' ⟨s0, s1⟩
                  go_simp
                  with_reducible rfl
                 rotate_left
                 ·simp only [Act.put, List.setIfInBounds_toArray, List.set_cons_zero, List.set_cons_succ, i64_w, i32_w]
                  rfl
                 refine join_ (σ := Value × Value × Value) 2 (pT 9 7) (fun s_ => [(58, s_.1), (62, s_.2.1), (64, s_.2.2)]) (fun s_ w' => (w'.cell? ⟨gb205, 0, none⟩ = some (.int .i64 t202) ∧ w'.cell? ⟨gb205, 1, none⟩ = some (.int .i64 t203)) ∧ (Kd.R k24 24 w' w.heap.size (fun k_ => some k_ ≠ (s_.2.2 : Value).ownBlock ∧ some k_ ≠ (.slice Ao66 x6_2.length co66 : Value).ownBlock ∧ k_ ≠ gb196 ∧ k_ ≠ gb205) s_.2.1 y238) ∧ (Kd.R k24 24 w' w.heap.size (fun k_ => some k_ ≠ (s_.2.1 : Value).ownBlock ∧ some k_ ≠ (.slice Ao66 x6_2.length co66 : Value).ownBlock ∧ k_ ≠ gb196 ∧ k_ ≠ gb205) s_.2.2 y241) ∧ (Kd.R k24 24 w' w.heap.size (fun k_ => some k_ ≠ (s_.2.1 : Value).ownBlock ∧ some k_ ≠ (s_.2.2 : Value).ownBlock ∧ k_ ≠ gb196 ∧ k_ ≠ gb205) (.slice Ao66 x6_2.length co66) x6_2) ∧ (w'.heap[gb196]? = some (.cells #[.int .i64 a1_0, .int .i64 a1_1] 24 (0, 0))) ∧ (w'.heap[gb200]? = some (.cells #[.int .i64 ((rd_T26 l0 x28_2).f0.f0), .int .i64 ((rd_T26 l0 x28_2).f0.f1), .int .i64 ((rd_T26 l0 x28_2).f1)] 26 (0, 0))) ∧ (w'.heap[gb205]? = some (.cells #[.int .i64 t202, .int .i64 t203] 24 (0, 0))) ∧ (Below w.heap.size w w')) ?_ ?_
                 rotate_left
                 ·intro hCont
                  refine two_ (i := 0) (j := 6) (Ni := some 58) (Nj := some 64) #[true, true, true, true, false, true, false, false, false] #[false, true, true, true, false, true, true, false, false] rfl rfl rfl rfl (two_of HT_.out (by kernel_rfl)) (by decide) (by decide) (fun K hK => ?_) (fun K hK => ?_)
                  ·skip
                   refine Kd.R_lit_step k24 _ 24 ?hg (N := 58) ?hd (xs := ([] : List (S24))) (inner := []) (ok := fun _ => True) (okp := fun _ => True) ?hr ?hp (fun _ hk => hk) trivial (Below.refl _ _) (Nat.le_refl _) (by simp) ?_; (case hd => rfl); (case hg => rfl); (case hr => first | (go_simp; done) | (go_simp; rfl)); (case hp => exact (Reps.none _ _))
                   intro v232 w69 ho70 hb hg_ hnew_
                   clear hg_ hnew_
                   (first | rw [← Ny231.out] at ho70 | (simp only [Int.reduceToNat] at ho70; rw [← Ny231.out] at ho70))
                   have n0_ := Am (Kd.R_elder' (kW HO_6) (Kd.R_base ho70) hb)
                   have n1_ := Am (Kd.R_lower (Kd.R_newB (Kd.R_newB (Kd.R_new' ho70 (Kd.R_lt (kW HO_6))) (g := gb196) (o := .cells #[.int .i64 a1_0, .int .i64 a1_1] 24 (0, 0)) (kU BK196)) (g := gb205) (o := .cells #[.int .i64 t202, .int .i64 t203] 24 (0, 0)) (kU BK205)) (bZ (by repeat (first | (with_reducible first | exact HB.out | apply bA | apply bN | apply bD | refine bX ?_ (by assumption)) | exact HB.out))))
                   have hp0 := pA BK196 hb
                   have n5_ := Am (Kd.C_below (by repeat (first | (with_reducible exact HR237.out) | (with_reducible refine Kd.C_alloc ?_ _) | (with_reducible refine Kd.C_drewN ?_ _) | (with_reducible refine Kd.C_drew ?_) | exact HR237.out)) hb)
                   have hv := vK HB hb
                   have n6_ := Am (bT hv hb)
                   clear HO_6 HR237 HB
                   have HO_6 := n0_; have HO233 := n1_
                   replace BK196 := hp0 BK196; replace BK200 := hp0 BK200; replace BK205 := hp0 BK205
                   have HR237 := n5_; have HB := n6_
                   clear n0_ n1_ n5_ n6_ hp0 hv hb ho70
                   refine hK.out _ _ ⟨c20 BK205.out, c21 BK205.out⟩ (fun hHeld => ?_)
                   clear hK K
                   refine norm_ (a' := ?_) ?_ ?_
                   rotate_left
                   ·show Act.put _ (some 58) _ = _
                    simp only [Act.put, List.setIfInBounds_toArray, List.set_cons_zero, List.set_cons_succ, i64_w, i32_w]
                    rfl
                   refine two_ (i := 4) (j := 6) (Ni := some 62) (Nj := some 64) (pT 9 6) #[true, true, true, true, false, true, true, false, false] rfl rfl rfl rfl (two_of HT_.out (by kernel_rfl)) (by decide) (by decide) (fun K hK => ?_) (fun K hK => ?_)
                   ·skip
                    refine Kd.R_append_rows_step k24 (w0 := w) w.heap.size (by rfl) (.tmp 58) (.tmp 61) 27 24 (.agg #[(.int .i64 0), (.int .i64 0)]) 16 rfl Try.underlying27 info24 rfl (by decide) (by omega) v232 y231 y234 _ _ _ (fun k_ => some k_ ≠ (.slice Ao66 x6_2.length co66 : Value).ownBlock ∧ k_ ≠ gb196 ∧ k_ ≠ gb205) (fun _ => False) rfl rfl ?aO ?aR (fun _ _ h => h) (fun _ h => h.elim) ?aF ?aB ?aS ?aL ?_
                    (case aR => repeat (first | exact (by repeat (first | (with_reducible exact HR237.out) | (with_reducible refine Kd.C_alloc ?_ _) | (with_reducible refine Kd.C_drewN ?_ _) | (with_reducible refine Kd.C_drew ?_) | exact HR237.out)) | (with_reducible refine Kd.C_alloc ?_ _) | (with_reducible refine Kd.C_drewN ?_ _) | (with_reducible refine Kd.C_drew ?_)))
                    (case aB => exact (by repeat (first | (with_reducible first | exact HB.out | apply bA | apply bN | apply bD | refine bX ?_ (by assumption)) | exact HB.out)))
                    (case aF => exact (fun k_ hk => ⟨Kd.fresh' (Kd.R_lt (kW HO_6)) k_ hk, Kd.freshB (g := gb196) (o := .cells #[.int .i64 a1_0, .int .i64 a1_1] 24 (0, 0)) (kU BK196) k_ hk, Kd.freshB (g := gb205) (o := .cells #[.int .i64 t202, .int .i64 t203] 24 (0, 0)) (kU BK205) k_ hk⟩))
                    (case aO => exact (by (with_reducible repeat (first | apply Kd.R_alloc | apply Kd.R_drewN | apply Kd.R_drew)); exact Kd.R_mono HO233.out (fun _ hk => ⟨hk.1.1.2, ⟨hk.1.2, hk.2⟩⟩)))
                    (case aS => exact (bZ (by repeat (first | (with_reducible first | exact HB.out | apply bA | apply bN | apply bD | refine bX ?_ (by assumption)) | exact HB.out))))
                    (case aL => have := LMc60.out; omega)
                    intro v239 w71 ho hb hg hat
                    rw [← Ny238.out] at ho
                    have n0_ := Am (Kd.R_after (ok := (fun k_ => k_ ≠ gb196 ∧ k_ ≠ gb205)) (kW HO_6) hg hat)
                    have n1_ := Am (blk_grown (g := gb196) (o := .cells #[.int .i64 a1_0, .int .i64 a1_1] 24 (0, 0)) (kU BK196) hg (Kd.R_away HO233.out (fun _ hk => hk.1.2)))
                    have n2_ := Am (blk_grown (g := gb200) (o := .cells #[.int .i64 ((rd_T26 l0 x28_2).f0.f0), .int .i64 ((rd_T26 l0 x28_2).f0.f1), .int .i64 ((rd_T26 l0 x28_2).f1)] 26 (0, 0)) (kU BK200) hg (Kd.R_ne HO233.out BK200.out (by decide)))
                    have n3_ := Am (blk_grown (g := gb205) (o := .cells #[.int .i64 t202, .int .i64 t203] 24 (0, 0)) (kU BK205) hg (Kd.R_away HO233.out (fun _ hk => hk.2)))
                    have n4_ := Am (hb)
                    have n5_ := Am ((show Kd.C k24 w71 Ao66 y234.length y234 from by rw [Ny234.out]; exact Kd.C_take (m := (x11_3 : Int).toNat) ((Kd.R_reads' (Kd.R_after (ok := (fun k_ => k_ ≠ gb196 ∧ k_ ≠ gb205)) (kW HO_6) hg hat)).2.2) KL68.out))
                    have n6_ := Am (ho)
                    clear HO_6 BK196 BK200 BK205 HB HR237 HO233
                    have HO_6 := n0_; have BK196 := n1_; have BK200 := n2_; have BK205 := n3_; have HB := n4_; have HR237 := n5_; have HO240 := n6_
                    clear n0_ n1_ n2_ n3_ n4_ n5_ n6_ ho hb hg hat
                    refine hK.out _ _ ⟨c20 BK205.out, c21 BK205.out⟩ (fun hHeld => ?_)
                    clear hK K
                    refine norm_ (a' := ?_) ?_ ?_
                    rotate_left
                    ·show Act.put _ (some 62) _ = _
                     simp only [Act.put, List.setIfInBounds_toArray, List.set_cons_zero, List.set_cons_succ, i64_w, i32_w]
                     rfl
                    refine one_ (i := 6) (N := some 64) (pT 9 7) rfl rfl (one_of HT_.out (by kernel_rfl)) (by decide) (fun K hK => ?_)
                    refine Kd.R_lit_step k24 _ 24 ?hg (N := 64) ?hd (xs := ([(⟨t202, t203⟩ : S24)] : List (S24))) (inner := [.int .i64 t202, .int .i64 t203]) (ok := fun _ => True) (okp := fun _ => True) ?hr ?hp (fun _ hk => hk) trivial (Below.refl _ _) (Nat.le_refl _) (by simp) ?_; (case hd => rfl); (case hg => rfl); (case hr => first | (go_simp; done) | (go_simp; rfl)); (case hp => exact (Reps.c2 (show Kd.M k24 _ _ _ (⟨t202, t203⟩ : S24) [.int .i64 t202, .int .i64 t203] from (k24_mkM _ _ _ (⟨t202, t203⟩ : S24) )) (Reps.none _ _)))
                    intro v242 w72 ho73 hb hg_ hnew_
                    clear hg_ hnew_
                    (first | rw [← Ny241.out] at ho73 | (simp only [Int.reduceToNat] at ho73; rw [← Ny241.out] at ho73))
                    have n0_ := Am (Kd.R_elder' (kW HO_6) (Kd.R_base ho73) hb)
                    have n1_ := Am (Kd.R_elder' (kW HO240) (Kd.R_base ho73) hb)
                    have n2_ := Am (Kd.R_lower (Kd.R_newB (Kd.R_newB (Kd.R_new' (Kd.R_new' ho73 (Kd.R_lt (kW HO_6))) (Kd.R_lt (kW HO240))) (g := gb196) (o := .cells #[.int .i64 a1_0, .int .i64 a1_1] 24 (0, 0)) (kU BK196)) (g := gb205) (o := .cells #[.int .i64 t202, .int .i64 t203] 24 (0, 0)) (kU BK205)) (bZ (by repeat (first | (with_reducible first | exact HB.out | apply bA | apply bN | apply bD | refine bX ?_ (by assumption)) | exact HB.out))))
                    have hp0 := pA BK196 hb
                    have n6_ := Am (Kd.C_below (by repeat (first | (with_reducible exact HR237.out) | (with_reducible refine Kd.C_alloc ?_ _) | (with_reducible refine Kd.C_drewN ?_ _) | (with_reducible refine Kd.C_drew ?_) | exact HR237.out)) hb)
                    have hv := vK HB hb
                    have n7_ := Am (bT hv hb)
                    clear HO_6 HO240 HR237 HB
                    have HO_6 := n0_; have HO240 := n1_; have HO243 := n2_
                    replace BK196 := hp0 BK196; replace BK200 := hp0 BK200; replace BK205 := hp0 BK205
                    have HR237 := n6_; have HB := n7_
                    clear n0_ n1_ n2_ n6_ n7_ hp0 hv hb ho73
                    refine hK.out _ _ ⟨c20 BK205.out, c21 BK205.out⟩ (fun hHeld => ?_)
                    clear hK K
                    refine norm_ (a' := ?_) ?_ ?_
                    rotate_left
                    ·show Act.put _ (some 64) _ = _
                     simp only [Act.put, List.setIfInBounds_toArray, List.set_cons_zero, List.set_cons_succ, i64_w, i32_w]
                     rfl
                    exact norm_ (by simp only [putAll, Act.put, List.setIfInBounds_toArray, List.set_cons_zero, List.set_cons_succ]) (hCont (v232, v239, v242) _ ⟨hHeld, (by (with_reducible repeat (first | apply Kd.R_alloc | apply Kd.R_drewN | apply Kd.R_drew)); exact Kd.R_mono HO240.out (fun _ hk => ⟨hk.2, ⟨hk.1.1, ⟨hk.1.2.1, hk.1.2.2⟩⟩⟩)), (by (with_reducible repeat (first | apply Kd.R_alloc | apply Kd.R_drewN | apply Kd.R_drew)); exact Kd.R_mono HO243.out (fun _ hk => ⟨hk.1.1.2, ⟨hk.1.1.1.2, ⟨hk.1.2, hk.2⟩⟩⟩)), (by (with_reducible repeat (first | apply Kd.R_alloc | apply Kd.R_drewN | apply Kd.R_drew)); exact Kd.R_mono HO_6.out (fun _ hk => ⟨hk.1.2, ⟨hk.2, ⟨hk.1.1.1, hk.1.1.2⟩⟩⟩)), (kU BK196), (kU BK200), (kU BK205), (by repeat (first | (with_reducible first | exact HB.out | apply bA | apply bN | apply bD | refine bX ?_ (by assumption)) | exact HB.out))⟩)
                   skip
                   refine Kd.R_lit_step k24 _ 24 ?hg (N := 64) ?hd (xs := ([(⟨t202, t203⟩ : S24)] : List (S24))) (inner := [.int .i64 t202, .int .i64 t203]) (ok := fun _ => True) (okp := fun _ => True) ?hr ?hp (fun _ hk => hk) trivial (Below.refl _ _) (Nat.le_refl _) (by simp) ?_; (case hd => rfl); (case hg => rfl); (case hr => first | (go_simp; done) | (go_simp; rfl)); (case hp => exact (Reps.c2 (show Kd.M k24 _ _ _ (⟨t202, t203⟩ : S24) [.int .i64 t202, .int .i64 t203] from (k24_mkM _ _ _ (⟨t202, t203⟩ : S24) )) (Reps.none _ _)))
                   intro v242 w71 ho72 hb hg_ hnew_
                   clear hg_ hnew_
                   (first | rw [← Ny241.out] at ho72 | (simp only [Int.reduceToNat] at ho72; rw [← Ny241.out] at ho72))
                   have n0_ := Am (Kd.R_elder' (kW HO_6) (Kd.R_base ho72) hb)
                   have n1_ := Am (Kd.R_elder' (kW HO233) (Kd.R_base ho72) hb)
                   have n2_ := Am (Kd.R_lower (Kd.R_newB (Kd.R_newB (Kd.R_new' (Kd.R_new' ho72 (Kd.R_lt (kW HO_6))) (Kd.R_lt (kW HO233))) (g := gb196) (o := .cells #[.int .i64 a1_0, .int .i64 a1_1] 24 (0, 0)) (kU BK196)) (g := gb205) (o := .cells #[.int .i64 t202, .int .i64 t203] 24 (0, 0)) (kU BK205)) (bZ (by repeat (first | (with_reducible first | exact HB.out | apply bA | apply bN | apply bD | refine bX ?_ (by assumption)) | exact HB.out))))
                   have hp0 := pA BK196 hb
                   have n6_ := Am (Kd.C_below (by repeat (first | (with_reducible exact HR237.out) | (with_reducible refine Kd.C_alloc ?_ _) | (with_reducible refine Kd.C_drewN ?_ _) | (with_reducible refine Kd.C_drew ?_) | exact HR237.out)) hb)
                   have hv := vK HB hb
                   have n7_ := Am (bT hv hb)
                   clear HO_6 HO233 HR237 HB
                   have HO_6 := n0_; have HO233 := n1_; have HO243 := n2_
                   replace BK196 := hp0 BK196; replace BK200 := hp0 BK200; replace BK205 := hp0 BK205
                   have HR237 := n6_; have HB := n7_
                   clear n0_ n1_ n2_ n6_ n7_ hp0 hv hb ho72
                   refine hK.out _ _ ⟨c20 BK205.out, c21 BK205.out⟩ (fun hHeld => ?_)
                   clear hK K
                   refine norm_ (a' := ?_) ?_ ?_
                   rotate_left
                   ·show Act.put _ (some 64) _ = _
                    simp only [Act.put, List.setIfInBounds_toArray, List.set_cons_zero, List.set_cons_succ, i64_w, i32_w]
                    rfl
                   refine one_ (i := 4) (N := some 62) (pT 9 7) rfl rfl (one_of HT_.out (by kernel_rfl)) (by decide) (fun K hK => ?_)
                   refine Kd.R_append_rows_step k24 (w0 := w) w.heap.size (by rfl) (.tmp 58) (.tmp 61) 27 24 (.agg #[(.int .i64 0), (.int .i64 0)]) 16 rfl Try.underlying27 info24 rfl (by decide) (by omega) v232 y231 y234 _ _ _ (fun k_ => some k_ ≠ (.slice Ao66 x6_2.length co66 : Value).ownBlock ∧ some k_ ≠ (v242 : Value).ownBlock ∧ k_ ≠ gb196 ∧ k_ ≠ gb205) (fun _ => False) rfl rfl ?aO ?aR (fun _ _ h => h) (fun _ h => h.elim) ?aF ?aB ?aS ?aL ?_
                   (case aR => repeat (first | exact (by repeat (first | (with_reducible exact HR237.out) | (with_reducible refine Kd.C_alloc ?_ _) | (with_reducible refine Kd.C_drewN ?_ _) | (with_reducible refine Kd.C_drew ?_) | exact HR237.out)) | (with_reducible refine Kd.C_alloc ?_ _) | (with_reducible refine Kd.C_drewN ?_ _) | (with_reducible refine Kd.C_drew ?_)))
                   (case aB => exact (by repeat (first | (with_reducible first | exact HB.out | apply bA | apply bN | apply bD | refine bX ?_ (by assumption)) | exact HB.out)))
                   (case aF => exact (fun k_ hk => ⟨Kd.fresh' (Kd.R_lt (kW HO_6)) k_ hk, Kd.fresh' (Kd.R_lt (kW HO243)) k_ hk, Kd.freshB (g := gb196) (o := .cells #[.int .i64 a1_0, .int .i64 a1_1] 24 (0, 0)) (kU BK196) k_ hk, Kd.freshB (g := gb205) (o := .cells #[.int .i64 t202, .int .i64 t203] 24 (0, 0)) (kU BK205) k_ hk⟩))
                   (case aO => exact (by (with_reducible repeat (first | apply Kd.R_alloc | apply Kd.R_drewN | apply Kd.R_drew)); exact Kd.R_mono HO233.out (fun _ hk => ⟨hk.1.1.1.2, ⟨hk.2, ⟨hk.1.1.2, hk.1.2⟩⟩⟩)))
                   (case aS => exact (bZ (by repeat (first | (with_reducible first | exact HB.out | apply bA | apply bN | apply bD | refine bX ?_ (by assumption)) | exact HB.out))))
                   (case aL => have := LMc60.out; omega)
                   intro v239 w73 ho hb hg hat
                   rw [← Ny238.out] at ho
                   have n0_ := Am (Kd.R_after (ok := (fun k_ => some k_ ≠ (v242 : Value).ownBlock ∧ k_ ≠ gb196 ∧ k_ ≠ gb205)) (by (with_reducible repeat (first | apply Kd.R_alloc | apply Kd.R_drewN | apply Kd.R_drew)); exact Kd.R_mono HO_6.out (fun _ hk => ⟨⟨hk.2, ⟨hk.1.1.1, hk.1.1.2⟩⟩, hk.1.2⟩)) hg hat)
                   have n1_ := Am (blk_grown (g := gb196) (o := .cells #[.int .i64 a1_0, .int .i64 a1_1] 24 (0, 0)) (kU BK196) hg (Kd.R_away HO233.out (fun _ hk => hk.1.1.2)))
                   have n2_ := Am (blk_grown (g := gb200) (o := .cells #[.int .i64 ((rd_T26 l0 x28_2).f0.f0), .int .i64 ((rd_T26 l0 x28_2).f0.f1), .int .i64 ((rd_T26 l0 x28_2).f1)] 26 (0, 0)) (kU BK200) hg (Kd.R_ne HO233.out BK200.out (by decide)))
                   have n3_ := Am (blk_grown (g := gb205) (o := .cells #[.int .i64 t202, .int .i64 t203] 24 (0, 0)) (kU BK205) hg (Kd.R_away HO233.out (fun _ hk => hk.1.2)))
                   have n4_ := Am (Kd.R_after (ok := (fun k_ => some k_ ≠ (.slice Ao66 x6_2.length co66 : Value).ownBlock ∧ k_ ≠ gb196 ∧ k_ ≠ gb205)) (by (with_reducible repeat (first | apply Kd.R_alloc | apply Kd.R_drewN | apply Kd.R_drew)); exact Kd.R_mono HO243.out (fun _ hk => ⟨⟨hk.1.1.1.2, ⟨hk.1.2, hk.2⟩⟩, hk.1.1.2⟩)) hg hat)
                   have n5_ := Am (hb)
                   have n6_ := Am ((show Kd.C k24 w73 Ao66 y234.length y234 from by rw [Ny234.out]; exact Kd.C_take (m := (x11_3 : Int).toNat) ((Kd.R_reads' (Kd.R_after (ok := (fun k_ => some k_ ≠ (v242 : Value).ownBlock ∧ k_ ≠ gb196 ∧ k_ ≠ gb205)) (by (with_reducible repeat (first | apply Kd.R_alloc | apply Kd.R_drewN | apply Kd.R_drew)); exact Kd.R_mono HO_6.out (fun _ hk => ⟨⟨hk.2, ⟨hk.1.1.1, hk.1.1.2⟩⟩, hk.1.2⟩)) hg hat)).2.2) KL68.out))
                   have n7_ := Am (ho)
                   clear HO_6 BK196 BK200 BK205 HO243 HB HR237 HO233
                   have HO_6 := n0_; have BK196 := n1_; have BK200 := n2_; have BK205 := n3_; have HO243 := n4_; have HB := n5_; have HR237 := n6_; have HO240 := n7_
                   clear n0_ n1_ n2_ n3_ n4_ n5_ n6_ n7_ ho hb hg hat
                   refine hK.out _ _ ⟨c20 BK205.out, c21 BK205.out⟩ (fun hHeld => ?_)
                   clear hK K
                   refine norm_ (a' := ?_) ?_ ?_
                   rotate_left
                   ·show Act.put _ (some 62) _ = _
                    simp only [Act.put, List.setIfInBounds_toArray, List.set_cons_zero, List.set_cons_succ, i64_w, i32_w]
                    rfl
                   exact norm_ (by simp only [putAll, Act.put, List.setIfInBounds_toArray, List.set_cons_zero, List.set_cons_succ]) (hCont (v232, v239, v242) _ ⟨hHeld, (by (with_reducible repeat (first | apply Kd.R_alloc | apply Kd.R_drewN | apply Kd.R_drew)); exact Kd.R_mono HO240.out (fun _ hk => ⟨hk.2.1, ⟨hk.1, ⟨hk.2.2.1, hk.2.2.2⟩⟩⟩)), (by (with_reducible repeat (first | apply Kd.R_alloc | apply Kd.R_drewN | apply Kd.R_drew)); exact Kd.R_mono HO243.out (fun _ hk => ⟨hk.2, ⟨hk.1.1, ⟨hk.1.2.1, hk.1.2.2⟩⟩⟩)), (by (with_reducible repeat (first | apply Kd.R_alloc | apply Kd.R_drewN | apply Kd.R_drew)); exact Kd.R_mono HO_6.out (fun _ hk => ⟨hk.2, ⟨hk.1.1, ⟨hk.1.2.1, hk.1.2.2⟩⟩⟩)), (kU BK196), (kU BK200), (kU BK205), (by repeat (first | (with_reducible first | exact HB.out | apply bA | apply bN | apply bD | refine bX ?_ (by assumption)) | exact HB.out))⟩)
                  skip
                  refine Kd.R_lit_step k24 _ 24 ?hg (N := 64) ?hd (xs := ([(⟨t202, t203⟩ : S24)] : List (S24))) (inner := [.int .i64 t202, .int .i64 t203]) (ok := fun _ => True) (okp := fun _ => True) ?hr ?hp (fun _ hk => hk) trivial (Below.refl _ _) (Nat.le_refl _) (by simp) ?_; (case hd => rfl); (case hg => rfl); (case hr => first | (go_simp; done) | (go_simp; rfl)); (case hp => exact (Reps.c2 (show Kd.M k24 _ _ _ (⟨t202, t203⟩ : S24) [.int .i64 t202, .int .i64 t203] from (k24_mkM _ _ _ (⟨t202, t203⟩ : S24) )) (Reps.none _ _)))
                  intro v242 w69 ho70 hb hg_ hnew_
                  clear hg_ hnew_
                  (first | rw [← Ny241.out] at ho70 | (simp only [Int.reduceToNat] at ho70; rw [← Ny241.out] at ho70))
                  have n0_ := Am (Kd.R_elder' (kW HO_6) (Kd.R_base ho70) hb)
                  have n1_ := Am (Kd.R_lower (Kd.R_newB (Kd.R_newB (Kd.R_new' ho70 (Kd.R_lt (kW HO_6))) (g := gb196) (o := .cells #[.int .i64 a1_0, .int .i64 a1_1] 24 (0, 0)) (kU BK196)) (g := gb205) (o := .cells #[.int .i64 t202, .int .i64 t203] 24 (0, 0)) (kU BK205)) (bZ (by repeat (first | (with_reducible first | exact HB.out | apply bA | apply bN | apply bD | refine bX ?_ (by assumption)) | exact HB.out))))
                  have hp0 := pA BK196 hb
                  have n5_ := Am (Kd.C_below (by repeat (first | (with_reducible exact HR237.out) | (with_reducible refine Kd.C_alloc ?_ _) | (with_reducible refine Kd.C_drewN ?_ _) | (with_reducible refine Kd.C_drew ?_) | exact HR237.out)) hb)
                  have hv := vK HB hb
                  have n6_ := Am (bT hv hb)
                  clear HO_6 HR237 HB
                  have HO_6 := n0_; have HO243 := n1_
                  replace BK196 := hp0 BK196; replace BK200 := hp0 BK200; replace BK205 := hp0 BK205
                  have HR237 := n5_; have HB := n6_
                  clear n0_ n1_ n5_ n6_ hp0 hv hb ho70
                  refine hK.out _ _ ⟨c20 BK205.out, c21 BK205.out⟩ (fun hHeld => ?_)
                  clear hK K
                  refine norm_ (a' := ?_) ?_ ?_
                  rotate_left
                  ·show Act.put _ (some 64) _ = _
                   simp only [Act.put, List.setIfInBounds_toArray, List.set_cons_zero, List.set_cons_succ, i64_w, i32_w]
                   rfl
                  refine one_ (i := 0) (N := some 58) #[true, true, true, true, false, true, true, false, false] rfl rfl (one_of HT_.out (by kernel_rfl)) (by decide) (fun K hK => ?_)
                  refine Kd.R_lit_step k24 _ 24 ?hg (N := 58) ?hd (xs := ([] : List (S24))) (inner := []) (ok := fun _ => True) (okp := fun _ => True) ?hr ?hp (fun _ hk => hk) trivial (Below.refl _ _) (Nat.le_refl _) (by simp) ?_; (case hd => rfl); (case hg => rfl); (case hr => first | (go_simp; done) | (go_simp; rfl)); (case hp => exact (Reps.none _ _))
                  intro v232 w71 ho72 hb hg_ hnew_
                  clear hg_ hnew_
                  (first | rw [← Ny231.out] at ho72 | (simp only [Int.reduceToNat] at ho72; rw [← Ny231.out] at ho72))
                  have n0_ := Am (Kd.R_elder' (kW HO_6) (Kd.R_base ho72) hb)
                  have n1_ := Am (Kd.R_elder' (kW HO243) (Kd.R_base ho72) hb)
                  have n2_ := Am (Kd.R_lower (Kd.R_newB (Kd.R_newB (Kd.R_new' (Kd.R_new' ho72 (Kd.R_lt (kW HO_6))) (Kd.R_lt (kW HO243))) (g := gb196) (o := .cells #[.int .i64 a1_0, .int .i64 a1_1] 24 (0, 0)) (kU BK196)) (g := gb205) (o := .cells #[.int .i64 t202, .int .i64 t203] 24 (0, 0)) (kU BK205)) (bZ (by repeat (first | (with_reducible first | exact HB.out | apply bA | apply bN | apply bD | refine bX ?_ (by assumption)) | exact HB.out))))
                  have hp0 := pA BK196 hb
                  have n6_ := Am (Kd.C_below (by repeat (first | (with_reducible exact HR237.out) | (with_reducible refine Kd.C_alloc ?_ _) | (with_reducible refine Kd.C_drewN ?_ _) | (with_reducible refine Kd.C_drew ?_) | exact HR237.out)) hb)
                  have hv := vK HB hb
                  have n7_ := Am (bT hv hb)
                  clear HO_6 HO243 HR237 HB
                  have HO_6 := n0_; have HO243 := n1_; have HO233 := n2_
                  replace BK196 := hp0 BK196; replace BK200 := hp0 BK200; replace BK205 := hp0 BK205
                  have HR237 := n6_; have HB := n7_
                  clear n0_ n1_ n2_ n6_ n7_ hp0 hv hb ho72
                  refine hK.out _ _ ⟨c20 BK205.out, c21 BK205.out⟩ (fun hHeld => ?_)
                  clear hK K
                  refine norm_ (a' := ?_) ?_ ?_
                  rotate_left
                  ·show Act.put _ (some 58) _ = _
                   simp only [Act.put, List.setIfInBounds_toArray, List.set_cons_zero, List.set_cons_succ, i64_w, i32_w]
                   rfl
                  refine one_ (i := 4) (N := some 62) (pT 9 7) rfl rfl (one_of HT_.out (by kernel_rfl)) (by decide) (fun K hK => ?_)
                  refine Kd.R_append_rows_step k24 (w0 := w) w.heap.size (by rfl) (.tmp 58) (.tmp 61) 27 24 (.agg #[(.int .i64 0), (.int .i64 0)]) 16 rfl Try.underlying27 info24 rfl (by decide) (by omega) v232 y231 y234 _ _ _ (fun k_ => some k_ ≠ (.slice Ao66 x6_2.length co66 : Value).ownBlock ∧ some k_ ≠ (v242 : Value).ownBlock ∧ k_ ≠ gb196 ∧ k_ ≠ gb205) (fun _ => False) rfl rfl ?aO ?aR (fun _ _ h => h) (fun _ h => h.elim) ?aF ?aB ?aS ?aL ?_
                  (case aR => repeat (first | exact (by repeat (first | (with_reducible exact HR237.out) | (with_reducible refine Kd.C_alloc ?_ _) | (with_reducible refine Kd.C_drewN ?_ _) | (with_reducible refine Kd.C_drew ?_) | exact HR237.out)) | (with_reducible refine Kd.C_alloc ?_ _) | (with_reducible refine Kd.C_drewN ?_ _) | (with_reducible refine Kd.C_drew ?_)))
                  (case aB => exact (by repeat (first | (with_reducible first | exact HB.out | apply bA | apply bN | apply bD | refine bX ?_ (by assumption)) | exact HB.out)))
                  (case aF => exact (fun k_ hk => ⟨Kd.fresh' (Kd.R_lt (kW HO_6)) k_ hk, Kd.fresh' (Kd.R_lt (kW HO243)) k_ hk, Kd.freshB (g := gb196) (o := .cells #[.int .i64 a1_0, .int .i64 a1_1] 24 (0, 0)) (kU BK196) k_ hk, Kd.freshB (g := gb205) (o := .cells #[.int .i64 t202, .int .i64 t203] 24 (0, 0)) (kU BK205) k_ hk⟩))
                  (case aO => exact (by (with_reducible repeat (first | apply Kd.R_alloc | apply Kd.R_drewN | apply Kd.R_drew)); exact Kd.R_mono HO233.out (fun _ hk => ⟨hk.1.1.1.2, ⟨hk.1.1.2, ⟨hk.1.2, hk.2⟩⟩⟩)))
                  (case aS => exact (bZ (by repeat (first | (with_reducible first | exact HB.out | apply bA | apply bN | apply bD | refine bX ?_ (by assumption)) | exact HB.out))))
                  (case aL => have := LMc60.out; omega)
                  intro v239 w73 ho hb hg hat
                  rw [← Ny238.out] at ho
                  have n0_ := Am (Kd.R_after (ok := (fun k_ => some k_ ≠ (v242 : Value).ownBlock ∧ k_ ≠ gb196 ∧ k_ ≠ gb205)) (by (with_reducible repeat (first | apply Kd.R_alloc | apply Kd.R_drewN | apply Kd.R_drew)); exact Kd.R_mono HO_6.out (fun _ hk => ⟨⟨hk.1.2, ⟨hk.1.1.1, hk.1.1.2⟩⟩, hk.2⟩)) hg hat)
                  have n1_ := Am (blk_grown (g := gb196) (o := .cells #[.int .i64 a1_0, .int .i64 a1_1] 24 (0, 0)) (kU BK196) hg (Kd.R_away HO233.out (fun _ hk => hk.1.2)))
                  have n2_ := Am (blk_grown (g := gb200) (o := .cells #[.int .i64 ((rd_T26 l0 x28_2).f0.f0), .int .i64 ((rd_T26 l0 x28_2).f0.f1), .int .i64 ((rd_T26 l0 x28_2).f1)] 26 (0, 0)) (kU BK200) hg (Kd.R_ne HO233.out BK200.out (by decide)))
                  have n3_ := Am (blk_grown (g := gb205) (o := .cells #[.int .i64 t202, .int .i64 t203] 24 (0, 0)) (kU BK205) hg (Kd.R_away HO233.out (fun _ hk => hk.2)))
                  have n4_ := Am (Kd.R_after (ok := (fun k_ => some k_ ≠ (.slice Ao66 x6_2.length co66 : Value).ownBlock ∧ k_ ≠ gb196 ∧ k_ ≠ gb205)) (by (with_reducible repeat (first | apply Kd.R_alloc | apply Kd.R_drewN | apply Kd.R_drew)); exact Kd.R_mono HO243.out (fun _ hk => ⟨⟨hk.1.1.1.2, ⟨hk.1.1.2, hk.1.2⟩⟩, hk.2⟩)) hg hat)
                  have n5_ := Am (hb)
                  have n6_ := Am ((show Kd.C k24 w73 Ao66 y234.length y234 from by rw [Ny234.out]; exact Kd.C_take (m := (x11_3 : Int).toNat) ((Kd.R_reads' (Kd.R_after (ok := (fun k_ => some k_ ≠ (v242 : Value).ownBlock ∧ k_ ≠ gb196 ∧ k_ ≠ gb205)) (by (with_reducible repeat (first | apply Kd.R_alloc | apply Kd.R_drewN | apply Kd.R_drew)); exact Kd.R_mono HO_6.out (fun _ hk => ⟨⟨hk.1.2, ⟨hk.1.1.1, hk.1.1.2⟩⟩, hk.2⟩)) hg hat)).2.2) KL68.out))
                  have n7_ := Am (ho)
                  clear HO_6 BK196 BK200 BK205 HO243 HB HR237 HO233
                  have HO_6 := n0_; have BK196 := n1_; have BK200 := n2_; have BK205 := n3_; have HO243 := n4_; have HB := n5_; have HR237 := n6_; have HO240 := n7_
                  clear n0_ n1_ n2_ n3_ n4_ n5_ n6_ n7_ ho hb hg hat
                  refine hK.out _ _ ⟨c20 BK205.out, c21 BK205.out⟩ (fun hHeld => ?_)
                  clear hK K
                  refine norm_ (a' := ?_) ?_ ?_
                  rotate_left
                  ·show Act.put _ (some 62) _ = _
                   simp only [Act.put, List.setIfInBounds_toArray, List.set_cons_zero, List.set_cons_succ, i64_w, i32_w]
                   rfl
                  exact norm_ (by simp only [putAll, Act.put, List.setIfInBounds_toArray, List.set_cons_zero, List.set_cons_succ]) (hCont (v232, v239, v242) _ ⟨hHeld, (by (with_reducible repeat (first | apply Kd.R_alloc | apply Kd.R_drewN | apply Kd.R_drew)); exact Kd.R_mono HO240.out (fun _ hk => ⟨hk.2.1, ⟨hk.1, ⟨hk.2.2.1, hk.2.2.2⟩⟩⟩)), (by (with_reducible repeat (first | apply Kd.R_alloc | apply Kd.R_drewN | apply Kd.R_drew)); exact Kd.R_mono HO243.out (fun _ hk => ⟨hk.2, ⟨hk.1.1, ⟨hk.1.2.1, hk.1.2.2⟩⟩⟩)), (by (with_reducible repeat (first | apply Kd.R_alloc | apply Kd.R_drewN | apply Kd.R_drew)); exact Kd.R_mono HO_6.out (fun _ hk => ⟨hk.2, ⟨hk.1.1, ⟨hk.1.2.1, hk.1.2.2⟩⟩⟩)), (kU BK196), (kU BK200), (kU BK205), (by repeat (first | (with_reducible first | exact HB.out | apply bA | apply bN | apply bD | refine bX ?_ (by assumption)) | exact HB.out))⟩)
                 rintro ⟨v232, v239, v242⟩ w74 ⟨hS_, h0_, h1_, h2_, h3_, h4_, h5_, h6_⟩
                 have n0_ : Aside0 (Kd.R k24 24 w74 w.heap.size (fun k_ => some k_ ≠ (v242 : Value).ownBlock ∧ some k_ ≠ (.slice Ao66 x6_2.length co66 : Value).ownBlock ∧ k_ ≠ gb196 ∧ k_ ≠ gb205) v239 y238) := ⟨h0_⟩
                 have n1_ : Aside0 (Kd.R k24 24 w74 w.heap.size (fun k_ => some k_ ≠ (v239 : Value).ownBlock ∧ some k_ ≠ (.slice Ao66 x6_2.length co66 : Value).ownBlock ∧ k_ ≠ gb196 ∧ k_ ≠ gb205) v242 y241) := ⟨h1_⟩
                 have n2_ : Aside0 (Kd.R k24 24 w74 w.heap.size (fun k_ => some k_ ≠ (v239 : Value).ownBlock ∧ some k_ ≠ (v242 : Value).ownBlock ∧ k_ ≠ gb196 ∧ k_ ≠ gb205) (.slice Ao66 x6_2.length co66) x6_2) := ⟨h2_⟩
                 have n3_ : Aside0 (w74.heap[gb196]? = some (.cells #[.int .i64 a1_0, .int .i64 a1_1] 24 (0, 0))) := ⟨h3_⟩
                 have n4_ : Aside0 (w74.heap[gb200]? = some (.cells #[.int .i64 ((rd_T26 l0 x28_2).f0.f0), .int .i64 ((rd_T26 l0 x28_2).f0.f1), .int .i64 ((rd_T26 l0 x28_2).f1)] 26 (0, 0))) := ⟨h4_⟩
                 have n5_ : Aside0 (w74.heap[gb205]? = some (.cells #[.int .i64 t202, .int .i64 t203] 24 (0, 0))) := ⟨h5_⟩
                 have n6_ : Aside0 (Below w.heap.size w w74) := ⟨h6_⟩
                 clear HO_6 BK196 BK200 BK205 HB h0_ h1_ h2_ h3_ h4_ h5_ h6_
                 have HO240 := n0_; have HO243 := n1_; have HO_6 := n2_; have BK196 := n3_; have BK200 := n4_; have BK205 := n5_; have HB := n6_
                 clear n0_ n1_ n2_ n3_ n4_ n5_ n6_
                 have hHeld : w74.cell? ⟨gb205, 0, none⟩ = some (.int .i64 t202) ∧ w74.cell? ⟨gb205, 1, none⟩ = some (.int .i64 t203) := hS_
                 obtain ⟨Ao76, co76, eo76⟩ := Kd.R_slice HO243.out
                 (first | subst eo76 | (injection eo76 with f1_ f2_ f3_; have f4_ := f1_.symm; have f5_ := f3_.symm; clear f1_ f2_ f3_; subst f4_; subst f5_))
                 refine norm_ (a' := ?_) ?_ ?_
                 rotate_left
                 ·simp only [putAll, Act.put, List.setIfInBounds_toArray, List.set_cons_zero, List.set_cons_succ]
                  rfl
                 refine one_ (i := 7) (N := some 65) (pT 9 8) rfl rfl (one_of HT_.out (by kernel_rfl)) (by decide) (fun K hK => ?_)
                 refine Kd.R_append_rows_step k24 (w0 := w) w.heap.size (by rfl) (.tmp 62) (.tmp 64) 27 24 (.agg #[(.int .i64 0), (.int .i64 0)]) 16 rfl Try.underlying27 info24 rfl (by decide) (by omega) v239 y238 y241 _ _ _ (fun k_ => some k_ ≠ (.slice Ao66 x6_2.length co66 : Value).ownBlock ∧ some k_ ≠ (.slice Ao76 y241.length co76 : Value).ownBlock ∧ k_ ≠ gb196 ∧ k_ ≠ gb205) (fun _ => False) rfl rfl ?aO ?aR (fun _ _ h => h) (fun _ h => h.elim) ?aF ?aB ?aS ?aL ?_
                 (case aR => repeat (first | exact (Kd.R_reads' HO243.out).2.2 | (with_reducible refine Kd.C_alloc ?_ _) | (with_reducible refine Kd.C_drewN ?_ _) | (with_reducible refine Kd.C_drew ?_)))
                 (case aB => exact (by repeat (first | (with_reducible first | exact HB.out | apply bA | apply bN | apply bD | refine bX ?_ (by assumption)) | exact HB.out)))
                 (case aF => exact (fun k_ hk => ⟨Kd.fresh' (Kd.R_lt (kW HO_6)) k_ hk, Kd.fresh' (Kd.R_lt (kW HO243)) k_ hk, Kd.freshB (g := gb196) (o := .cells #[.int .i64 a1_0, .int .i64 a1_1] 24 (0, 0)) (kU BK196) k_ hk, Kd.freshB (g := gb205) (o := .cells #[.int .i64 t202, .int .i64 t203] 24 (0, 0)) (kU BK205) k_ hk⟩))
                 (case aO => exact (by (with_reducible repeat (first | apply Kd.R_alloc | apply Kd.R_drewN | apply Kd.R_drew)); exact Kd.R_mono HO240.out (fun _ hk => ⟨hk.2.1, ⟨hk.1, ⟨hk.2.2.1, hk.2.2.2⟩⟩⟩)))
                 (case aS => exact (bZ (by repeat (first | (with_reducible first | exact HB.out | apply bA | apply bN | apply bD | refine bX ?_ (by assumption)) | exact HB.out))))
                 (case aL => have := LMc61.out; omega)
                 intro v245 w75 ho hb hg hat
                 rw [← Ny244.out] at ho
                 have n0_ := Am (Kd.R_after (ok := (fun k_ => some k_ ≠ (.slice Ao76 y241.length co76 : Value).ownBlock ∧ k_ ≠ gb196 ∧ k_ ≠ gb205)) (by (with_reducible repeat (first | apply Kd.R_alloc | apply Kd.R_drewN | apply Kd.R_drew)); exact Kd.R_mono HO_6.out (fun _ hk => ⟨⟨hk.2.1, ⟨hk.2.2.1, hk.2.2.2⟩⟩, hk.1⟩)) hg hat)
                 have n1_ := Am (blk_grown (g := gb196) (o := .cells #[.int .i64 a1_0, .int .i64 a1_1] 24 (0, 0)) (kU BK196) hg (Kd.R_away HO240.out (fun _ hk => hk.2.2.1)))
                 have n2_ := Am (blk_grown (g := gb200) (o := .cells #[.int .i64 ((rd_T26 l0 x28_2).f0.f0), .int .i64 ((rd_T26 l0 x28_2).f0.f1), .int .i64 ((rd_T26 l0 x28_2).f1)] 26 (0, 0)) (kU BK200) hg (Kd.R_ne HO240.out BK200.out (by decide)))
                 have n3_ := Am (blk_grown (g := gb205) (o := .cells #[.int .i64 t202, .int .i64 t203] 24 (0, 0)) (kU BK205) hg (Kd.R_away HO240.out (fun _ hk => hk.2.2.2)))
                 have n4_ := Am (Kd.R_after (ok := (fun k_ => some k_ ≠ (.slice Ao66 x6_2.length co66 : Value).ownBlock ∧ k_ ≠ gb196 ∧ k_ ≠ gb205)) (by (with_reducible repeat (first | apply Kd.R_alloc | apply Kd.R_drewN | apply Kd.R_drew)); exact Kd.R_mono HO243.out (fun _ hk => ⟨⟨hk.2.1, ⟨hk.2.2.1, hk.2.2.2⟩⟩, hk.1⟩)) hg hat)
                 have n5_ := Am (hb)
                 have n6_ := Am (ho)
                 clear HO_6 BK196 BK200 BK205 HO243 HB HO240
                 have HO_6 := n0_; have BK196 := n1_; have BK200 := n2_; have BK205 := n3_; have HO243 := n4_; have HB := n5_; have HO246 := n6_
                 clear n0_ n1_ n2_ n3_ n4_ n5_ n6_ ho hb hg hat
                 refine hK.out _ _ ⟨c20 BK205.out, c21 BK205.out⟩ (fun hHeld => ?_)
                 clear hK K
                 refine norm_ (a' := ?_) ?_ ?_
                 rotate_left
                 ·show Act.put _ (some 65) _ = _
                  simp only [Act.put, List.setIfInBounds_toArray, List.set_cons_zero, List.set_cons_succ, i64_w, i32_w]
                  rfl
                 refine pI (v := ?_) (a' := ?_) rfl (any_of HT_.out (by kernel_rfl)) (fun _ _ _ h => h) (Or.inl ⟨by rfl, ?_⟩) ?_ ?_
                 rotate_left
                 ·intro w'
                  go_simp
                  with_reducible rfl
                 rotate_left
                 ·show Act.put _ (some _) _ = _
                  simp only [Act.put, List.setIfInBounds_toArray, List.set_cons_zero, List.set_cons_succ, i64_w, i32_w]
                  rfl
                 refine done_ (done_of HT_.out (by kernel_rfl)) ?_
                 have q77 : (x11_3 : Int) ≤ ((x6_2.length : Int) : Int) := of_decide_eq_true (by first | (with_reducible assumption) | assumption)
                 obtain ⟨i077, hi077, _, hsz77, _⟩ := info_parts info24
                 have hroom77 : x6_2.length ≤ co66 := (Kd.R_reads' HO_6.out).2.1
                 have hC77 : Kd.C k24 _ Ao66 x6_2.length x6_2 := (Kd.R_reads' HO_6.out).2.2
                 have q077 : (0 : Int) ≤ (x11_3 : Int) := of_decide_eq_true (by first | (with_reducible assumption) | assumption)
                 have hcut77 := cut_from (P := Try.prog) 27 24 .i64 Try.underlying27 hi077 2 hsz77 Ao66 x6_2.length co66 x11_3 q077 q77
                 have hr77 := Kd.C_drop (m := (x11_3 : Int).toNat) (c := co66) hC77 (by omega) hroom77
                 obtain ⟨A77, hA77⟩ : ∃ A1, A1 = (if co66 = (x11_3 : Int).toNat then Ao66 else (Ao66 : Option Addr).map (·.add ((x11_3 : Int).toNat * 2))) := ⟨_, rfl⟩
                 obtain ⟨c77, hc77⟩ : ∃ c1, c1 = co66 - (x11_3 : Int).toNat := ⟨_, rfl⟩
                 have hy77 : y247.length = x6_2.length - (x11_3 : Int).toNat := (by rw [Ny247.out, List.length_drop] <;> omega)
                 rw [show (x6_2).drop (x11_3 : Int).toNat = y247 from Ny247.out.symm] at hr77
                 replace hr77 : Kd.C k24 _ A77 y247.length y247 := (by rw [hA77]; exact hr77)
                 rw [← hy77, ← hA77, ← hc77] at hcut77
                 have HR250 := Am hr77
                 have HC250 := Am (show y247.length ≤ c77 from by rw [hy77, hc77]; exact Nat.sub_le_sub_right hroom77 _)
                 clear hr77 hC77 hroom77 hi077 hsz77 hc77
                 have KY77 := Am hy77
                 have KA77 := Am hA77
                 clear hy77 hA77
                 have KL77 := Am (show (x11_3 : Int).toNat ≤ x6_2.length from by omega)
                 replace q77 := eq_true q77
                 try go_wp2_with (first | ((with_reducible refine gate_builtin (b := .append) (xs := #[.tmp 66, .tmp 69]) rfl ?_); at_builtin; refine Kd.R_append_rows k24 (w0 := w) w.heap.size rfl (.tmp 66) (.tmp 69) 27 24 (.agg #[(.int .i64 0), (.int .i64 0)]) 16 rfl Try.underlying27 info24 rfl (by decide) (by omega) v245 y244 y247 _ _ _ (fun k_ => some k_ ≠ (.slice Ao66 x6_2.length co66 : Value).ownBlock ∧ some k_ ≠ (.slice Ao76 y241.length co76 : Value).ownBlock ∧ k_ ≠ gb196 ∧ k_ ≠ gb205) (fun _ => False) rfl rfl ?aO ?aR (fun _ _ h => h) (fun _ h => h.elim) ?aF ?aB ?aS ?aL ?_; (case aR => repeat (first | exact (by repeat (first | (with_reducible exact HR250.out) | (with_reducible refine Kd.C_alloc ?_ _) | (with_reducible refine Kd.C_drewN ?_ _) | (with_reducible refine Kd.C_drew ?_) | exact HR250.out)) | (with_reducible refine Kd.C_alloc ?_ _) | (with_reducible refine Kd.C_drewN ?_ _) | (with_reducible refine Kd.C_drew ?_))); (case aB => exact (by repeat (first | (with_reducible first | exact HB.out | apply bA | apply bN | apply bD | refine bX ?_ (by assumption)) | exact HB.out))); (case aF => exact (fun k_ hk => ⟨Kd.fresh' (Kd.R_lt (kW HO_6)) k_ hk, Kd.fresh' (Kd.R_lt (kW HO243)) k_ hk, Kd.freshB (g := gb196) (o := .cells #[.int .i64 a1_0, .int .i64 a1_1] 24 (0, 0)) (kU BK196) k_ hk, Kd.freshB (g := gb205) (o := .cells #[.int .i64 t202, .int .i64 t203] 24 (0, 0)) (kU BK205) k_ hk⟩)); (case aO => exact (kW HO246)); (case aS => exact (bZ (by repeat (first | (with_reducible first | exact HB.out | apply bA | apply bN | apply bD | refine bX ?_ (by assumption)) | exact HB.out)))); (case aL => have := LMc64.out; omega); intro v252 w78 ho hb hg hat; rw [← Ny251.out] at ho; have n0_ := Am (Kd.R_after (ok := (fun k_ => some k_ ≠ (.slice Ao76 y241.length co76 : Value).ownBlock ∧ k_ ≠ gb196 ∧ k_ ≠ gb205)) (kW HO_6) hg hat); have n1_ := Am (blk_grown (g := gb196) (o := .cells #[.int .i64 a1_0, .int .i64 a1_1] 24 (0, 0)) (kU BK196) hg (Kd.R_away HO246.out (fun _ hk => hk.2.2.1))); have n2_ := Am (blk_grown (g := gb200) (o := .cells #[.int .i64 ((rd_T26 l0 x28_2).f0.f0), .int .i64 ((rd_T26 l0 x28_2).f0.f1), .int .i64 ((rd_T26 l0 x28_2).f1)] 26 (0, 0)) (kU BK200) hg (Kd.R_ne HO246.out BK200.out (by decide))); have n3_ := Am (blk_grown (g := gb205) (o := .cells #[.int .i64 t202, .int .i64 t203] 24 (0, 0)) (kU BK205) hg (Kd.R_away HO246.out (fun _ hk => hk.2.2.2))); have n4_ := Am (Kd.R_after (ok := (fun k_ => some k_ ≠ (.slice Ao66 x6_2.length co66 : Value).ownBlock ∧ k_ ≠ gb196 ∧ k_ ≠ gb205)) (kW HO243) hg hat); have n5_ := Am (hb); have n6_ := Am ((show Kd.C k24 w78 A77 y247.length y247 from by rw [Ny247.out, KA77.out]; exact Kd.C_drop (m := (x11_3 : Int).toNat) (c := co66) ((Kd.R_reads' (Kd.R_after (ok := (fun k_ => some k_ ≠ (.slice Ao76 y241.length co76 : Value).ownBlock ∧ k_ ≠ gb196 ∧ k_ ≠ gb205)) (kW HO_6) hg hat)).2.2) KL77.out ((Kd.R_reads' (Kd.R_after (ok := (fun k_ => some k_ ≠ (.slice Ao76 y241.length co76 : Value).ownBlock ∧ k_ ≠ gb196 ∧ k_ ≠ gb205)) (kW HO_6) hg hat)).2.1))); have n7_ := Am (ho); clear HO_6; clear BK196; clear BK200; clear BK205; clear HO243; clear HB; clear HR250; clear HO246; have HO_6 := n0_; have BK196 := n1_; have BK200 := n2_; have BK205 := n3_; have HO243 := n4_; have HB := n5_; have HR250 := n6_; have HO253 := n7_; clear n0_ n1_ n2_ n3_ n4_ n5_ n6_ n7_; clear ho hb hg hat))
                 go_roundg k3
                 case measure => have := HJ2.out; have := HK2.out; have := HK3.out; omega
                 case rel => exact ⟨(y251), (wrap64 (x28_2 + 1)), (by first | rfl | (simp; done) | (simp [*]; done)), H', ⟨by have := HJ2.out; have := HK2.out; have := HK3.out; omega⟩, ⟨by (with_reducible repeat (first | apply Kd.R_alloc | apply Kd.R_drewN | apply Kd.R_drew)); exact Kd.R_mono HO253.out (fun _ hk => hk.2.2.1)⟩, kV BK196, ⟨by repeat (first | (with_reducible first | exact HB.out | apply bA | apply bN | apply bD | refine bX ?_ (by assumption)) | exact HB.out)⟩⟩
               rw [if_neg c64] at H
               exact absurd H (by simp)
              rw [if_neg c61] at H
              exact absurd H (by simp)
             rw [if_neg c60] at H
             exact absurd H (by simp)
            rw [if_neg c59] at H
            exact absurd H (by simp)
           rw [if_neg c58] at H
           exact absurd H (by simp)
        replace c17 := Bool.eq_false_iff.mpr c17
        subst c17
        have H1 : (some (([] : List (S24)), false)) = some (r1, r2) := by rw [if_neg (show ¬ (false = true) by decide)] at H; exact H
        clear H
        have H := H1
        clear H1
        focus
         simp only [Option.some.injEq, Prod.mk.injEq] at H
         obtain ⟨rfl, rfl⟩ := H
         have p199 : 0 ≤ (x28_2 : Int) := of_decide_eq_true (by first | (with_reducible assumption) | assumption)
         have q199 : x28_2 < (l0.length : Int) := of_decide_eq_true (by first | (with_reducible assumption) | assumption)
         obtain ⟨ad199, e199, hx199_0, hx199_1, hx199_2⟩ := at_T26 HR0.out x28_2 p199 q199
         cases e199
         replace hx199_0 := (HB.out.cell (World.block_lt_of_cell? w _ hx199_0)).trans hx199_0
         replace hx199_1 := (HB.out.cell (World.block_lt_of_cell? w _ hx199_1)).trans hx199_1
         replace hx199_2 := (HB.out.cell (World.block_lt_of_cell? w _ hx199_2)).trans hx199_2
         replace p199 := eq_true p199
         replace q199 := eq_true q199
         go_wp2_with (first | ((with_reducible refine gate_dst (N := 8) rfl ?_); refine bE 8 #[.int .i64 0, .int .i64 0, .int .i64 0] 26 ?_; intro gb200 hg w79 hbox hb; have n0_ := Am (Kd.R_below (kW HO_6) hb); have hp0 := pA BK196 hb; have hv := vK HB hb; have n2_ := Am (bT hv hb); have n3_ := Am (hbox); have GW200 := kG hg hv; have GE200 := kG hg hv; have hp1 := pK BK196 hb; obtain ⟨NB196_200, NB200_196⟩ := kXY hg hp1 BK196; clear HO_6; clear HB; have HO_6 := n0_; replace BK196 := hp0 BK196; have HB := n2_; have BK200 := n3_; clear n0_ n2_ n3_ hp0 hp1 hv; clear hb hbox hg; have nq80 := kO NB200_196; have zq81 := c3 BK200) | ((with_reducible refine gate_callee (f := 37) rfl ?_); refine gL (some 33) Try.func37 #[.agg #[.int .i64 ((rd_T26 l0 x28_2).f0.f0), .int .i64 ((rd_T26 l0 x28_2).f0.f1), .int .i64 ((rd_T26 l0 x28_2).f1)]] rfl ?_; (with_reducible refine (spec_meGood.calls k2 ((rd_T26 l0 x28_2).f0.f0) ((rd_T26 l0 x28_2).f0.f1) ((rd_T26 l0 x28_2).f1) true _ A14.out).mono ?_); rintro e w82 ⟨rfl, hb⟩; refine ⟨_, rfl, ?_⟩; have n0_ := Am (Kd.R_below (by (with_reducible repeat (first | apply Kd.R_alloc | apply Kd.R_drewN | apply Kd.R_drew)); exact (Kd.R_mono (Kd.R_far (p := ⟨gb200, 2, none⟩) (Kd.R_far (p := ⟨gb200, 1, none⟩) (Kd.R_far (p := ⟨gb200, 0, none⟩) (Kd.R_types HO_6.out BK200.out (by decide)) (fun _ hk => hk.2) (.int .i64 ((rd_T26 l0 x28_2).f0.f0))) (fun _ hk => hk.2) (.int .i64 ((rd_T26 l0 x28_2).f0.f1))) (fun _ hk => hk.2) (.int .i64 ((rd_T26 l0 x28_2).f1))) (fun _ h_ => h_.1))) hb); have hp0 := pB gb200 BK196 hb; have n2_ := Am (kB (g := gb200) (o := .cells #[.int .i64 ((rd_T26 l0 x28_2).f0.f0), .int .i64 ((rd_T26 l0 x28_2).f0.f1), .int .i64 ((rd_T26 l0 x28_2).f1)] 26 (0, 0)) (by (with_reducible repeat (first | refine kN ?_ _ | refine kD ?_ | refine kA ?_ _)); refine kP (cs := #[.int .i64 ((rd_T26 l0 x28_2).f0.f0), .int .i64 ((rd_T26 l0 x28_2).f0.f1), .int .i64 0]) ?_ 2 _ rfl; (with_reducible repeat (first | refine kN ?_ _ | refine kD ?_ | refine kA ?_ _)); refine kP (cs := #[.int .i64 ((rd_T26 l0 x28_2).f0.f0), .int .i64 0, .int .i64 0]) ?_ 1 _ rfl; (with_reducible repeat (first | refine kN ?_ _ | refine kD ?_ | refine kA ?_ _)); refine kP (cs := #[.int .i64 0, .int .i64 0, .int .i64 0]) ?_ 0 _ rfl; (with_reducible repeat (first | refine kN ?_ _ | refine kD ?_ | refine kA ?_ _)); exact BK200.out) hb); have hv := vK HB hb; have n3_ := Am (bT hv hb); clear HO_6; clear BK200; clear HB; have HO_6 := n0_; replace BK196 := hp0 NB196_200 BK196; have BK200 := n2_; have HB := n3_; clear n0_ n2_ n3_ hp0 hv; (try clear hb); (try clear hk); have zq83 := c3 BK200; have zq84 := c2 BK196) | ((with_reducible refine gate_callee (f := 48) rfl ?_); refine gL (some 38) Try.func48 #[.agg #[.int .i64 ((rd_T26 l0 x28_2).f0.f0), .int .i64 ((rd_T26 l0 x28_2).f0.f1), .int .i64 ((rd_T26 l0 x28_2).f1)], .agg #[.int .i64 a1_0, .int .i64 a1_1]] rfl ?_; (with_reducible refine (spec_meAt.calls k2 ((rd_T26 l0 x28_2).f0.f0) ((rd_T26 l0 x28_2).f0.f1) ((rd_T26 l0 x28_2).f1) a1_0 a1_1 t202 t203 false _ A16.out).mono ?_); rintro e w85 ⟨rfl, hb⟩; refine ⟨_, rfl, ?_⟩; have n0_ := Am (Kd.R_below (kW HO_6) hb); have hp0 := pA BK196 hb; have hv := vK HB hb; have n3_ := Am (bT hv hb); clear HO_6; clear HB; have HO_6 := n0_; replace BK196 := hp0 BK196; replace BK200 := hp0 BK200; have HB := n3_; clear n0_ n3_ hp0 hv; (try clear hb)) | ((with_reducible refine gate_dst (N := 9) rfl ?_); refine bE 9 #[.int .i64 0, .int .i64 0] 24 ?_; intro gb205 hg w86 hbox hb; have n0_ := Am (Kd.R_below (Kd.R_elderB (kW HO_6) gb205 (Nat.le_of_eq hg.symm)) hb); have hp0 := pA BK196 hb; have hv := vK HB hb; have n3_ := Am (bT hv hb); have n4_ := Am (hbox); have GW205 := kG hg hv; have GE205 := kG hg hv; have hp1 := pK BK196 hb; obtain ⟨NB196_205, NB205_196⟩ := kXY hg hp1 BK196; obtain ⟨NB200_205, NB205_200⟩ := kXY hg hp1 BK200; clear HO_6; clear HB; have HO_6 := n0_; replace BK196 := hp0 BK196; replace BK200 := hp0 BK200; have HB := n3_; have BK205 := n4_; clear n0_ n3_ n4_ hp0 hp1 hv; clear hb hbox hg; have nq87 := kO NB205_196; have nq88 := kO NB205_200; have zq89 := c2 BK205))
         go_ret2
         exact ⟨_, by first | rfl | (simp [errW_none, errW_some] <;> rfl) | (simp [*, errW_none, errW_some] <;> rfl), by first | exact Kd.R_nil _ _ _ _ _ | exact Kd.N_nil _ _ _ _ _ | exact Kd.V_nil _ _ _ _ _ | exact Kd.Q_nil _ _ _ _ _ | exact Kd.S_nil _ _ _ _ _, by repeat (first | (with_reducible first | exact HB.out | apply bA | apply bN | apply bD | refine bX ?_ (by assumption)) | exact HB.out)⟩
       replace c15 := Bool.eq_false_iff.mpr c15
       subst c15
       have H1 : (some (([] : List (S24)), false)) = some (r1, r2) := by rw [if_neg (show ¬ (false = true) by decide)] at H; exact H
       clear H
       have H := H1
       clear H1
       focus
        simp only [Option.some.injEq, Prod.mk.injEq] at H
        obtain ⟨rfl, rfl⟩ := H
        have p199 : 0 ≤ (x28_2 : Int) := of_decide_eq_true (by first | (with_reducible assumption) | assumption)
        have q199 : x28_2 < (l0.length : Int) := of_decide_eq_true (by first | (with_reducible assumption) | assumption)
        obtain ⟨ad199, e199, hx199_0, hx199_1, hx199_2⟩ := at_T26 HR0.out x28_2 p199 q199
        cases e199
        replace hx199_0 := (HB.out.cell (World.block_lt_of_cell? w _ hx199_0)).trans hx199_0
        replace hx199_1 := (HB.out.cell (World.block_lt_of_cell? w _ hx199_1)).trans hx199_1
        replace hx199_2 := (HB.out.cell (World.block_lt_of_cell? w _ hx199_2)).trans hx199_2
        replace p199 := eq_true p199
        replace q199 := eq_true q199
        go_wp2_with (first | ((with_reducible refine gate_dst (N := 8) rfl ?_); refine bE 8 #[.int .i64 0, .int .i64 0, .int .i64 0] 26 ?_; intro gb200 hg w90 hbox hb; have n0_ := Am (Kd.R_below (kW HO_6) hb); have hp0 := pA BK196 hb; have hv := vK HB hb; have n2_ := Am (bT hv hb); have n3_ := Am (hbox); have GW200 := kG hg hv; have GE200 := kG hg hv; have hp1 := pK BK196 hb; obtain ⟨NB196_200, NB200_196⟩ := kXY hg hp1 BK196; clear HO_6; clear HB; have HO_6 := n0_; replace BK196 := hp0 BK196; have HB := n2_; have BK200 := n3_; clear n0_ n2_ n3_ hp0 hp1 hv; clear hb hbox hg; have nq91 := kO NB200_196; have zq92 := c3 BK200) | ((with_reducible refine gate_callee (f := 37) rfl ?_); refine gL (some 33) Try.func37 #[.agg #[.int .i64 ((rd_T26 l0 x28_2).f0.f0), .int .i64 ((rd_T26 l0 x28_2).f0.f1), .int .i64 ((rd_T26 l0 x28_2).f1)]] rfl ?_; (with_reducible refine (spec_meGood.calls k2 ((rd_T26 l0 x28_2).f0.f0) ((rd_T26 l0 x28_2).f0.f1) ((rd_T26 l0 x28_2).f1) false _ A14.out).mono ?_); rintro e w93 ⟨rfl, hb⟩; refine ⟨_, rfl, ?_⟩; have n0_ := Am (Kd.R_below (by (with_reducible repeat (first | apply Kd.R_alloc | apply Kd.R_drewN | apply Kd.R_drew)); exact (Kd.R_mono (Kd.R_far (p := ⟨gb200, 2, none⟩) (Kd.R_far (p := ⟨gb200, 1, none⟩) (Kd.R_far (p := ⟨gb200, 0, none⟩) (Kd.R_types HO_6.out BK200.out (by decide)) (fun _ hk => hk.2) (.int .i64 ((rd_T26 l0 x28_2).f0.f0))) (fun _ hk => hk.2) (.int .i64 ((rd_T26 l0 x28_2).f0.f1))) (fun _ hk => hk.2) (.int .i64 ((rd_T26 l0 x28_2).f1))) (fun _ h_ => h_.1))) hb); have hp0 := pB gb200 BK196 hb; have n2_ := Am (kB (g := gb200) (o := .cells #[.int .i64 ((rd_T26 l0 x28_2).f0.f0), .int .i64 ((rd_T26 l0 x28_2).f0.f1), .int .i64 ((rd_T26 l0 x28_2).f1)] 26 (0, 0)) (by (with_reducible repeat (first | refine kN ?_ _ | refine kD ?_ | refine kA ?_ _)); refine kP (cs := #[.int .i64 ((rd_T26 l0 x28_2).f0.f0), .int .i64 ((rd_T26 l0 x28_2).f0.f1), .int .i64 0]) ?_ 2 _ rfl; (with_reducible repeat (first | refine kN ?_ _ | refine kD ?_ | refine kA ?_ _)); refine kP (cs := #[.int .i64 ((rd_T26 l0 x28_2).f0.f0), .int .i64 0, .int .i64 0]) ?_ 1 _ rfl; (with_reducible repeat (first | refine kN ?_ _ | refine kD ?_ | refine kA ?_ _)); refine kP (cs := #[.int .i64 0, .int .i64 0, .int .i64 0]) ?_ 0 _ rfl; (with_reducible repeat (first | refine kN ?_ _ | refine kD ?_ | refine kA ?_ _)); exact BK200.out) hb); have hv := vK HB hb; have n3_ := Am (bT hv hb); clear HO_6; clear BK200; clear HB; have HO_6 := n0_; replace BK196 := hp0 NB196_200 BK196; have BK200 := n2_; have HB := n3_; clear n0_ n2_ n3_ hp0 hv; (try clear hb); (try clear hk)))
        go_ret2
        exact ⟨_, by first | rfl | (simp [errW_none, errW_some] <;> rfl) | (simp [*, errW_none, errW_some] <;> rfl), by first | exact Kd.R_nil _ _ _ _ _ | exact Kd.N_nil _ _ _ _ _ | exact Kd.V_nil _ _ _ _ _ | exact Kd.Q_nil _ _ _ _ _ | exact Kd.S_nil _ _ _ _ _, by repeat (first | (with_reducible first | exact HB.out | apply bA | apply bN | apply bD | refine bX ?_ (by assumption)) | exact HB.out)⟩
      rw [if_neg c13] at H
      exact absurd H (by simp)
     rw [if_neg c12] at H
     exact absurd H (by simp)
    rw [if_neg c11] at H
    have c11b0 : decide (x28_2 < (l0.length : Int)) = false := decide_eq_false c11
    clear c11
    have H' := Am H
    clear H
    obtain ⟨Ao94, co94, eo94⟩ := Kd.R_slice HO_6.out
    subst eo94
    go_wp2
    go_loopg [13, 74] k2 (fun kq v13 v74 w' => ∃ (x13_3 : List (S24)) (x74_3 : Int), v74 = .int .i64 x74_3 ∧ Aside0 (spec_meGaps.l2 kq x6_2 x13_3 (x6_2.length : Int) x74_3 = some (r1, r2)) ∧ Aside0 (kq ≤ k2) ∧ Aside0 (Kd.R k24 24 w' w.heap.size (fun k_ => some k_ ≠ (v13 : Value).ownBlock ∧ k_ ≠ gb196) (.slice Ao94 x6_2.length co94) x6_2) ∧ Aside0 (Kd.R k24 24 w' w.heap.size (fun k_ => some k_ ≠ ((.slice Ao94 x6_2.length co94) : Value).ownBlock ∧ k_ ≠ gb196) v13 x13_3) ∧ Aside0 (w'.heap[gb196]? = some (.cells #[.int .i64 a1_0, .int .i64 a1_1] 24 (0, 0))) ∧ Aside0 (Below w.heap.size w w'))
    case atStart => exact ⟨(([] : List (S24))), (0), (by first | rfl | (simp; done) | (simp [*]; done)), H', ⟨Nat.le_refl _⟩, ⟨by (with_reducible repeat (first | apply Kd.R_alloc | apply Kd.R_drewN | apply Kd.R_drew)); exact Kd.R_mono HO_6.out (fun _ hk => ⟨(by simp [Value.ownBlock]), hk⟩)⟩, ⟨by first | exact Kd.R_nil _ _ _ _ _ | exact Kd.N_nil _ _ _ _ _ | exact Kd.V_nil _ _ _ _ _ | exact Kd.Q_nil _ _ _ _ _ | exact Kd.S_nil _ _ _ _ _⟩, kV BK196, ⟨by repeat (first | (with_reducible first | exact HB.out | apply bA | apply bN | apply bD | refine bX ?_ (by assumption)) | exact HB.out)⟩⟩
    case round =>
     clear H'
     (try clear c11); (try clear c11b0)
     obtain ⟨x13_3, x74_3, rfl, HA, HK3, HO_6, HO_13, BK196, HB⟩ := hrel
     cases gk with
     | zero => exact absurd HA.out (by simp [spec_meGaps.l2])
     | succ k3 =>
      have H := HA.out
      clear HA
      simp only [spec_meGaps.l2] at H
      by_cases c95 : x74_3 < (x6_2.length : Int)
      ·rw [if_pos c95] at H
       have c95b0 : decide (x74_3 < (x6_2.length : Int)) = true := decide_eq_true c95
       clear c95
       by_cases c96 : (x6_2.length : Int) = 0
       ·rw [if_pos c96] at H
        exact absurd H (by simp)
       rw [if_neg c96] at H
       have c96b0 : ((x6_2.length : Int) == 0) = false := beq_eq_false_iff_ne.mpr c96
       have c96b1 : ((x6_2.length : Int) != 0) = true := bne_iff_ne.mpr c96
       have c96b2 : ¬ (x6_2 = []) := fun h_ => c96 (by rw [h_]; rfl)
       obtain ⟨ji97, hji97⟩ : ∃ j_ : Int, (Int.tmod (wrap64 (x74_3 + 1)) (x6_2.length : Int)) = j_ := ⟨_, rfl⟩
       replace H : (if 0 ≤ (ji97) then (if (ji97) < (x6_2.length : Int) then (if 0 ≤ x74_3 then (if x74_3 < (x6_2.length : Int) then ((spec_diAdd.f k3 ((rd_T24 x6_2 (ji97)).f0) ((rd_T24 x6_2 (ji97)).f1) ((rd_T24 x6_2 x74_3).f0) ((rd_T24 x6_2 x74_3).f1) (-1)).bind fun bt256 => (if bt256.2.2 = true then ((some (([(⟨bt256.1, bt256.2.1⟩ : S24)] : List (S24)) : List (S24))).bind fun y260 => (if x13_3.length + y260.length < 8796093022208 then (spec_meGaps.l2 k3 x6_2 (x13_3 ++ y260) (x6_2.length : Int) (wrap64 (x74_3 + 1))) else (none))) else (some (([] : List (S24)), false)))) else (none)) else (none)) else (none)) else (none)) = some (r1, r2) := by first | (rw [hji97] at H; exact H) | (simp only [hji97] at H ⊢; exact H)
       by_cases c98 : 0 ≤ (ji97)
       ·rw [if_pos c98] at H
        have c98b0 : decide (0 ≤ (ji97)) = true := decide_eq_true c98
        clear c98
        by_cases c99 : (ji97) < (x6_2.length : Int)
        ·rw [if_pos c99] at H
         have c99b0 : decide ((ji97) < (x6_2.length : Int)) = true := decide_eq_true c99
         clear c99
         by_cases c100 : 0 ≤ x74_3
         ·rw [if_pos c100] at H
          have c100b0 : decide (0 ≤ x74_3) = true := decide_eq_true c100
          clear c100
          by_cases c101 : x74_3 < (x6_2.length : Int)
          ·rw [if_pos c101] at H
           have c101b0 : decide (x74_3 < (x6_2.length : Int)) = true := decide_eq_true c101
           clear c101
           replace H := Option.bind_eq_some_iff.mp H
           obtain ⟨⟨t256, t257, t258⟩, A1020, H⟩ := H
           try dsimp only at H
           have A102 := Am A1020
           clear A1020
           by_cases c103 : t258 = true
           ·subst c103
            have H1 : ((some (([(⟨t256, t257⟩ : S24)] : List (S24)) : List (S24))).bind fun y260 => (if x13_3.length + y260.length < 8796093022208 then (spec_meGaps.l2 k3 x6_2 (x13_3 ++ y260) (x6_2.length : Int) (wrap64 (x74_3 + 1))) else (none))) = some (r1, r2) := by rw [if_pos rfl] at H; exact H
            clear H
            have H := H1
            clear H1
            obtain ⟨y260, hy260⟩ : ∃ y_ : List (S24), y_ = (([(⟨t256, t257⟩ : S24)] : List (S24))) := ⟨_, rfl⟩
            replace H : (if x13_3.length + y260.length < 8796093022208 then (spec_meGaps.l2 k3 x6_2 (x13_3 ++ y260) (x6_2.length : Int) (wrap64 (x74_3 + 1))) else (none)) = some (r1, r2) := by first | (rw [hy260]; with_reducible exact H) | (have H2_ := (Option.bind_some _ _).symm.trans H; rw [hy260]; with_reducible exact H2_) | (have H2_ := (Option.bind_some _ _).symm.trans H; with_reducible exact H2_) | with_reducible exact H | (rw [hy260]; exact H) | exact H
            have Ny260 := Am hy260
            clear hy260
            by_cases c104 : x13_3.length + y260.length < 8796093022208
            ·rw [if_pos c104] at H
             have LMc104 := Am c104
             clear c104
             obtain ⟨y263, hy263⟩ : ∃ y_ : List (S24), y_ = (x13_3 ++ y260) := ⟨_, rfl⟩
             replace H : (spec_meGaps.l2 k3 x6_2 y263 (x6_2.length : Int) (wrap64 (x74_3 + 1))) = some (r1, r2) := by first | (rw [hy263]; with_reducible exact H) | (have H2_ := (Option.bind_some _ _).symm.trans H; rw [hy263]; with_reducible exact H2_) | (have H2_ := (Option.bind_some _ _).symm.trans H; with_reducible exact H2_) | with_reducible exact H | (rw [hy263]; exact H) | exact H
             have Ny263 := Am hy263
             clear hy263
             focus
              have H' := Am H
              clear H
              try go_wp2
              have n0_ := Am (Kd.R_drew HO_6.out)
              have n1_ := Am (Kd.R_drew HO_13.out)
              have n2_ := Am (kD BK196.out)
              have n3_ := Am (bD HB.out)
              clear HO_6 HO_13 BK196 HB
              have HO_6 := n0_; have HO_13 := n1_; have BK196 := n2_; have HB := n3_
              clear n0_ n1_ n2_ n3_
              have p254 : 0 ≤ ((ji97) : Int) := of_decide_eq_true (by first | (with_reducible assumption) | assumption)
              have q254 : (ji97) < (x6_2.length : Int) := of_decide_eq_true (by first | (with_reducible assumption) | assumption)
              obtain ⟨ad254, e254, hx254_0, hx254_1⟩ := at_T24 (Kd.R_reads' HO_6.out).2.2 (ji97) p254 q254
              cases e254
              replace p254 := eq_true p254
              replace q254 := eq_true q254
              have p255 : 0 ≤ (x74_3 : Int) := of_decide_eq_true (by first | (with_reducible assumption) | assumption)
              have q255 : x74_3 < (x6_2.length : Int) := of_decide_eq_true (by first | (with_reducible assumption) | assumption)
              obtain ⟨ad255, e255, hx255_0, hx255_1⟩ := at_T24 (Kd.R_reads' HO_6.out).2.2 x74_3 p255 q255
              obtain rfl : ad254 = ad255 := (by injection e255)
              replace p255 := eq_true p255
              replace q255 := eq_true q255
              refine start_ (n := 19) (S := fun w' => w'.cell? (ad254.add (((ji97)).toNat * 2)) = some (.int .i64 ((rd_T24 x6_2 (ji97)).f0)) ∧ w'.cell? ⟨(ad254.add (((ji97)).toNat * 2)).block, (ad254.add (((ji97)).toNat * 2)).off + 1, none⟩ = some (.int .i64 ((rd_T24 x6_2 (ji97)).f1)) ∧ w'.cell? (ad254.add ((x74_3).toNat * 2)) = some (.int .i64 ((rd_T24 x6_2 x74_3).f0)) ∧ w'.cell? ⟨(ad254.add ((x74_3).toNat * 2)).block, (ad254.add ((x74_3).toNat * 2)).off + 1, none⟩ = some (.int .i64 ((rd_T24 x6_2 x74_3).f1))) (ds := []) (pT 19 0) (by kernel_rfl) rfl rfl ⟨hx254_0, hx254_1, hx255_0, hx255_1⟩ (fun hHeld => ?_); refine with_tabW spec_meGaps.tab22 spec_meGaps.bits22 (fun HT_ HW_ => ?_)
              generalize wr.drew = w105 at HO_6 HO_13 BK196 HB hx254_0 hx254_1 hx255_0 hx255_1 hHeld ⊢
              iterate 7
               refine pI (v := ?_) (a' := ?_) rfl (any_of HT_.out (by kernel_rfl)) (fun _ _ _ h => h) (Or.inl ⟨by rfl, ?_⟩) ?_ ?_
               rotate_left
               ·intro w'
                go_simp
                with_reducible rfl
               rotate_left
               ·show Act.put _ (some _) _ = _
                simp only [Act.put, List.setIfInBounds_toArray, List.set_cons_zero, List.set_cons_succ, i64_w, i32_w]
                rfl
              refine pure_ (i := 8) (N := some 86) (v := ?_) (a' := ?_) #[true, true, true, true, true, true, true, false, true, false, false, false, false, false, false, false, false, false, false] rfl rfl (any_of HT_.out (by kernel_rfl)) (fun _ _ _ h => h) (Or.inl ⟨by rfl, ?_⟩) ?_ ?_
              rotate_left
              ·intro w'
               go_simp
               with_reducible rfl
              rotate_left
              ·simp only [Act.put, List.setIfInBounds_toArray, List.set_cons_zero, List.set_cons_succ, i64_w, i32_w]
               rfl
              refine pure_ (i := 9) (N := some 87) (v := ?_) (a' := ?_) #[true, true, true, true, true, true, true, false, true, true, false, false, false, false, false, false, false, false, false] rfl rfl (any_of HT_.out (by kernel_rfl)) (fun _ _ _ h => h) (Or.inl ⟨by rfl, ?_⟩) ?_ ?_
              rotate_left
              ·intro w'
               go_simp
               with_reducible rfl
              rotate_left
              ·simp only [Act.put, List.setIfInBounds_toArray, List.set_cons_zero, List.set_cons_succ, i64_w, i32_w]
               rfl
              refine pure_ (i := 10) (N := some 88) (v := ?_) (a' := ?_) #[true, true, true, true, true, true, true, false, true, true, true, false, false, false, false, false, false, false, false] rfl rfl (any_of HT_.out (by kernel_rfl)) (fun _ _ _ h => h) (Or.inl ⟨by rfl, ?_⟩) ?_ ?_
              rotate_left
              ·intro w'
               go_simp
               with_reducible rfl
              rotate_left
              ·simp only [Act.put, List.setIfInBounds_toArray, List.set_cons_zero, List.set_cons_succ, i64_w, i32_w]
               rfl
              refine take_ (i := 7) (N := some 85) (v := ?_) (a' := ?_) (pT 19 11) rfl rfl (take_ofW HT_.out HW_.out (by kernel_rfl)) (fun _ _ _ h => h) (Or.inl ⟨by rfl, ?_⟩) hHeld ?_ ?_
              rotate_left
              ·rintro w' ⟨s0, s1, s2, s3⟩
               go_simp
               with_reducible rfl
              rotate_left
              ·simp only [Act.put, List.setIfInBounds_toArray, List.set_cons_zero, List.set_cons_succ, i64_w, i32_w]
               rfl
              refine tI (v := ?_) (a' := ?_) rfl (take_ofW HT_.out HW_.out (by kernel_rfl)) (fun _ _ _ h => h) (Or.inl ⟨by rfl, ?_⟩) hHeld ?_ ?_
              rotate_left
              ·rintro w' ⟨s0, s1, s2, s3⟩
               go_simp
               with_reducible rfl
              rotate_left
              ·show Act.put _ (some _) _ = _
               simp only [Act.put, List.setIfInBounds_toArray, List.set_cons_zero, List.set_cons_succ, i64_w, i32_w]
               rfl
              refine join_ (σ := Nat) 2 (pT 19 17) (fun s_ => [(90, .tuple #[.agg #[.int .i64 t256, .int .i64 t257], .bool true]), (15, .pointer (some ⟨s_, 0, none⟩)), (77, .tuple #[.agg #[.int .i64 t256, .int .i64 t257], .bool true]), (91, .agg #[.int .i64 t256, .int .i64 t257]), (92, .bool true)]) (fun s_ w' => (w'.cell? (ad254.add (((ji97)).toNat * 2)) = some (.int .i64 ((rd_T24 x6_2 (ji97)).f0)) ∧ w'.cell? ⟨(ad254.add (((ji97)).toNat * 2)).block, (ad254.add (((ji97)).toNat * 2)).off + 1, none⟩ = some (.int .i64 ((rd_T24 x6_2 (ji97)).f1)) ∧ w'.cell? (ad254.add ((x74_3).toNat * 2)) = some (.int .i64 ((rd_T24 x6_2 x74_3).f0)) ∧ w'.cell? ⟨(ad254.add ((x74_3).toNat * 2)).block, (ad254.add ((x74_3).toNat * 2)).off + 1, none⟩ = some (.int .i64 ((rd_T24 x6_2 x74_3).f1))) ∧ (Kd.R k24 24 w' w.heap.size (fun k_ => some k_ ≠ (.slice (some ad254) x6_2.length co94 : Value).ownBlock ∧ k_ ≠ gb196 ∧ k_ ≠ s_) u13 x13_3) ∧ (Kd.R k24 24 w' w.heap.size (fun k_ => some k_ ≠ (u13 : Value).ownBlock ∧ k_ ≠ gb196 ∧ k_ ≠ s_) (.slice (some ad254) x6_2.length co94) x6_2) ∧ (w'.heap[gb196]? = some (.cells #[.int .i64 a1_0, .int .i64 a1_1] 24 (0, 0))) ∧ (w'.heap[s_]? = some (.cells #[.int .i64 0, .int .i64 0] 24 (0, 0))) ∧ (w.heap.size ≤ s_) ∧ (w.heap.size ≤ s_) ∧ (gb196 ≠ s_) ∧ (s_ ≠ gb196) ∧ (Below w.heap.size w w')) ?_ ?_
              rotate_left
              ·intro hCont
               refine two_ (i := 12) (j := 16) (Ni := some 90) (Nj := some 15) (pT 19 13) #[true, true, true, true, true, true, true, true, true, true, true, true, false, false, false, false, true, false, false] rfl rfl rfl rfl (two_of HT_.out (by kernel_rfl)) (by decide) (by decide) (fun K hK => ?_) (fun K hK => ?_)
               ·skip
                refine goes_ Try.func50 (by kernel_rfl) rfl #[.agg #[.int .i64 ((rd_T24 x6_2 (ji97)).f0), .int .i64 ((rd_T24 x6_2 (ji97)).f1)], .agg #[.int .i64 ((rd_T24 x6_2 x74_3).f0), .int .i64 ((rd_T24 x6_2 x74_3).f1)], .int .i64 (-1)] (by rfl) rfl rfl (by (try simp only [List.map_toArray, List.map_cons, List.map_nil]); first | done | (simp only [hji97]; rfl) | rfl | (simp only [List.length_drop, List.length_take]; rfl)) ?_
                with_reducible refine (spec_diAdd.calls k3 ((rd_T24 x6_2 (ji97)).f0) ((rd_T24 x6_2 (ji97)).f1) ((rd_T24 x6_2 x74_3).f0) ((rd_T24 x6_2 x74_3).f1) (-1) t256 t257 true _ A102.out).mono ?_
                rintro e w106 ⟨rfl, hb⟩
                have HS0_ := (hb.cell (World.block_lt_of_cell? _ _ (hHeld.1))).trans (hHeld.1)
                have HS1_ := (hb.cell (World.block_lt_of_cell? _ _ (hHeld.2.1))).trans (hHeld.2.1)
                have HS2_ := (hb.cell (World.block_lt_of_cell? _ _ (hHeld.2.2.1))).trans (hHeld.2.2.1)
                have HS3_ := (hb.cell (World.block_lt_of_cell? _ _ (hHeld.2.2.2))).trans (hHeld.2.2.2)
                refine ⟨_, rfl, ?_⟩
                have n0_ := Am (Kd.R_below (kW HO_6) hb)
                have n1_ := Am (Kd.R_below (kW HO_13) hb)
                have hp0 := pA BK196 hb
                have hv := vK HB hb
                have n3_ := Am (bT hv hb)
                clear HO_6 HO_13 HB
                have HO_6 := n0_; have HO_13 := n1_
                replace BK196 := hp0 BK196
                have HB := n3_
                clear n0_ n1_ n3_ hp0 hv
                (try clear hb)
                refine hK.out _ _ ⟨HS0_, HS1_, HS2_, HS3_⟩ (fun hHeld => ?_)
                clear hK K
                refine norm_ (a' := ?_) ?_ ?_
                rotate_left
                ·show Act.put _ (some 90) _ = _
                 simp only [Act.put, List.setIfInBounds_toArray, List.set_cons_zero, List.set_cons_succ, i64_w, i32_w]
                 rfl
                iterate 3
                 refine pI (v := ?_) (a' := ?_) rfl (any_of HT_.out (by kernel_rfl)) (fun _ _ _ h => h) (Or.inl ⟨by rfl, ?_⟩) ?_ ?_
                 rotate_left
                 ·intro w'
                  go_simp
                  with_reducible rfl
                 rotate_left
                 ·show Act.put _ (some _) _ = _
                  simp only [Act.put, List.setIfInBounds_toArray, List.set_cons_zero, List.set_cons_succ, i64_w, i32_w]
                  rfl
                refine one_ (i := 16) (N := some 15) (pT 19 17) rfl rfl (one_of HT_.out (by kernel_rfl)) (by decide) (fun K hK => ?_)
                refine box_step ?hg (N := 15) ?hd (cs := #[.int .i64 0, .int .i64 0]) (t := 24) ?hr ?_; (case hd => rfl); (case hg => rfl); (case hr => first | (go_simp; done) | (go_simp; rfl))
                intro gb259 hg w107 hbox hb
                have HS0_ := (hb.cell (World.block_lt_of_cell? _ _ (hHeld.1))).trans (hHeld.1)
                have HS1_ := (hb.cell (World.block_lt_of_cell? _ _ (hHeld.2.1))).trans (hHeld.2.1)
                have HS2_ := (hb.cell (World.block_lt_of_cell? _ _ (hHeld.2.2.1))).trans (hHeld.2.2.1)
                have HS3_ := (hb.cell (World.block_lt_of_cell? _ _ (hHeld.2.2.2))).trans (hHeld.2.2.2)
                have n0_ := Am (Kd.R_below (Kd.R_elderB (kW HO_6) gb259 (Nat.le_of_eq hg.symm)) hb)
                have n1_ := Am (Kd.R_below (Kd.R_elderB (kW HO_13) gb259 (Nat.le_of_eq hg.symm)) hb)
                have hp0 := pA BK196 hb
                have hv := vK HB hb
                have n3_ := Am (bT hv hb)
                have n4_ := Am (hbox)
                have GW259 := kG hg hv
                have GE259 := kG hg hv
                have hp1 := pK BK196 hb
                obtain ⟨NB196_259, NB259_196⟩ := kXY hg hp1 BK196
                clear HO_6 HO_13 HB
                have HO_6 := n0_; have HO_13 := n1_
                replace BK196 := hp0 BK196
                have HB := n3_; have BK259 := n4_
                clear n3_ n4_ hp0 hp1 hv hb hbox hg
                refine hK.out _ _ ⟨HS0_, HS1_, HS2_, HS3_⟩ (fun hHeld => ?_)
                clear hK K
                refine norm_ (a' := ?_) ?_ ?_
                rotate_left
                ·show Act.put _ (some 15) _ = _
                 simp only [Act.put, List.setIfInBounds_toArray, List.set_cons_zero, List.set_cons_succ, i64_w, i32_w]
                 rfl
                exact norm_ (by simp only [putAll, Act.put, List.setIfInBounds_toArray, List.set_cons_zero, List.set_cons_succ]) (hCont (gb259) _ ⟨hHeld, (by (with_reducible repeat (first | apply Kd.R_alloc | apply Kd.R_drewN | apply Kd.R_drew)); exact Kd.R_mono HO_13.out (fun _ hk => ⟨hk.1.1, ⟨hk.1.2, hk.2⟩⟩)), (by (with_reducible repeat (first | apply Kd.R_alloc | apply Kd.R_drewN | apply Kd.R_drew)); exact Kd.R_mono HO_6.out (fun _ hk => ⟨hk.1.1, ⟨hk.1.2, hk.2⟩⟩)), (kU BK196), (kU BK259), GW259.out, GE259.out, NB196_259.out, NB259_196.out, (by repeat (first | (with_reducible first | exact HB.out | apply bA | apply bN | apply bD | refine bX ?_ (by assumption)) | exact HB.out))⟩)
               skip
               refine box_step ?hg (N := 15) ?hd (cs := #[.int .i64 0, .int .i64 0]) (t := 24) ?hr ?_; (case hd => rfl); (case hg => rfl); (case hr => first | (go_simp; done) | (go_simp; rfl))
               intro gb259 hg w106 hbox hb
               have HS0_ := (hb.cell (World.block_lt_of_cell? _ _ (hHeld.1))).trans (hHeld.1)
               have HS1_ := (hb.cell (World.block_lt_of_cell? _ _ (hHeld.2.1))).trans (hHeld.2.1)
               have HS2_ := (hb.cell (World.block_lt_of_cell? _ _ (hHeld.2.2.1))).trans (hHeld.2.2.1)
               have HS3_ := (hb.cell (World.block_lt_of_cell? _ _ (hHeld.2.2.2))).trans (hHeld.2.2.2)
               have n0_ := Am (Kd.R_below (Kd.R_elderB (kW HO_6) gb259 (Nat.le_of_eq hg.symm)) hb)
               have n1_ := Am (Kd.R_below (Kd.R_elderB (kW HO_13) gb259 (Nat.le_of_eq hg.symm)) hb)
               have hp0 := pA BK196 hb
               have hv := vK HB hb
               have n3_ := Am (bT hv hb)
               have n4_ := Am (hbox)
               have GW259 := kG hg hv
               have GE259 := kG hg hv
               have hp1 := pK BK196 hb
               obtain ⟨NB196_259, NB259_196⟩ := kXY hg hp1 BK196
               clear HO_6 HO_13 HB
               have HO_6 := n0_; have HO_13 := n1_
               replace BK196 := hp0 BK196
               have HB := n3_; have BK259 := n4_
               clear n3_ n4_ hp0 hp1 hv hb hbox hg
               refine hK.out _ _ ⟨HS0_, HS1_, HS2_, HS3_⟩ (fun hHeld => ?_)
               clear hK K
               refine norm_ (a' := ?_) ?_ ?_
               rotate_left
               ·show Act.put _ (some 15) _ = _
                simp only [Act.put, List.setIfInBounds_toArray, List.set_cons_zero, List.set_cons_succ, i64_w, i32_w]
                rfl
               refine one_ (i := 12) (N := some 90) #[true, true, true, true, true, true, true, true, true, true, true, true, true, false, false, false, true, false, false] rfl rfl (one_of HT_.out (by kernel_rfl)) (by decide) (fun K hK => ?_)
               refine goes_ Try.func50 (by kernel_rfl) rfl #[.agg #[.int .i64 ((rd_T24 x6_2 (ji97)).f0), .int .i64 ((rd_T24 x6_2 (ji97)).f1)], .agg #[.int .i64 ((rd_T24 x6_2 x74_3).f0), .int .i64 ((rd_T24 x6_2 x74_3).f1)], .int .i64 (-1)] (by rfl) rfl rfl (by (try simp only [List.map_toArray, List.map_cons, List.map_nil]); first | done | (simp only [hji97]; rfl) | rfl | (simp only [List.length_drop, List.length_take]; rfl)) ?_
               with_reducible refine (spec_diAdd.calls k3 ((rd_T24 x6_2 (ji97)).f0) ((rd_T24 x6_2 (ji97)).f1) ((rd_T24 x6_2 x74_3).f0) ((rd_T24 x6_2 x74_3).f1) (-1) t256 t257 true _ A102.out).mono ?_
               rintro e w107 ⟨rfl, hb⟩
               have HS0_ := (hb.cell (World.block_lt_of_cell? _ _ (hHeld.1))).trans (hHeld.1)
               have HS1_ := (hb.cell (World.block_lt_of_cell? _ _ (hHeld.2.1))).trans (hHeld.2.1)
               have HS2_ := (hb.cell (World.block_lt_of_cell? _ _ (hHeld.2.2.1))).trans (hHeld.2.2.1)
               have HS3_ := (hb.cell (World.block_lt_of_cell? _ _ (hHeld.2.2.2))).trans (hHeld.2.2.2)
               refine ⟨_, rfl, ?_⟩
               have n0_ := Am (Kd.R_below (kW HO_6) hb)
               have n1_ := Am (Kd.R_below (kW HO_13) hb)
               have hp0 := pA BK196 hb
               have hv := vK HB hb
               have n4_ := Am (bT hv hb)
               clear HO_6 HO_13 HB
               have HO_6 := n0_; have HO_13 := n1_
               replace BK196 := hp0 BK196; replace BK259 := hp0 BK259
               have HB := n4_
               clear n0_ n1_ n4_ hp0 hv
               (try clear hb)
               refine hK.out _ _ ⟨HS0_, HS1_, HS2_, HS3_⟩ (fun hHeld => ?_)
               clear hK K
               refine norm_ (a' := ?_) ?_ ?_
               rotate_left
               ·show Act.put _ (some 90) _ = _
                simp only [Act.put, List.setIfInBounds_toArray, List.set_cons_zero, List.set_cons_succ, i64_w, i32_w]
                rfl
               refine pure_ (i := 13) (N := some 77) (v := ?_) (a' := ?_) #[true, true, true, true, true, true, true, true, true, true, true, true, true, true, false, false, true, false, false] rfl rfl (any_of HT_.out (by kernel_rfl)) (fun _ _ _ h => h) (Or.inl ⟨by rfl, ?_⟩) ?_ ?_
               rotate_left
               ·intro w'
                go_simp
                with_reducible rfl
               rotate_left
               ·simp only [Act.put, List.setIfInBounds_toArray, List.set_cons_zero, List.set_cons_succ, i64_w, i32_w]
                rfl
               refine pure_ (i := 14) (N := some 91) (v := ?_) (a' := ?_) #[true, true, true, true, true, true, true, true, true, true, true, true, true, true, true, false, true, false, false] rfl rfl (any_of HT_.out (by kernel_rfl)) (fun _ _ _ h => h) (Or.inl ⟨by rfl, ?_⟩) ?_ ?_
               rotate_left
               ·intro w'
                go_simp
                with_reducible rfl
               rotate_left
               ·simp only [Act.put, List.setIfInBounds_toArray, List.set_cons_zero, List.set_cons_succ, i64_w, i32_w]
                rfl
               refine pure_ (i := 15) (N := some 92) (v := ?_) (a' := ?_) (pT 19 17) rfl rfl (any_of HT_.out (by kernel_rfl)) (fun _ _ _ h => h) (Or.inl ⟨by rfl, ?_⟩) ?_ ?_
               rotate_left
               ·intro w'
                go_simp
                with_reducible rfl
               rotate_left
               ·simp only [Act.put, List.setIfInBounds_toArray, List.set_cons_zero, List.set_cons_succ, i64_w, i32_w]
                rfl
               exact norm_ (by simp only [putAll, Act.put, List.setIfInBounds_toArray, List.set_cons_zero, List.set_cons_succ]) (hCont (gb259) _ ⟨hHeld, (by (with_reducible repeat (first | apply Kd.R_alloc | apply Kd.R_drewN | apply Kd.R_drew)); exact Kd.R_mono HO_13.out (fun _ hk => ⟨hk.1.1, ⟨hk.1.2, hk.2⟩⟩)), (by (with_reducible repeat (first | apply Kd.R_alloc | apply Kd.R_drewN | apply Kd.R_drew)); exact Kd.R_mono HO_6.out (fun _ hk => ⟨hk.1.1, ⟨hk.1.2, hk.2⟩⟩)), (kU BK196), (kU BK259), GW259.out, GE259.out, NB196_259.out, NB259_196.out, (by repeat (first | (with_reducible first | exact HB.out | apply bA | apply bN | apply bD | refine bX ?_ (by assumption)) | exact HB.out))⟩)
              rintro gb259 w108 ⟨hS_, h0_, h1_, h2_, h3_, h4_, h5_, h6_, h7_, h8_⟩
              have n0_ : Aside0 (Kd.R k24 24 w108 w.heap.size (fun k_ => some k_ ≠ (.slice (some ad254) x6_2.length co94 : Value).ownBlock ∧ k_ ≠ gb196 ∧ k_ ≠ gb259) u13 x13_3) := ⟨h0_⟩
              have n1_ : Aside0 (Kd.R k24 24 w108 w.heap.size (fun k_ => some k_ ≠ (u13 : Value).ownBlock ∧ k_ ≠ gb196 ∧ k_ ≠ gb259) (.slice (some ad254) x6_2.length co94) x6_2) := ⟨h1_⟩
              have n2_ : Aside0 (w108.heap[gb196]? = some (.cells #[.int .i64 a1_0, .int .i64 a1_1] 24 (0, 0))) := ⟨h2_⟩
              have n3_ : Aside0 (w108.heap[gb259]? = some (.cells #[.int .i64 0, .int .i64 0] 24 (0, 0))) := ⟨h3_⟩
              have n4_ : Aside0 (w.heap.size ≤ gb259) := ⟨h4_⟩
              have n5_ : Aside0 (w.heap.size ≤ gb259) := ⟨h5_⟩
              have n6_ : Aside0 (gb196 ≠ gb259) := ⟨h6_⟩
              have n7_ : Aside0 (gb259 ≠ gb196) := ⟨h7_⟩
              have n8_ : Aside0 (Below w.heap.size w w108) := ⟨h8_⟩
              clear HO_6 HO_13 BK196 HB h0_ h1_ h2_ h3_ h4_ h5_ h6_ h7_ h8_
              have HO_13 := n0_; have HO_6 := n1_; have BK196 := n2_; have BK259 := n3_; have GW259 := n4_; have GE259 := n5_; have NB196_259 := n6_; have NB259_196 := n7_; have HB := n8_
              clear n0_ n1_ n2_ n3_ n4_ n5_ n6_ n7_ n8_
              have hHeld : w108.cell? (ad254.add (((ji97)).toNat * 2)) = some (.int .i64 ((rd_T24 x6_2 (ji97)).f0)) ∧ w108.cell? ⟨(ad254.add (((ji97)).toNat * 2)).block, (ad254.add (((ji97)).toNat * 2)).off + 1, none⟩ = some (.int .i64 ((rd_T24 x6_2 (ji97)).f1)) ∧ w108.cell? (ad254.add ((x74_3).toNat * 2)) = some (.int .i64 ((rd_T24 x6_2 x74_3).f0)) ∧ w108.cell? ⟨(ad254.add ((x74_3).toNat * 2)).block, (ad254.add ((x74_3).toNat * 2)).off + 1, none⟩ = some (.int .i64 ((rd_T24 x6_2 x74_3).f1)) := hS_
              refine norm_ (a' := ?_) ?_ ?_
              rotate_left
              ·simp only [putAll, Act.put, List.setIfInBounds_toArray, List.set_cons_zero, List.set_cons_succ]
               rfl
              refine one_ (i := 17) (N := none) (pT 19 18) rfl rfl (one_of HT_.out (by kernel_rfl)) (by decide) (fun K hK => ?_)
              have hs109 : w108.cell? ⟨gb259, 0, none⟩ = some (.int .i64 0) := c20 BK259.out
              have hfs109 := kF BK259.out 0
              have hns109_0 := NB196_259.out; have hms109_0 := NB259_196.out
              have hs110 : w108.cell? ⟨gb259, 1, none⟩ = some (.int .i64 0) := c21 BK259.out
              have hfs110 := kF BK259.out 1
              have hns110_0 := NB196_259.out; have hms110_0 := NB259_196.out
              refine skip_ (w1 := ?_) (by rfl) rfl ?_ ?_
              rotate_left
              ·go_simp
               rfl
              refine hK.out _ _ ⟨((cell_far (p := ⟨gb259, _, none⟩) (by first | exact Kd.own_blk (Kd.R_away HO_6.out (fun _ hk => hk.2.2)) | (rw [add_block]; exact Kd.own_blk (Kd.R_away HO_6.out (fun _ hk => hk.2.2))) | (show (Addr.add _ _).block ≠ _; rw [add_block]; exact Kd.own_blk (Kd.R_away HO_6.out (fun _ hk => hk.2.2))) | (dsimp only; exact Kd.own_blk (Kd.R_away HO_6.out (fun _ hk => hk.2.2)))) _).trans (((cell_far (p := ⟨gb259, _, none⟩) (by first | exact Kd.own_blk (Kd.R_away HO_6.out (fun _ hk => hk.2.2)) | (rw [add_block]; exact Kd.own_blk (Kd.R_away HO_6.out (fun _ hk => hk.2.2))) | (show (Addr.add _ _).block ≠ _; rw [add_block]; exact Kd.own_blk (Kd.R_away HO_6.out (fun _ hk => hk.2.2))) | (dsimp only; exact Kd.own_blk (Kd.R_away HO_6.out (fun _ hk => hk.2.2)))) _).trans (hHeld.1)))), ((cell_far (p := ⟨gb259, _, none⟩) (by first | exact Kd.own_blk (Kd.R_away HO_6.out (fun _ hk => hk.2.2)) | (rw [add_block]; exact Kd.own_blk (Kd.R_away HO_6.out (fun _ hk => hk.2.2))) | (show (Addr.add _ _).block ≠ _; rw [add_block]; exact Kd.own_blk (Kd.R_away HO_6.out (fun _ hk => hk.2.2))) | (dsimp only; exact Kd.own_blk (Kd.R_away HO_6.out (fun _ hk => hk.2.2)))) _).trans (((cell_far (p := ⟨gb259, _, none⟩) (by first | exact Kd.own_blk (Kd.R_away HO_6.out (fun _ hk => hk.2.2)) | (rw [add_block]; exact Kd.own_blk (Kd.R_away HO_6.out (fun _ hk => hk.2.2))) | (show (Addr.add _ _).block ≠ _; rw [add_block]; exact Kd.own_blk (Kd.R_away HO_6.out (fun _ hk => hk.2.2))) | (dsimp only; exact Kd.own_blk (Kd.R_away HO_6.out (fun _ hk => hk.2.2)))) _).trans (hHeld.2.1)))), ((cell_far (p := ⟨gb259, _, none⟩) (by first | exact Kd.own_blk (Kd.R_away HO_6.out (fun _ hk => hk.2.2)) | (rw [add_block]; exact Kd.own_blk (Kd.R_away HO_6.out (fun _ hk => hk.2.2))) | (show (Addr.add _ _).block ≠ _; rw [add_block]; exact Kd.own_blk (Kd.R_away HO_6.out (fun _ hk => hk.2.2))) | (dsimp only; exact Kd.own_blk (Kd.R_away HO_6.out (fun _ hk => hk.2.2)))) _).trans (((cell_far (p := ⟨gb259, _, none⟩) (by first | exact Kd.own_blk (Kd.R_away HO_6.out (fun _ hk => hk.2.2)) | (rw [add_block]; exact Kd.own_blk (Kd.R_away HO_6.out (fun _ hk => hk.2.2))) | (show (Addr.add _ _).block ≠ _; rw [add_block]; exact Kd.own_blk (Kd.R_away HO_6.out (fun _ hk => hk.2.2))) | (dsimp only; exact Kd.own_blk (Kd.R_away HO_6.out (fun _ hk => hk.2.2)))) _).trans (hHeld.2.2.1)))), ((cell_far (p := ⟨gb259, _, none⟩) (by first | exact Kd.own_blk (Kd.R_away HO_6.out (fun _ hk => hk.2.2)) | (rw [add_block]; exact Kd.own_blk (Kd.R_away HO_6.out (fun _ hk => hk.2.2))) | (show (Addr.add _ _).block ≠ _; rw [add_block]; exact Kd.own_blk (Kd.R_away HO_6.out (fun _ hk => hk.2.2))) | (dsimp only; exact Kd.own_blk (Kd.R_away HO_6.out (fun _ hk => hk.2.2)))) _).trans (((cell_far (p := ⟨gb259, _, none⟩) (by first | exact Kd.own_blk (Kd.R_away HO_6.out (fun _ hk => hk.2.2)) | (rw [add_block]; exact Kd.own_blk (Kd.R_away HO_6.out (fun _ hk => hk.2.2))) | (show (Addr.add _ _).block ≠ _; rw [add_block]; exact Kd.own_blk (Kd.R_away HO_6.out (fun _ hk => hk.2.2))) | (dsimp only; exact Kd.own_blk (Kd.R_away HO_6.out (fun _ hk => hk.2.2)))) _).trans (hHeld.2.2.2))))⟩ (fun hHeld => ?_)
              clear hK K
              refine pI (v := ?_) (a' := ?_) rfl (any_of HT_.out (by kernel_rfl)) (fun _ _ _ h => h) (Or.inl ⟨by rfl, ?_⟩) ?_ ?_
              rotate_left
              ·intro w'
               go_simp
               with_reducible rfl
              rotate_left
              ·show Act.put _ (some _) _ = _
               simp only [Act.put, List.setIfInBounds_toArray, List.set_cons_zero, List.set_cons_succ, i64_w, i32_w]
               rfl
              refine done_ (done_of HT_.out (by kernel_rfl)) ?_
              have nq111 := kO NB259_196
              have zq112 := c2 BK259
              try go_wp2_with (first | ((with_reducible refine gate_dst (N := 97) rfl ?_); refine Kd.R_lit k24 _ 24 ?hg (N := 97) ?hd (xs := ([(⟨t256, t257⟩ : S24)] : List (S24))) (inner := [.int .i64 t256, .int .i64 t257]) (ok := fun _ => True) (okp := fun _ => True) ?hr ?hp (fun _ hk => hk) trivial (Below.refl _ _) (Nat.le_refl _) (by simp) ?_; (case hd => rfl); (case hg => rfl); (case hr => first | (go_simp; done) | (go_simp; rfl)); (case hp => exact (Reps.c2 (show Kd.M k24 _ _ _ (⟨t256, t257⟩ : S24) [.int .i64 t256, .int .i64 t257] from (k24_mkM _ _ _ (⟨t256, t257⟩ : S24) )) (Reps.none _ _))); intro v261 w113 ho114 hb hg_ hnew_; clear hg_ hnew_; (first | rw [← Ny260.out] at ho114 | (simp only [Int.reduceToNat] at ho114; rw [← Ny260.out] at ho114)); have n0_ := Am (Kd.R_elder' (by (with_reducible repeat (first | apply Kd.R_alloc | apply Kd.R_drewN | apply Kd.R_drew)); exact (Kd.R_mono (Kd.R_far (p := ⟨gb259, 1, none⟩) (Kd.R_far (p := ⟨gb259, 0, none⟩) (Kd.R_mono HO_6.out (fun k_ hk => (⟨hk, hk.2.2⟩ : _ ∧ k_ ≠ gb259))) (fun _ hk => hk.2) (.int .i64 t256)) (fun _ hk => hk.2) (.int .i64 t257)) (fun _ h_ => h_.1))) (Kd.R_base ho114) hb); have n1_ := Am (Kd.R_elder' (by (with_reducible repeat (first | apply Kd.R_alloc | apply Kd.R_drewN | apply Kd.R_drew)); exact (Kd.R_mono (Kd.R_far (p := ⟨gb259, 1, none⟩) (Kd.R_far (p := ⟨gb259, 0, none⟩) (Kd.R_mono HO_13.out (fun k_ hk => (⟨hk, hk.2.2⟩ : _ ∧ k_ ≠ gb259))) (fun _ hk => hk.2) (.int .i64 t256)) (fun _ hk => hk.2) (.int .i64 t257)) (fun _ h_ => h_.1))) (Kd.R_base ho114) hb); have n2_ := Am (Kd.R_lower (Kd.R_newB (Kd.R_newB (Kd.R_new' (Kd.R_new' ho114 (Kd.R_lt (by (with_reducible repeat (first | apply Kd.R_alloc | apply Kd.R_drewN | apply Kd.R_drew)); exact (Kd.R_mono (Kd.R_far (p := ⟨gb259, 1, none⟩) (Kd.R_far (p := ⟨gb259, 0, none⟩) (Kd.R_mono HO_6.out (fun k_ hk => (⟨hk, hk.2.2⟩ : _ ∧ k_ ≠ gb259))) (fun _ hk => hk.2) (.int .i64 t256)) (fun _ hk => hk.2) (.int .i64 t257)) (fun _ h_ => h_.1))))) (Kd.R_lt (by (with_reducible repeat (first | apply Kd.R_alloc | apply Kd.R_drewN | apply Kd.R_drew)); exact (Kd.R_mono (Kd.R_far (p := ⟨gb259, 1, none⟩) (Kd.R_far (p := ⟨gb259, 0, none⟩) (Kd.R_mono HO_13.out (fun k_ hk => (⟨hk, hk.2.2⟩ : _ ∧ k_ ≠ gb259))) (fun _ hk => hk.2) (.int .i64 t256)) (fun _ hk => hk.2) (.int .i64 t257)) (fun _ h_ => h_.1))))) (g := gb196) (o := .cells #[.int .i64 a1_0, .int .i64 a1_1] 24 (0, 0)) (by (with_reducible repeat (first | refine kN ?_ _ | refine kD ?_ | refine kA ?_ _)); refine kR ?_ NB196_259.out _; (with_reducible repeat (first | refine kN ?_ _ | refine kD ?_ | refine kA ?_ _)); refine kR ?_ NB196_259.out _; (with_reducible repeat (first | refine kN ?_ _ | refine kD ?_ | refine kA ?_ _)); exact BK196.out)) (g := gb259) (o := .cells #[.int .i64 t256, .int .i64 t257] 24 (0, 0)) (by (with_reducible repeat (first | refine kN ?_ _ | refine kD ?_ | refine kA ?_ _)); refine kP (cs := #[.int .i64 t256, .int .i64 0]) ?_ 1 _ rfl; (with_reducible repeat (first | refine kN ?_ _ | refine kD ?_ | refine kA ?_ _)); refine kP (cs := #[.int .i64 0, .int .i64 0]) ?_ 0 _ rfl; (with_reducible repeat (first | refine kN ?_ _ | refine kD ?_ | refine kA ?_ _)); exact BK259.out)) (bZ (by repeat (first | (with_reducible first | exact HB.out | apply bA | apply bN | apply bD | refine bX ?_ (by assumption)) | exact HB.out)))); have hp0 := pB gb259 BK196 hb; have n4_ := Am (kB (g := gb259) (o := .cells #[.int .i64 t256, .int .i64 t257] 24 (0, 0)) (by (with_reducible repeat (first | refine kN ?_ _ | refine kD ?_ | refine kA ?_ _)); refine kP (cs := #[.int .i64 t256, .int .i64 0]) ?_ 1 _ rfl; (with_reducible repeat (first | refine kN ?_ _ | refine kD ?_ | refine kA ?_ _)); refine kP (cs := #[.int .i64 0, .int .i64 0]) ?_ 0 _ rfl; (with_reducible repeat (first | refine kN ?_ _ | refine kD ?_ | refine kA ?_ _)); exact BK259.out) hb); have hv := vK HB hb; have n5_ := Am (bT hv hb); clear HO_6; clear HO_13; clear BK259; clear HB; have HO_6 := n0_; have HO_13 := n1_; have HO262 := n2_; replace BK196 := hp0 NB196_259 BK196; have BK259 := n4_; have HB := n5_; clear n0_ n1_ n2_ n4_ n5_ hp0 hv; clear hb ho114; obtain ⟨Ao116, co116, eo116⟩ := Kd.R_slice HO262.out; subst eo116) | ((with_reducible refine gate_builtin (b := .append) (xs := #[.tmp 95, .tmp 97]) rfl ?_); at_builtin; refine Kd.R_append_rows k24 (w0 := w) w.heap.size rfl (.tmp 95) (.tmp 97) 27 24 (.agg #[(.int .i64 0), (.int .i64 0)]) 16 rfl Try.underlying27 info24 rfl (by decide) (by omega) u13 x13_3 y260 _ _ _ (fun k_ => some k_ ≠ (.slice (some ad254) x6_2.length co94 : Value).ownBlock ∧ some k_ ≠ (.slice Ao116 y260.length co116 : Value).ownBlock ∧ k_ ≠ gb196 ∧ k_ ≠ gb259) (fun _ => False) rfl rfl ?aO ?aR (fun _ _ h => h) (fun _ h => h.elim) ?aF ?aB ?aS ?aL ?_; (case aR => repeat (first | exact (Kd.R_reads' HO262.out).2.2 | (with_reducible refine Kd.C_alloc ?_ _) | (with_reducible refine Kd.C_drewN ?_ _) | (with_reducible refine Kd.C_drew ?_))); (case aB => exact (by repeat (first | (with_reducible first | exact HB.out | apply bA | apply bN | apply bD | refine bX ?_ (by assumption)) | exact HB.out))); (case aF => exact (fun k_ hk => ⟨Kd.fresh' (Kd.R_lt (kW HO_6)) k_ hk, Kd.fresh' (Kd.R_lt (kW HO262)) k_ hk, Kd.freshB (g := gb196) (o := .cells #[.int .i64 a1_0, .int .i64 a1_1] 24 (0, 0)) (kU BK196) k_ hk, Kd.freshB (g := gb259) (o := .cells #[.int .i64 t256, .int .i64 t257] 24 (0, 0)) (kU BK259) k_ hk⟩)); (case aO => exact (by (with_reducible repeat (first | apply Kd.R_alloc | apply Kd.R_drewN | apply Kd.R_drew)); exact Kd.R_mono HO_13.out (fun _ hk => ⟨hk.1.1, ⟨hk.2, ⟨hk.1.2.1, hk.1.2.2⟩⟩⟩))); (case aS => exact (bZ (by repeat (first | (with_reducible first | exact HB.out | apply bA | apply bN | apply bD | refine bX ?_ (by assumption)) | exact HB.out)))); (case aL => have := LMc104.out; omega); intro v264 w115 ho hb hg hat; rw [← Ny263.out] at ho; have n0_ := Am (Kd.R_after (ok := (fun k_ => some k_ ≠ (.slice Ao116 y260.length co116 : Value).ownBlock ∧ k_ ≠ gb196 ∧ k_ ≠ gb259)) (by (with_reducible repeat (first | apply Kd.R_alloc | apply Kd.R_drewN | apply Kd.R_drew)); exact Kd.R_mono HO_6.out (fun _ hk => ⟨⟨hk.2, ⟨hk.1.2.1, hk.1.2.2⟩⟩, hk.1.1⟩)) hg hat); have n1_ := Am (blk_grown (g := gb196) (o := .cells #[.int .i64 a1_0, .int .i64 a1_1] 24 (0, 0)) (kU BK196) hg (Kd.R_away HO_13.out (fun _ hk => hk.1.2.1))); have n2_ := Am (blk_grown (g := gb259) (o := .cells #[.int .i64 t256, .int .i64 t257] 24 (0, 0)) (kU BK259) hg (Kd.R_away HO_13.out (fun _ hk => hk.1.2.2))); have n3_ := Am (Kd.R_after (ok := (fun k_ => some k_ ≠ (.slice (some ad254) x6_2.length co94 : Value).ownBlock ∧ k_ ≠ gb196 ∧ k_ ≠ gb259)) (by (with_reducible repeat (first | apply Kd.R_alloc | apply Kd.R_drewN | apply Kd.R_drew)); exact Kd.R_mono HO262.out (fun _ hk => ⟨⟨hk.1.1.1.2, ⟨hk.1.2, hk.2⟩⟩, hk.1.1.2⟩)) hg hat); have n4_ := Am (hb); have n5_ := Am (ho); clear HO_6; clear BK196; clear BK259; clear HO262; clear HB; clear HO_13; have HO_6 := n0_; have BK196 := n1_; have BK259 := n2_; have HO262 := n3_; have HB := n4_; have HO265 := n5_; clear n0_ n1_ n2_ n3_ n4_ n5_; clear ho hb hg hat))
              go_roundg k3
              case measure => have := HJ2.out; have := HK2.out; have := HK3.out; omega
              case rel => exact ⟨(y263), (wrap64 (x74_3 + 1)), (by first | rfl | (simp; done) | (simp [*]; done)), H', ⟨by have := HJ2.out; have := HK2.out; have := HK3.out; omega⟩, ⟨by (with_reducible repeat (first | apply Kd.R_alloc | apply Kd.R_drewN | apply Kd.R_drew)); exact Kd.R_mono HO_6.out (fun _ hk => ⟨hk.2, hk.1.2.1⟩)⟩, ⟨by (with_reducible repeat (first | apply Kd.R_alloc | apply Kd.R_drewN | apply Kd.R_drew)); exact Kd.R_mono HO265.out (fun _ hk => ⟨hk.1, hk.2.2.1⟩)⟩, kV BK196, ⟨by repeat (first | (with_reducible first | exact HB.out | apply bA | apply bN | apply bD | refine bX ?_ (by assumption)) | exact HB.out)⟩⟩
            rw [if_neg c104] at H
            exact absurd H (by simp)
           replace c103 := Bool.eq_false_iff.mpr c103
           subst c103
           have H1 : (some (([] : List (S24)), false)) = some (r1, r2) := by rw [if_neg (show ¬ (false = true) by decide)] at H; exact H
           clear H
           have H := H1
           clear H1
           focus
            simp only [Option.some.injEq, Prod.mk.injEq] at H
            obtain ⟨rfl, rfl⟩ := H
            try go_wp2
            have n0_ := Am (Kd.R_drew HO_6.out)
            have n1_ := Am (Kd.R_drew HO_13.out)
            have n2_ := Am (kD BK196.out)
            have n3_ := Am (bD HB.out)
            clear HO_6 HO_13 BK196 HB
            have HO_6 := n0_; have HO_13 := n1_; have BK196 := n2_; have HB := n3_
            clear n0_ n1_ n2_ n3_
            have p254 : 0 ≤ ((ji97) : Int) := of_decide_eq_true (by first | (with_reducible assumption) | assumption)
            have q254 : (ji97) < (x6_2.length : Int) := of_decide_eq_true (by first | (with_reducible assumption) | assumption)
            obtain ⟨ad254, e254, hx254_0, hx254_1⟩ := at_T24 (Kd.R_reads' HO_6.out).2.2 (ji97) p254 q254
            cases e254
            replace p254 := eq_true p254
            replace q254 := eq_true q254
            have p255 : 0 ≤ (x74_3 : Int) := of_decide_eq_true (by first | (with_reducible assumption) | assumption)
            have q255 : x74_3 < (x6_2.length : Int) := of_decide_eq_true (by first | (with_reducible assumption) | assumption)
            obtain ⟨ad255, e255, hx255_0, hx255_1⟩ := at_T24 (Kd.R_reads' HO_6.out).2.2 x74_3 p255 q255
            obtain rfl : ad254 = ad255 := (by injection e255)
            replace p255 := eq_true p255
            replace q255 := eq_true q255
            refine start_ (n := 19) (S := fun w' => w'.cell? (ad254.add (((ji97)).toNat * 2)) = some (.int .i64 ((rd_T24 x6_2 (ji97)).f0)) ∧ w'.cell? ⟨(ad254.add (((ji97)).toNat * 2)).block, (ad254.add (((ji97)).toNat * 2)).off + 1, none⟩ = some (.int .i64 ((rd_T24 x6_2 (ji97)).f1)) ∧ w'.cell? (ad254.add ((x74_3).toNat * 2)) = some (.int .i64 ((rd_T24 x6_2 x74_3).f0)) ∧ w'.cell? ⟨(ad254.add ((x74_3).toNat * 2)).block, (ad254.add ((x74_3).toNat * 2)).off + 1, none⟩ = some (.int .i64 ((rd_T24 x6_2 x74_3).f1))) (ds := []) (pT 19 0) (by kernel_rfl) rfl rfl ⟨hx254_0, hx254_1, hx255_0, hx255_1⟩ (fun hHeld => ?_); refine with_tabW spec_meGaps.tab22 spec_meGaps.bits22 (fun HT_ HW_ => ?_)
            generalize wr.drew = w117 at HO_6 HO_13 BK196 HB hx254_0 hx254_1 hx255_0 hx255_1 hHeld ⊢
            iterate 7
             refine pI (v := ?_) (a' := ?_) rfl (any_of HT_.out (by kernel_rfl)) (fun _ _ _ h => h) (Or.inl ⟨by rfl, ?_⟩) ?_ ?_
             rotate_left
             ·intro w'
              go_simp
              with_reducible rfl
             rotate_left
             ·show Act.put _ (some _) _ = _
              simp only [Act.put, List.setIfInBounds_toArray, List.set_cons_zero, List.set_cons_succ, i64_w, i32_w]
              rfl
            refine pure_ (i := 8) (N := some 86) (v := ?_) (a' := ?_) #[true, true, true, true, true, true, true, false, true, false, false, false, false, false, false, false, false, false, false] rfl rfl (any_of HT_.out (by kernel_rfl)) (fun _ _ _ h => h) (Or.inl ⟨by rfl, ?_⟩) ?_ ?_
            rotate_left
            ·intro w'
             go_simp
             with_reducible rfl
            rotate_left
            ·simp only [Act.put, List.setIfInBounds_toArray, List.set_cons_zero, List.set_cons_succ, i64_w, i32_w]
             rfl
            refine pure_ (i := 9) (N := some 87) (v := ?_) (a' := ?_) #[true, true, true, true, true, true, true, false, true, true, false, false, false, false, false, false, false, false, false] rfl rfl (any_of HT_.out (by kernel_rfl)) (fun _ _ _ h => h) (Or.inl ⟨by rfl, ?_⟩) ?_ ?_
            rotate_left
            ·intro w'
             go_simp
             with_reducible rfl
            rotate_left
            ·simp only [Act.put, List.setIfInBounds_toArray, List.set_cons_zero, List.set_cons_succ, i64_w, i32_w]
             rfl
            refine pure_ (i := 10) (N := some 88) (v := ?_) (a' := ?_) #[true, true, true, true, true, true, true, false, true, true, true, false, false, false, false, false, false, false, false] rfl rfl (any_of HT_.out (by kernel_rfl)) (fun _ _ _ h => h) (Or.inl ⟨by rfl, ?_⟩) ?_ ?_
            rotate_left
            ·intro w'
             go_simp
             with_reducible rfl
            rotate_left
            ·simp only [Act.put, List.setIfInBounds_toArray, List.set_cons_zero, List.set_cons_succ, i64_w, i32_w]
             rfl
            refine take_ (i := 7) (N := some 85) (v := ?_) (a' := ?_) (pT 19 11) rfl rfl (take_ofW HT_.out HW_.out (by kernel_rfl)) (fun _ _ _ h => h) (Or.inl ⟨by rfl, ?_⟩) hHeld ?_ ?_
            rotate_left
            ·rintro w' ⟨s0, s1, s2, s3⟩
             go_simp
             with_reducible rfl
            rotate_left
            ·simp only [Act.put, List.setIfInBounds_toArray, List.set_cons_zero, List.set_cons_succ, i64_w, i32_w]
             rfl
            refine tI (v := ?_) (a' := ?_) rfl (take_ofW HT_.out HW_.out (by kernel_rfl)) (fun _ _ _ h => h) (Or.inl ⟨by rfl, ?_⟩) hHeld ?_ ?_
            rotate_left
            ·rintro w' ⟨s0, s1, s2, s3⟩
             go_simp
             with_reducible rfl
            rotate_left
            ·show Act.put _ (some _) _ = _
             simp only [Act.put, List.setIfInBounds_toArray, List.set_cons_zero, List.set_cons_succ, i64_w, i32_w]
             rfl
            refine join_ (σ := Nat) 2 (pT 19 17) (fun s_ => [(90, .tuple #[.agg #[.int .i64 t256, .int .i64 t257], .bool false]), (15, .pointer (some ⟨s_, 0, none⟩)), (77, .tuple #[.agg #[.int .i64 t256, .int .i64 t257], .bool false]), (91, .agg #[.int .i64 t256, .int .i64 t257]), (92, .bool false)]) (fun s_ w' => (w'.cell? (ad254.add (((ji97)).toNat * 2)) = some (.int .i64 ((rd_T24 x6_2 (ji97)).f0)) ∧ w'.cell? ⟨(ad254.add (((ji97)).toNat * 2)).block, (ad254.add (((ji97)).toNat * 2)).off + 1, none⟩ = some (.int .i64 ((rd_T24 x6_2 (ji97)).f1)) ∧ w'.cell? (ad254.add ((x74_3).toNat * 2)) = some (.int .i64 ((rd_T24 x6_2 x74_3).f0)) ∧ w'.cell? ⟨(ad254.add ((x74_3).toNat * 2)).block, (ad254.add ((x74_3).toNat * 2)).off + 1, none⟩ = some (.int .i64 ((rd_T24 x6_2 x74_3).f1))) ∧ (Kd.R k24 24 w' w.heap.size (fun k_ => some k_ ≠ (.slice (some ad254) x6_2.length co94 : Value).ownBlock ∧ k_ ≠ gb196 ∧ k_ ≠ s_) u13 x13_3) ∧ (Kd.R k24 24 w' w.heap.size (fun k_ => some k_ ≠ (u13 : Value).ownBlock ∧ k_ ≠ gb196 ∧ k_ ≠ s_) (.slice (some ad254) x6_2.length co94) x6_2) ∧ (w'.heap[gb196]? = some (.cells #[.int .i64 a1_0, .int .i64 a1_1] 24 (0, 0))) ∧ (w'.heap[s_]? = some (.cells #[.int .i64 0, .int .i64 0] 24 (0, 0))) ∧ (w.heap.size ≤ s_) ∧ (w.heap.size ≤ s_) ∧ (gb196 ≠ s_) ∧ (s_ ≠ gb196) ∧ (Below w.heap.size w w')) ?_ ?_
            rotate_left
            ·intro hCont
             refine two_ (i := 12) (j := 16) (Ni := some 90) (Nj := some 15) (pT 19 13) #[true, true, true, true, true, true, true, true, true, true, true, true, false, false, false, false, true, false, false] rfl rfl rfl rfl (two_of HT_.out (by kernel_rfl)) (by decide) (by decide) (fun K hK => ?_) (fun K hK => ?_)
             ·skip
              refine goes_ Try.func50 (by kernel_rfl) rfl #[.agg #[.int .i64 ((rd_T24 x6_2 (ji97)).f0), .int .i64 ((rd_T24 x6_2 (ji97)).f1)], .agg #[.int .i64 ((rd_T24 x6_2 x74_3).f0), .int .i64 ((rd_T24 x6_2 x74_3).f1)], .int .i64 (-1)] (by rfl) rfl rfl (by (try simp only [List.map_toArray, List.map_cons, List.map_nil]); first | done | (simp only [hji97]; rfl) | rfl | (simp only [List.length_drop, List.length_take]; rfl)) ?_
              with_reducible refine (spec_diAdd.calls k3 ((rd_T24 x6_2 (ji97)).f0) ((rd_T24 x6_2 (ji97)).f1) ((rd_T24 x6_2 x74_3).f0) ((rd_T24 x6_2 x74_3).f1) (-1) t256 t257 false _ A102.out).mono ?_
              rintro e w118 ⟨rfl, hb⟩
              have HS0_ := (hb.cell (World.block_lt_of_cell? _ _ (hHeld.1))).trans (hHeld.1)
              have HS1_ := (hb.cell (World.block_lt_of_cell? _ _ (hHeld.2.1))).trans (hHeld.2.1)
              have HS2_ := (hb.cell (World.block_lt_of_cell? _ _ (hHeld.2.2.1))).trans (hHeld.2.2.1)
              have HS3_ := (hb.cell (World.block_lt_of_cell? _ _ (hHeld.2.2.2))).trans (hHeld.2.2.2)
              refine ⟨_, rfl, ?_⟩
              have n0_ := Am (Kd.R_below (kW HO_6) hb)
              have n1_ := Am (Kd.R_below (kW HO_13) hb)
              have hp0 := pA BK196 hb
              have hv := vK HB hb
              have n3_ := Am (bT hv hb)
              clear HO_6 HO_13 HB
              have HO_6 := n0_; have HO_13 := n1_
              replace BK196 := hp0 BK196
              have HB := n3_
              clear n0_ n1_ n3_ hp0 hv
              (try clear hb)
              refine hK.out _ _ ⟨HS0_, HS1_, HS2_, HS3_⟩ (fun hHeld => ?_)
              clear hK K
              refine norm_ (a' := ?_) ?_ ?_
              rotate_left
              ·show Act.put _ (some 90) _ = _
               simp only [Act.put, List.setIfInBounds_toArray, List.set_cons_zero, List.set_cons_succ, i64_w, i32_w]
               rfl
              iterate 3
               refine pI (v := ?_) (a' := ?_) rfl (any_of HT_.out (by kernel_rfl)) (fun _ _ _ h => h) (Or.inl ⟨by rfl, ?_⟩) ?_ ?_
               rotate_left
               ·intro w'
                go_simp
                with_reducible rfl
               rotate_left
               ·show Act.put _ (some _) _ = _
                simp only [Act.put, List.setIfInBounds_toArray, List.set_cons_zero, List.set_cons_succ, i64_w, i32_w]
                rfl
              refine one_ (i := 16) (N := some 15) (pT 19 17) rfl rfl (one_of HT_.out (by kernel_rfl)) (by decide) (fun K hK => ?_)
              refine box_step ?hg (N := 15) ?hd (cs := #[.int .i64 0, .int .i64 0]) (t := 24) ?hr ?_; (case hd => rfl); (case hg => rfl); (case hr => first | (go_simp; done) | (go_simp; rfl))
              intro gb259 hg w119 hbox hb
              have HS0_ := (hb.cell (World.block_lt_of_cell? _ _ (hHeld.1))).trans (hHeld.1)
              have HS1_ := (hb.cell (World.block_lt_of_cell? _ _ (hHeld.2.1))).trans (hHeld.2.1)
              have HS2_ := (hb.cell (World.block_lt_of_cell? _ _ (hHeld.2.2.1))).trans (hHeld.2.2.1)
              have HS3_ := (hb.cell (World.block_lt_of_cell? _ _ (hHeld.2.2.2))).trans (hHeld.2.2.2)
              have n0_ := Am (Kd.R_below (Kd.R_elderB (kW HO_6) gb259 (Nat.le_of_eq hg.symm)) hb)
              have n1_ := Am (Kd.R_below (Kd.R_elderB (kW HO_13) gb259 (Nat.le_of_eq hg.symm)) hb)
              have hp0 := pA BK196 hb
              have hv := vK HB hb
              have n3_ := Am (bT hv hb)
              have n4_ := Am (hbox)
              have GW259 := kG hg hv
              have GE259 := kG hg hv
              have hp1 := pK BK196 hb
              obtain ⟨NB196_259, NB259_196⟩ := kXY hg hp1 BK196
              clear HO_6 HO_13 HB
              have HO_6 := n0_; have HO_13 := n1_
              replace BK196 := hp0 BK196
              have HB := n3_; have BK259 := n4_
              clear n3_ n4_ hp0 hp1 hv hb hbox hg
              refine hK.out _ _ ⟨HS0_, HS1_, HS2_, HS3_⟩ (fun hHeld => ?_)
              clear hK K
              refine norm_ (a' := ?_) ?_ ?_
              rotate_left
              ·show Act.put _ (some 15) _ = _
               simp only [Act.put, List.setIfInBounds_toArray, List.set_cons_zero, List.set_cons_succ, i64_w, i32_w]
               rfl
              exact norm_ (by simp only [putAll, Act.put, List.setIfInBounds_toArray, List.set_cons_zero, List.set_cons_succ]) (hCont (gb259) _ ⟨hHeld, (by (with_reducible repeat (first | apply Kd.R_alloc | apply Kd.R_drewN | apply Kd.R_drew)); exact Kd.R_mono HO_13.out (fun _ hk => ⟨hk.1.1, ⟨hk.1.2, hk.2⟩⟩)), (by (with_reducible repeat (first | apply Kd.R_alloc | apply Kd.R_drewN | apply Kd.R_drew)); exact Kd.R_mono HO_6.out (fun _ hk => ⟨hk.1.1, ⟨hk.1.2, hk.2⟩⟩)), (kU BK196), (kU BK259), GW259.out, GE259.out, NB196_259.out, NB259_196.out, (by repeat (first | (with_reducible first | exact HB.out | apply bA | apply bN | apply bD | refine bX ?_ (by assumption)) | exact HB.out))⟩)
             skip
             refine box_step ?hg (N := 15) ?hd (cs := #[.int .i64 0, .int .i64 0]) (t := 24) ?hr ?_; (case hd => rfl); (case hg => rfl); (case hr => first | (go_simp; done) | (go_simp; rfl))
             intro gb259 hg w118 hbox hb
             have HS0_ := (hb.cell (World.block_lt_of_cell? _ _ (hHeld.1))).trans (hHeld.1)
             have HS1_ := (hb.cell (World.block_lt_of_cell? _ _ (hHeld.2.1))).trans (hHeld.2.1)
             have HS2_ := (hb.cell (World.block_lt_of_cell? _ _ (hHeld.2.2.1))).trans (hHeld.2.2.1)
             have HS3_ := (hb.cell (World.block_lt_of_cell? _ _ (hHeld.2.2.2))).trans (hHeld.2.2.2)
             have n0_ := Am (Kd.R_below (Kd.R_elderB (kW HO_6) gb259 (Nat.le_of_eq hg.symm)) hb)
             have n1_ := Am (Kd.R_below (Kd.R_elderB (kW HO_13) gb259 (Nat.le_of_eq hg.symm)) hb)
             have hp0 := pA BK196 hb
             have hv := vK HB hb
             have n3_ := Am (bT hv hb)
             have n4_ := Am (hbox)
             have GW259 := kG hg hv
             have GE259 := kG hg hv
             have hp1 := pK BK196 hb
             obtain ⟨NB196_259, NB259_196⟩ := kXY hg hp1 BK196
             clear HO_6 HO_13 HB
             have HO_6 := n0_; have HO_13 := n1_
             replace BK196 := hp0 BK196
             have HB := n3_; have BK259 := n4_
             clear n3_ n4_ hp0 hp1 hv hb hbox hg
             refine hK.out _ _ ⟨HS0_, HS1_, HS2_, HS3_⟩ (fun hHeld => ?_)
             clear hK K
             refine norm_ (a' := ?_) ?_ ?_
             rotate_left
             ·show Act.put _ (some 15) _ = _
              simp only [Act.put, List.setIfInBounds_toArray, List.set_cons_zero, List.set_cons_succ, i64_w, i32_w]
              rfl
             refine one_ (i := 12) (N := some 90) #[true, true, true, true, true, true, true, true, true, true, true, true, true, false, false, false, true, false, false] rfl rfl (one_of HT_.out (by kernel_rfl)) (by decide) (fun K hK => ?_)
             refine goes_ Try.func50 (by kernel_rfl) rfl #[.agg #[.int .i64 ((rd_T24 x6_2 (ji97)).f0), .int .i64 ((rd_T24 x6_2 (ji97)).f1)], .agg #[.int .i64 ((rd_T24 x6_2 x74_3).f0), .int .i64 ((rd_T24 x6_2 x74_3).f1)], .int .i64 (-1)] (by rfl) rfl rfl (by (try simp only [List.map_toArray, List.map_cons, List.map_nil]); first | done | (simp only [hji97]; rfl) | rfl | (simp only [List.length_drop, List.length_take]; rfl)) ?_
             with_reducible refine (spec_diAdd.calls k3 ((rd_T24 x6_2 (ji97)).f0) ((rd_T24 x6_2 (ji97)).f1) ((rd_T24 x6_2 x74_3).f0) ((rd_T24 x6_2 x74_3).f1) (-1) t256 t257 false _ A102.out).mono ?_
             rintro e w119 ⟨rfl, hb⟩
             have HS0_ := (hb.cell (World.block_lt_of_cell? _ _ (hHeld.1))).trans (hHeld.1)
             have HS1_ := (hb.cell (World.block_lt_of_cell? _ _ (hHeld.2.1))).trans (hHeld.2.1)
             have HS2_ := (hb.cell (World.block_lt_of_cell? _ _ (hHeld.2.2.1))).trans (hHeld.2.2.1)
             have HS3_ := (hb.cell (World.block_lt_of_cell? _ _ (hHeld.2.2.2))).trans (hHeld.2.2.2)
             refine ⟨_, rfl, ?_⟩
             have n0_ := Am (Kd.R_below (kW HO_6) hb)
             have n1_ := Am (Kd.R_below (kW HO_13) hb)
             have hp0 := pA BK196 hb
             have hv := vK HB hb
             have n4_ := Am (bT hv hb)
             clear HO_6 HO_13 HB
             have HO_6 := n0_; have HO_13 := n1_
             replace BK196 := hp0 BK196; replace BK259 := hp0 BK259
             have HB := n4_
             clear n0_ n1_ n4_ hp0 hv
             (try clear hb)
             refine hK.out _ _ ⟨HS0_, HS1_, HS2_, HS3_⟩ (fun hHeld => ?_)
             clear hK K
             refine norm_ (a' := ?_) ?_ ?_
             rotate_left
             ·show Act.put _ (some 90) _ = _
              simp only [Act.put, List.setIfInBounds_toArray, List.set_cons_zero, List.set_cons_succ, i64_w, i32_w]
              rfl
             refine pure_ (i := 13) (N := some 77) (v := ?_) (a' := ?_) #[true, true, true, true, true, true, true, true, true, true, true, true, true, true, false, false, true, false, false] rfl rfl (any_of HT_.out (by kernel_rfl)) (fun _ _ _ h => h) (Or.inl ⟨by rfl, ?_⟩) ?_ ?_
             rotate_left
             ·intro w'
              go_simp
              with_reducible rfl
             rotate_left
             ·simp only [Act.put, List.setIfInBounds_toArray, List.set_cons_zero, List.set_cons_succ, i64_w, i32_w]
              rfl
             refine pure_ (i := 14) (N := some 91) (v := ?_) (a' := ?_) #[true, true, true, true, true, true, true, true, true, true, true, true, true, true, true, false, true, false, false] rfl rfl (any_of HT_.out (by kernel_rfl)) (fun _ _ _ h => h) (Or.inl ⟨by rfl, ?_⟩) ?_ ?_
             rotate_left
             ·intro w'
              go_simp
              with_reducible rfl
             rotate_left
             ·simp only [Act.put, List.setIfInBounds_toArray, List.set_cons_zero, List.set_cons_succ, i64_w, i32_w]
              rfl
             refine pure_ (i := 15) (N := some 92) (v := ?_) (a' := ?_) (pT 19 17) rfl rfl (any_of HT_.out (by kernel_rfl)) (fun _ _ _ h => h) (Or.inl ⟨by rfl, ?_⟩) ?_ ?_
             rotate_left
             ·intro w'
              go_simp
              with_reducible rfl
             rotate_left
             ·simp only [Act.put, List.setIfInBounds_toArray, List.set_cons_zero, List.set_cons_succ, i64_w, i32_w]
              rfl
             exact norm_ (by simp only [putAll, Act.put, List.setIfInBounds_toArray, List.set_cons_zero, List.set_cons_succ]) (hCont (gb259) _ ⟨hHeld, (by (with_reducible repeat (first | apply Kd.R_alloc | apply Kd.R_drewN | apply Kd.R_drew)); exact Kd.R_mono HO_13.out (fun _ hk => ⟨hk.1.1, ⟨hk.1.2, hk.2⟩⟩)), (by (with_reducible repeat (first | apply Kd.R_alloc | apply Kd.R_drewN | apply Kd.R_drew)); exact Kd.R_mono HO_6.out (fun _ hk => ⟨hk.1.1, ⟨hk.1.2, hk.2⟩⟩)), (kU BK196), (kU BK259), GW259.out, GE259.out, NB196_259.out, NB259_196.out, (by repeat (first | (with_reducible first | exact HB.out | apply bA | apply bN | apply bD | refine bX ?_ (by assumption)) | exact HB.out))⟩)
            rintro gb259 w120 ⟨hS_, h0_, h1_, h2_, h3_, h4_, h5_, h6_, h7_, h8_⟩
            have n0_ : Aside0 (Kd.R k24 24 w120 w.heap.size (fun k_ => some k_ ≠ (.slice (some ad254) x6_2.length co94 : Value).ownBlock ∧ k_ ≠ gb196 ∧ k_ ≠ gb259) u13 x13_3) := ⟨h0_⟩
            have n1_ : Aside0 (Kd.R k24 24 w120 w.heap.size (fun k_ => some k_ ≠ (u13 : Value).ownBlock ∧ k_ ≠ gb196 ∧ k_ ≠ gb259) (.slice (some ad254) x6_2.length co94) x6_2) := ⟨h1_⟩
            have n2_ : Aside0 (w120.heap[gb196]? = some (.cells #[.int .i64 a1_0, .int .i64 a1_1] 24 (0, 0))) := ⟨h2_⟩
            have n3_ : Aside0 (w120.heap[gb259]? = some (.cells #[.int .i64 0, .int .i64 0] 24 (0, 0))) := ⟨h3_⟩
            have n4_ : Aside0 (w.heap.size ≤ gb259) := ⟨h4_⟩
            have n5_ : Aside0 (w.heap.size ≤ gb259) := ⟨h5_⟩
            have n6_ : Aside0 (gb196 ≠ gb259) := ⟨h6_⟩
            have n7_ : Aside0 (gb259 ≠ gb196) := ⟨h7_⟩
            have n8_ : Aside0 (Below w.heap.size w w120) := ⟨h8_⟩
            clear HO_6 HO_13 BK196 HB h0_ h1_ h2_ h3_ h4_ h5_ h6_ h7_ h8_
            have HO_13 := n0_; have HO_6 := n1_; have BK196 := n2_; have BK259 := n3_; have GW259 := n4_; have GE259 := n5_; have NB196_259 := n6_; have NB259_196 := n7_; have HB := n8_
            clear n0_ n1_ n2_ n3_ n4_ n5_ n6_ n7_ n8_
            have hHeld : w120.cell? (ad254.add (((ji97)).toNat * 2)) = some (.int .i64 ((rd_T24 x6_2 (ji97)).f0)) ∧ w120.cell? ⟨(ad254.add (((ji97)).toNat * 2)).block, (ad254.add (((ji97)).toNat * 2)).off + 1, none⟩ = some (.int .i64 ((rd_T24 x6_2 (ji97)).f1)) ∧ w120.cell? (ad254.add ((x74_3).toNat * 2)) = some (.int .i64 ((rd_T24 x6_2 x74_3).f0)) ∧ w120.cell? ⟨(ad254.add ((x74_3).toNat * 2)).block, (ad254.add ((x74_3).toNat * 2)).off + 1, none⟩ = some (.int .i64 ((rd_T24 x6_2 x74_3).f1)) := hS_
            refine norm_ (a' := ?_) ?_ ?_
            rotate_left
            ·simp only [putAll, Act.put, List.setIfInBounds_toArray, List.set_cons_zero, List.set_cons_succ]
             rfl
            refine one_ (i := 17) (N := none) (pT 19 18) rfl rfl (one_of HT_.out (by kernel_rfl)) (by decide) (fun K hK => ?_)
            have hs121 : w120.cell? ⟨gb259, 0, none⟩ = some (.int .i64 0) := c20 BK259.out
            have hfs121 := kF BK259.out 0
            have hns121_0 := NB196_259.out; have hms121_0 := NB259_196.out
            have hs122 : w120.cell? ⟨gb259, 1, none⟩ = some (.int .i64 0) := c21 BK259.out
            have hfs122 := kF BK259.out 1
            have hns122_0 := NB196_259.out; have hms122_0 := NB259_196.out
            refine skip_ (w1 := ?_) (by rfl) rfl ?_ ?_
            rotate_left
            ·go_simp
             rfl
            refine hK.out _ _ ⟨((cell_far (p := ⟨gb259, _, none⟩) (by first | exact Kd.own_blk (Kd.R_away HO_6.out (fun _ hk => hk.2.2)) | (rw [add_block]; exact Kd.own_blk (Kd.R_away HO_6.out (fun _ hk => hk.2.2))) | (show (Addr.add _ _).block ≠ _; rw [add_block]; exact Kd.own_blk (Kd.R_away HO_6.out (fun _ hk => hk.2.2))) | (dsimp only; exact Kd.own_blk (Kd.R_away HO_6.out (fun _ hk => hk.2.2)))) _).trans (((cell_far (p := ⟨gb259, _, none⟩) (by first | exact Kd.own_blk (Kd.R_away HO_6.out (fun _ hk => hk.2.2)) | (rw [add_block]; exact Kd.own_blk (Kd.R_away HO_6.out (fun _ hk => hk.2.2))) | (show (Addr.add _ _).block ≠ _; rw [add_block]; exact Kd.own_blk (Kd.R_away HO_6.out (fun _ hk => hk.2.2))) | (dsimp only; exact Kd.own_blk (Kd.R_away HO_6.out (fun _ hk => hk.2.2)))) _).trans (hHeld.1)))), ((cell_far (p := ⟨gb259, _, none⟩) (by first | exact Kd.own_blk (Kd.R_away HO_6.out (fun _ hk => hk.2.2)) | (rw [add_block]; exact Kd.own_blk (Kd.R_away HO_6.out (fun _ hk => hk.2.2))) | (show (Addr.add _ _).block ≠ _; rw [add_block]; exact Kd.own_blk (Kd.R_away HO_6.out (fun _ hk => hk.2.2))) | (dsimp only; exact Kd.own_blk (Kd.R_away HO_6.out (fun _ hk => hk.2.2)))) _).trans (((cell_far (p := ⟨gb259, _, none⟩) (by first | exact Kd.own_blk (Kd.R_away HO_6.out (fun _ hk => hk.2.2)) | (rw [add_block]; exact Kd.own_blk (Kd.R_away HO_6.out (fun _ hk => hk.2.2))) | (show (Addr.add _ _).block ≠ _; rw [add_block]; exact Kd.own_blk (Kd.R_away HO_6.out (fun _ hk => hk.2.2))) | (dsimp only; exact Kd.own_blk (Kd.R_away HO_6.out (fun _ hk => hk.2.2)))) _).trans (hHeld.2.1)))), ((cell_far (p := ⟨gb259, _, none⟩) (by first | exact Kd.own_blk (Kd.R_away HO_6.out (fun _ hk => hk.2.2)) | (rw [add_block]; exact Kd.own_blk (Kd.R_away HO_6.out (fun _ hk => hk.2.2))) | (show (Addr.add _ _).block ≠ _; rw [add_block]; exact Kd.own_blk (Kd.R_away HO_6.out (fun _ hk => hk.2.2))) | (dsimp only; exact Kd.own_blk (Kd.R_away HO_6.out (fun _ hk => hk.2.2)))) _).trans (((cell_far (p := ⟨gb259, _, none⟩) (by first | exact Kd.own_blk (Kd.R_away HO_6.out (fun _ hk => hk.2.2)) | (rw [add_block]; exact Kd.own_blk (Kd.R_away HO_6.out (fun _ hk => hk.2.2))) | (show (Addr.add _ _).block ≠ _; rw [add_block]; exact Kd.own_blk (Kd.R_away HO_6.out (fun _ hk => hk.2.2))) | (dsimp only; exact Kd.own_blk (Kd.R_away HO_6.out (fun _ hk => hk.2.2)))) _).trans (hHeld.2.2.1)))), ((cell_far (p := ⟨gb259, _, none⟩) (by first | exact Kd.own_blk (Kd.R_away HO_6.out (fun _ hk => hk.2.2)) | (rw [add_block]; exact Kd.own_blk (Kd.R_away HO_6.out (fun _ hk => hk.2.2))) | (show (Addr.add _ _).block ≠ _; rw [add_block]; exact Kd.own_blk (Kd.R_away HO_6.out (fun _ hk => hk.2.2))) | (dsimp only; exact Kd.own_blk (Kd.R_away HO_6.out (fun _ hk => hk.2.2)))) _).trans (((cell_far (p := ⟨gb259, _, none⟩) (by first | exact Kd.own_blk (Kd.R_away HO_6.out (fun _ hk => hk.2.2)) | (rw [add_block]; exact Kd.own_blk (Kd.R_away HO_6.out (fun _ hk => hk.2.2))) | (show (Addr.add _ _).block ≠ _; rw [add_block]; exact Kd.own_blk (Kd.R_away HO_6.out (fun _ hk => hk.2.2))) | (dsimp only; exact Kd.own_blk (Kd.R_away HO_6.out (fun _ hk => hk.2.2)))) _).trans (hHeld.2.2.2))))⟩ (fun hHeld => ?_)
            clear hK K
            refine pI (v := ?_) (a' := ?_) rfl (any_of HT_.out (by kernel_rfl)) (fun _ _ _ h => h) (Or.inl ⟨by rfl, ?_⟩) ?_ ?_
            rotate_left
            ·intro w'
             go_simp
             with_reducible rfl
            rotate_left
            ·show Act.put _ (some _) _ = _
             simp only [Act.put, List.setIfInBounds_toArray, List.set_cons_zero, List.set_cons_succ, i64_w, i32_w]
             rfl
            refine done_ (done_of HT_.out (by kernel_rfl)) ?_
            try go_wp2
            go_ret2
            exact ⟨_, by first | rfl | (simp [errW_none, errW_some] <;> rfl) | (simp only [← hji97]; first | rfl | (simp [errW_none, errW_some] <;> rfl)) | (simp [*, errW_none, errW_some] <;> rfl), by first | exact Kd.R_nil _ _ _ _ _ | exact Kd.N_nil _ _ _ _ _ | exact Kd.V_nil _ _ _ _ _ | exact Kd.Q_nil _ _ _ _ _ | exact Kd.S_nil _ _ _ _ _, by repeat (first | (with_reducible first | exact HB.out | apply bA | apply bN | apply bD | refine bX ?_ (by assumption)) | exact HB.out)⟩
          rw [if_neg c101] at H
          exact absurd H (by simp)
         rw [if_neg c100] at H
         exact absurd H (by simp)
        rw [if_neg c99] at H
        exact absurd H (by simp)
       rw [if_neg c98] at H
       exact absurd H (by simp)
      rw [if_neg c95] at H
      have c95b0 : decide (x74_3 < (x6_2.length : Int)) = false := decide_eq_false c95
      clear c95
      focus
       simp only [Option.some.injEq, Prod.mk.injEq] at H
       obtain ⟨rfl, rfl⟩ := H
       go_wp2
       go_ret2
       exact ⟨_, by first | rfl | (simp [errW_none, errW_some] <;> rfl) | (simp [*, errW_none, errW_some] <;> rfl), by (with_reducible repeat (first | apply Kd.R_alloc | apply Kd.R_drewN | apply Kd.R_drew)); exact Kd.R_mono HO_13.out (fun _ hk => trivial), by repeat (first | (with_reducible first | exact HB.out | apply bA | apply bN | apply bD | refine bX ?_ (by assumption)) | exact HB.out)⟩
end Go.Proofs.Ytnffmifjleebpaa.PFnHandsSpreadOfAll
