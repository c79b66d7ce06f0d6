-- WRITTEN BY A PROGRAM OF THIS SESSION (wip/tools): its own text, not the kit's printed one.
import Derived.Test.YtchglfpiicaedaaGreatDoorItoa
import Derived.Shelf.Strconv.Itoa3
import Derived.Lib.SmallJoins
import Derived.Lib.LaidTab
import Derived.Shelf.Strconv.ErrVarAll
import Derived.Shelf.Strings.Search3
import Derived.Lib.IndexLaws
import Derived.Lib.AtoiErrMem
import Derived.Test.YtchglfpiicaedaaGreatDoorPFnHandsStandOfAllx0
import Derived.Test.YtchglfpiicaedaaGreatDoorPFnHandsStandOfAllx2
import Derived.Test.YtchglfpiicaedaaGreatDoorPFnHandsStandOfAllx5
import Derived.Test.YtchglfpiicaedaaGreatDoorPFnHandsStandOfAllx6
import Derived.Test.YtchglfpiicaedaaGreatDoorPFnHandsStandOfAllx8
namespace Go.Proofs.YtchglfpiicaedaaGreatDoor.PFnHandsStandOfAll
open Go.RowKit Go.Proofs.YtchglfpiicaedaaGreatDoorW.PrintWords Go.Proofs.YtchglfpiicaedaaGreatDoorW.PrintLast Go.Proofs.YtchglfpiicaedaaGreatDoorW.PrintMore
attribute [local go_sem] max2_int min2_int max_two min_two max_three min_three max_four min_four   -- for this text's walks alone
set_option linter.unusedVariables false
set_option linter.unusedSimpArgs false

theorem ext8 (s : ByteArray) : (s.extract 8 s.size).size = s.size - 8 := by rw [ByteArray.size_extract, Nat.min_self]
/-! ### impl_ParseTime: function 22 -/
mutual
def impl_ParseTime.j0 : Nat → Int → ByteArray → Bool → Option (Int × Int × Bool)
 | 0, _, _, _ => none
 | k + 1, x0, x1, x31 => if x31 = true then (some (0, 0, false)) else (if 8 ≤ (x1.size : Int) then (if (x1.extract 8 x1.size).toList = ([] : List UInt8) then (impl_ParseTime.j1 k x0 x1 0 1) else (if 1 ≤ ((x1.extract 8 x1.size).size : Int) then ((strings_Cut.f ((x1.extract 8 x1.size).extract 1 (x1.extract 8 x1.size).size) (⟨#[47]⟩ : ByteArray)).bind fun bt323 => ((impl_readNumber.f bt323.1 1000000).bind fun bt326 => ((impl_readNumber.f bt323.2.1 1000000).bind fun bt328 => (if bt326.2 = true then (if bt328.2 = true then (if bt328.1 = 0 then (some (0, 0, false)) else (impl_ParseTime.j1 k x0 x1 bt326.1 bt328.1)) else (some (0, 0, false))) else (some (0, 0, false)))))) else (none))) else (none))
def impl_ParseTime.j1 : Nat → Int → ByteArray → Int → Int → Option (Int × Int × Bool)
 | 0, _, _, _, _ => none
 | k + 1, x0, x1, x6, x7 => if 0 ≤ 2 then (if 2 ≤ (x1.size : Int) then (if 3 ≤ 5 then (if 5 ≤ (x1.size : Int) then (if 6 ≤ 8 then (if 8 ≤ (x1.size : Int) then ((some (([x1.extract 0 2, x1.extract 3 5, x1.extract 6 8] : List ByteArray) : List ByteArray)).bind fun y333 => (impl_ParseTime.l0 k x0 x1 x6 x7 (([] : List Int)) y333 (y333.length : Int) 0)) else (none)) else (none)) else (none)) else (none)) else (none)) else (none)
def impl_ParseTime.l0 : Nat → Int → ByteArray → Int → Int → List Int → List ByteArray → Int → Int → Option (Int × Int × Bool)
 | 0, _, _, _, _, _, _, _, _ => none
 | k + 1, x0, x1, x6, x7, x16, x74, x75, x76 => if x76 < x75 then (if 0 ≤ x76 then (if x76 < (x74.length : Int) then ((strconv_Atoi_49.f (rdOf ByteArray.empty x74 x76)).bind fun bt337 => (if bt337.2 = true then (some (0, 0, false)) else (if x16.length < 17592186044416 then (impl_ParseTime.l0 k x0 x1 x6 x7 (x16 ++ [bt337.1]) x74 x75 (wrap64 (x76 + 1))) else (none)))) else (none)) else (none)) else (if 0 < (x16.length : Int) then ((impl_within.f (rd x16 0) 0 (wrap64 (x0 - 1))).bind fun t343 => (if t343 = true then (if 1 < (x16.length : Int) then ((impl_within.f (rd x16 1) 0 59).bind fun t345 => (if t345 = true then (if 2 < (x16.length : Int) then ((impl_within.f (rd x16 2) 0 59).bind fun t347 => (impl_ParseTime.j3 k x0 x1 x6 x7 x16 (!t347))) else (none)) else (impl_ParseTime.j3 k x0 x1 x6 x7 x16 true))) else (none)) else (impl_ParseTime.j3 k x0 x1 x6 x7 x16 true))) else (none))
def impl_ParseTime.j3 : Nat → Int → ByteArray → Int → Int → List Int → Bool → Option (Int × Int × Bool)
 | 0, _, _, _, _, _, _ => none
 | k + 1, x0, x1, x6, x7, x16, x113 => if x113 = true then (some (0, 0, false)) else (if 0 < (x16.length : Int) then (if 1 < (x16.length : Int) then (if 2 < (x16.length : Int) then ((impl_part.f k (wrap64 ((wrap64 ((wrap64 ((wrap64 ((wrap64 ((rd x16 0) * 3600)) + (wrap64 ((rd x16 1) * 60)))) + (rd x16 2))) * x7)) + x6)) (wrap64 ((wrap64 (x0 * 3600)) * x7))).bind fun bt351 => ((impl_TimeText.f k x0 bt351.1 bt351.2).bind fun bt354 => (if bt354.2 = true then (if bt354.1.toList = x1.toList then (some (bt351.1, bt351.2, true)) else (some (0, 0, false))) else (some (0, 0, false))))) else (none)) else (none)) else (none))
end
def impl_ParseTime.f (k : Nat) (a0 : Int) (a1 : ByteArray) : Option (Int × Int × Bool) := (impl_isDial.f a0).bind fun t322 => (if t322 = true then (impl_ParseTime.j0 k a0 a1 (decide ((a1.size : Int) < 8))) else (impl_ParseTime.j0 k a0 a1 true))
theorem impl_ParseTime.mono_l : ∀ k, (∀ y0 y1 y2, LeO (impl_ParseTime.j0 k y0 y1 y2) (impl_ParseTime.j0 (k + 1) y0 y1 y2)) ∧ (∀ y0 y1 y2 y3, LeO (impl_ParseTime.j1 k y0 y1 y2 y3) (impl_ParseTime.j1 (k + 1) y0 y1 y2 y3)) ∧ (∀ y0 y1 y2 y3 y4 y5 y6 y7, LeO (impl_ParseTime.l0 k y0 y1 y2 y3 y4 y5 y6 y7) (impl_ParseTime.l0 (k + 1) y0 y1 y2 y3 y4 y5 y6 y7)) ∧ (∀ y0 y1 y2 y3 y4 y5, LeO (impl_ParseTime.j3 k y0 y1 y2 y3 y4 y5) (impl_ParseTime.j3 (k + 1) y0 y1 y2 y3 y4 y5))
 | 0 => ⟨fun _ _ _ r h => by simp [impl_ParseTime.j0] at h, fun _ _ _ _ r h => by simp [impl_ParseTime.j1] at h, fun _ _ _ _ _ _ _ _ r h => by simp [impl_ParseTime.l0] at h, fun _ _ _ _ _ _ r h => by simp [impl_ParseTime.j3] at h⟩
 | k + 1 => by
  obtain ⟨ih0, ih1, ih2, ih3⟩ := impl_ParseTime.mono_l k
  refine ⟨?_, ?_, ?_, ?_⟩
  ·intro y0 y1 y2
   unfold impl_ParseTime.j0
   repeat' first
   | (with_reducible apply ih0)
   | (with_reducible apply ih1)
   | (with_reducible apply ih2)
   | (with_reducible apply ih3)
   | (with_reducible exact impl_TimeText.mono _ _ _ _)
   | (with_reducible exact impl_part.mono _ _ _)
   | (with_reducible exact LeO.refl _)
   | (with_reducible exact LeO.none _)
   | (with_reducible refine LeO.ite ?_ ?_)
   | (with_reducible refine LeO.bind ?_ (fun _ => ?_))
   | apply ih0
   | apply ih1
   | apply ih2
   | apply ih3
   | exact impl_TimeText.mono _ _ _ _
   | exact impl_part.mono _ _ _
   | exact LeO.none _
   | refine LeO.ite ?_ ?_
   | refine LeO.bind ?_ (fun _ => ?_)
  ·intro y0 y1 y2 y3
   unfold impl_ParseTime.j1
   repeat' first
   | (with_reducible apply ih0)
   | (with_reducible apply ih1)
   | (with_reducible apply ih2)
   | (with_reducible apply ih3)
   | (with_reducible exact impl_TimeText.mono _ _ _ _)
   | (with_reducible exact impl_part.mono _ _ _)
   | (with_reducible exact LeO.refl _)
   | (with_reducible exact LeO.none _)
   | (with_reducible refine LeO.ite ?_ ?_)
   | (with_reducible refine LeO.bind ?_ (fun _ => ?_))
   | apply ih0
   | apply ih1
   | apply ih2
   | apply ih3
   | exact impl_TimeText.mono _ _ _ _
   | exact impl_part.mono _ _ _
   | exact LeO.none _
   | refine LeO.ite ?_ ?_
   | refine LeO.bind ?_ (fun _ => ?_)
  ·intro y0 y1 y2 y3 y4 y5 y6 y7
   unfold impl_ParseTime.l0
   repeat' first
   | (with_reducible apply ih0)
   | (with_reducible apply ih1)
   | (with_reducible apply ih2)
   | (with_reducible apply ih3)
   | (with_reducible exact impl_TimeText.mono _ _ _ _)
   | (with_reducible exact impl_part.mono _ _ _)
   | (with_reducible exact LeO.refl _)
   | (with_reducible exact LeO.none _)
   | (with_reducible refine LeO.ite ?_ ?_)
   | (with_reducible refine LeO.bind ?_ (fun _ => ?_))
   | apply ih0
   | apply ih1
   | apply ih2
   | apply ih3
   | exact impl_TimeText.mono _ _ _ _
   | exact impl_part.mono _ _ _
   | exact LeO.none _
   | refine LeO.ite ?_ ?_
   | refine LeO.bind ?_ (fun _ => ?_)
  ·intro y0 y1 y2 y3 y4 y5
   unfold impl_ParseTime.j3
   repeat' first
   | (with_reducible apply ih0)
   | (with_reducible apply ih1)
   | (with_reducible apply ih2)
   | (with_reducible apply ih3)
   | (with_reducible exact impl_TimeText.mono _ _ _ _)
   | (with_reducible exact impl_part.mono _ _ _)
   | (with_reducible exact LeO.refl _)
   | (with_reducible exact LeO.none _)
   | (with_reducible refine LeO.ite ?_ ?_)
   | (with_reducible refine LeO.bind ?_ (fun _ => ?_))
   | apply ih0
   | apply ih1
   | apply ih2
   | apply ih3
   | exact impl_TimeText.mono _ _ _ _
   | exact impl_part.mono _ _ _
   | exact LeO.none _
   | refine LeO.ite ?_ ?_
   | refine LeO.bind ?_ (fun _ => ?_)
theorem impl_ParseTime.mono : ∀ a0 a1 k, LeO (impl_ParseTime.f k a0 a1) (impl_ParseTime.f (k + 1) a0 a1) := by
 intro a0 a1 k
 obtain ⟨ih0, ih1, ih2, ih3⟩ := impl_ParseTime.mono_l k
 unfold impl_ParseTime.f
 repeat' first
   | (with_reducible apply ih0)
   | (with_reducible apply ih1)
   | (with_reducible apply ih2)
   | (with_reducible apply ih3)
   | (with_reducible exact impl_TimeText.mono _ _ _ _)
   | (with_reducible exact impl_part.mono _ _ _)
   | (with_reducible exact LeO.refl _)
   | (with_reducible exact LeO.none _)
   | (with_reducible refine LeO.ite ?_ ?_)
   | (with_reducible refine LeO.bind ?_ (fun _ => ?_))
   | apply ih0
   | apply ih1
   | apply ih2
   | apply ih3
   | exact impl_TimeText.mono _ _ _ _
   | exact impl_part.mono _ _ _
   | exact LeO.none _
   | refine LeO.ite ?_ ?_
   | refine LeO.bind ?_ (fun _ => ?_)
def impl_ParseTime.T13 : Bool × List (List Nat × List Nat) := (true, [([], []), ([0], [0]), ([], []), ([2], [2]), ([], []), ([4], [4]), ([1, 3, 5], [1, 3, 5]), ([6], [6]), ([], [])])
def impl_ParseTime.B13 : List Nat := [0, 1, 0, 4, 0, 16, 63, 127, 0]
theorem impl_ParseTime.tab13 : rtab .any (opsOf Tryz.f22 13) = impl_ParseTime.T13 := by kernel_rfl
theorem impl_ParseTime.bits13 : waitsOk impl_ParseTime.T13.2 impl_ParseTime.B13 = true := by kernel_rfl
def impl_ParseTime.T23 : Bool × List (List Nat × List Nat) := (true, [([], []), ([0], [0]), ([1], [1]), ([2], [2]), ([], []), ([4], [4]), ([5], [5]), ([6], [6]), ([3, 7], [3, 7]), ([], []), ([9], [9]), ([10], [10]), ([8, 11], [8, 11]), ([], []), ([12, 13], [12, 13]), ([], []), ([14, 15], [14, 15]), ([], []), ([17], [17]), ([], []), ([18, 19], [18, 19]), ([16, 20], [16, 20]), ([], []), ([22, 21, 21, 0, 1, 2, 3, 4, 5, 6, 7, 8, 9, 10, 11, 12, 13, 14, 15, 16, 17, 18, 19, 20, 21, 22], [21, 22])])
def impl_ParseTime.B23 : List Nat := [0, 1, 3, 7, 0, 16, 48, 112, 255, 0, 512, 1536, 4095, 0, 16383, 0, 65535, 0, 131072, 0, 917504, 2097151, 0, 8388607]
theorem impl_ParseTime.tab23 : rtab .any (opsOf Tryz.f22 23) = impl_ParseTime.T23 := by kernel_rfl
theorem impl_ParseTime.bits23 : waitsOk impl_ParseTime.T23.2 impl_ParseTime.B23 = true := by kernel_rfl
set_option maxHeartbeats 64000000 in
set_option maxRecDepth 100000 in
theorem impl_ParseTime.calls (k : Nat) (a0 : Int) (a1 : ByteArray) (r1 : Int) (r2 : Int) (r3 : Bool) (w : World) (htab_ : TabsAll w) (h : impl_ParseTime.f k a0 a1 = some (r1, r2, r3)) :
  Calls Tryz.prog 22 #[.int .i64 a0, .string a1] w fun e w' => e = .returned (.tuple #[.agg #[.int .i64 r1, .int .i64 r2], .bool r3]) ∧ Below w.heap.size w w' := by
 have TABH_ := Am htab_
 clear htab_
 have hu23 := Tryz.underlying23
 have HB := Am (Below.refl w.heap.size w)
 have H : ((impl_isDial.f a0).bind fun t322 => (if t322 = true then (impl_ParseTime.j0 k a0 a1 (decide ((a1.size : Int) < 8))) else (impl_ParseTime.j0 k a0 a1 true))) = some (r1, r2, r3) := h
 clear h
 have HC3 := Am H
 clear H
 go_enter Tryz.func22, Tryz.ntmps22
 go_upto_region 1 with (first | ((with_reducible refine gate_dst (N := 4) rfl ?_); (try (refine gate_guard (by rfl) ?_; dsimp only)); refine bE 4 #[.int .i64 0, .int .i64 0] 23 ?_; intro gb321 hg w4 hbox hb; have hv := vK HB hb; have n0_ := Am (bT hv hb); have n1_ := Am (hbox); have GW321 := kG hg hv; have GE321 := kG hg hv; clear HB; have HB := n0_; have BK321 := n1_; clear n0_ n1_ hv; clear hb hbox hg))
 (try simp only [Act.put, List.setIfInBounds_toArray, List.set_cons_zero, List.set_cons_succ])
 go_cut [31] (fun v31 wc => ∃ (kq : Nat) (x31_2 : Bool), v31 = .bool x31_2 ∧ Aside0 (impl_ParseTime.j0 kq a0 a1 x31_2 = some (r1, r2, r3)) ∧ Aside0 (kq ≤ k) ∧ Aside0 (wc.heap[gb321]? = some (.cells #[.int .i64 0, .int .i64 0] 23 (0, 0))) ∧ Aside0 (Below w.heap.size w wc))
 case first =>
  have H := HC3.out
  clear HC3
  replace H := Option.bind_eq_some_iff.mp H
  obtain ⟨t322, A50, H⟩ := H
  try dsimp only at H
  have A5 := Am A50
  clear A50
  by_cases c6 : t322 = true
  ·subst c6
   have H1 : (impl_ParseTime.j0 k a0 a1 (decide ((a1.size : Int) < 8))) = some (r1, r2, r3) := by rw [if_pos rfl] at H; exact H
   clear H
   have H := H1
   clear H1
   focus
    have H' := Am H
    clear H
    go_wp2_with (first | ((with_reducible refine gate_callee (f := 46) rfl ?_); refine gL (some 25) Tryz.func46 #[.int .i64 a0] rfl ?_; (with_reducible refine (impl_isDial.calls a0 true _ A5.out).mono ?_); rintro e w' ⟨rfl, ⟨nd, rfl⟩⟩; refine ⟨_, rfl, ?_⟩))
    go_meet
    case rel => exact ⟨_, (decide ((a1.size : Int) < 8)), (by first | rfl | (simp; done) | (simp [*]; done)), H', ⟨by first | omega | exact Nat.le_refl _⟩, kV BK321, ⟨by repeat (first | (with_reducible first | exact HB.out | apply bA | apply bN | apply bD | refine bX ?_ (by assumption)) | exact HB.out)⟩⟩
  replace c6 := Bool.eq_false_iff.mpr c6
  subst c6
  have H1 : (impl_ParseTime.j0 k a0 a1 true) = some (r1, r2, r3) := by rw [if_neg (show ¬ (false = true) by decide)] at H; exact H
  clear H
  have H := H1
  clear H1
  focus
   have H' := Am H
   clear H
   go_wp2_with (first | ((with_reducible refine gate_callee (f := 46) rfl ?_); refine gL (some 25) Tryz.func46 #[.int .i64 a0] rfl ?_; (with_reducible refine (impl_isDial.calls a0 false _ A5.out).mono ?_); rintro e w' ⟨rfl, ⟨nd, rfl⟩⟩; refine ⟨_, rfl, ?_⟩))
   go_meet
   case rel => exact ⟨_, (true), (by first | rfl | (simp; done) | (simp [*]; done)), H', ⟨by first | omega | exact Nat.le_refl _⟩, kV BK321, ⟨by repeat (first | (with_reducible first | exact HB.out | apply bA | apply bN | apply bD | refine bX ?_ (by assumption)) | exact HB.out)⟩⟩
 clear HC3
 obtain ⟨kq, x31_2, rfl, HA, HJ2, BK321, HB⟩ := hcut
 cases kq with
 | zero => exact absurd HA.out (by simp [impl_ParseTime.j0])
 | succ kj2 =>
  have H := HA.out
  clear HA
  simp only [impl_ParseTime.j0] at H
  by_cases c7 : x31_2 = true
  ·subst c7
   have H1 : (some (0, 0, false)) = some (r1, r2, r3) := by rw [if_pos rfl] at H; exact H
   clear H
   have H := H1
   clear H1
   focus
    simp only [Option.some.injEq, Prod.mk.injEq] at H
    obtain ⟨rfl, rfl, rfl⟩ := H
    have zq8 := zc2 BK321
    go_wp2
    refine bodyPost_ret (results_ct rfl _ _ gb321 23 #[.int .i64 0, .int .i64 0] (0, 0) _ rfl (by (with_reducible repeat (first | refine kN ?_ _ | refine kD ?_ | refine kA ?_ _)); refine kP (cs := #[.int .i64 0, .int .i64 0]) ?_ 1 _ rfl; (with_reducible repeat (first | refine kN ?_ _ | refine kD ?_ | refine kA ?_ _)); refine kP (cs := #[.int .i64 0, .int .i64 0]) ?_ 0 _ rfl; (with_reducible repeat (first | refine kN ?_ _ | refine kD ?_ | refine kA ?_ _)); exact BK321.out) Tryz.underlying23 rfl (by kernel_rfl)) rfl ?_
    exact ⟨by first | rfl | (simp [errW_none, errW_some] <;> rfl) | (simp [*, errW_none, errW_some] <;> rfl), by repeat (first | (with_reducible first | exact HB.out | apply bA | apply bN | apply bD | refine bX ?_ (by assumption)) | exact HB.out)⟩
  replace c7 := Bool.eq_false_iff.mpr c7
  subst c7
  have H1 : (if 8 ≤ (a1.size : Int) then (if (a1.extract 8 a1.size).toList = ([] : List UInt8) then (impl_ParseTime.j1 kj2 a0 a1 0 1) else (if 1 ≤ ((a1.extract 8 a1.size).size : Int) then ((strings_Cut.f ((a1.extract 8 a1.size).extract 1 (a1.extract 8 a1.size).size) (⟨#[47]⟩ : ByteArray)).bind fun bt323 => ((impl_readNumber.f bt323.1 1000000).bind fun bt326 => ((impl_readNumber.f bt323.2.1 1000000).bind fun bt328 => (if bt326.2 = true then (if bt328.2 = true then (if bt328.1 = 0 then (some (0, 0, false)) else (impl_ParseTime.j1 kj2 a0 a1 bt326.1 bt328.1)) else (some (0, 0, false))) else (some (0, 0, false)))))) else (none))) else (none)) = some (r1, r2, r3) := by rw [if_neg (show ¬ (false = true) by decide)] at H; exact H
  clear H
  have H := H1
  clear H1
  by_cases c9 : 8 ≤ (a1.size : Int)
  ·rw [if_pos c9] at H
   have c9b0 := eq_true c9
   have c9b1 : decide (8 ≤ (a1.size : Int)) = true := decide_eq_true c9
   clear c9
   have HC10 := Am H
   clear H
   go_upto_if 36 with (fail)
   go_cut [6, 7] (fun v6 v7 wc => ∃ (kq : Nat) (x6_9 : Int) (x7_9 : Int) (x322000_9 : Int) (x322001_9 : Int), v6 = .int .i64 x6_9 ∧ v7 = .int .i64 x7_9 ∧ Aside0 (impl_ParseTime.j1 kq a0 a1 x6_9 x7_9 = some (r1, r2, r3)) ∧ Aside0 (kq ≤ kj2) ∧ Aside0 (wc.heap[gb321]? = some (.cells #[.int .i64 x322000_9, .int .i64 x322001_9] 23 (0, 0))) ∧ Aside0 (Below w.heap.size w wc))
   case first =>
    have H := HC10.out
    clear HC10
    by_cases c11 : (a1.extract 8 a1.size).toList = ([] : List UInt8)
    ·rw [if_pos c11] at H
     have c11b0 : ((a1.extract 8 a1.size).toList == ([] : List UInt8)) = true := beq_iff_eq.mpr c11
     have c11b9 : ((a1.extract 8 a1.size)).toList.isEmpty = true := by rw [c11]; rfl
     have c11b1 : ((a1.extract 8 a1.size).toList != ([] : List UInt8)) = false := bne_eq_false_iff_eq.mpr c11
     clear c11
     (try rw [c11b9])
     (first | rw [c11b0] | (simp only [i64_w, i32_w]; rw [c11b0]) | skip)
     focus
      have H' := Am H
      clear H
      go_wp2
      go_meet
      case rel => exact ⟨_, (0), (1), (0), (0), (by first | rfl | (simp; done) | (simp [*]; done)), (by first | rfl | (simp; done) | (simp [*]; done)), H', ⟨by have := HJ2.out; first | omega | exact Nat.le_refl _⟩, kV BK321, ⟨by repeat (first | (with_reducible first | exact HB.out | apply bA | apply bN | apply bD | refine bX ?_ (by assumption)) | exact HB.out)⟩⟩
    rw [if_neg c11] at H
    have c11b0 : ((a1.extract 8 a1.size).toList == ([] : List UInt8)) = false := beq_eq_false_iff_ne.mpr c11
    have c11b9 : ((a1.extract 8 a1.size)).toList.isEmpty = false := by (cases h_ : ((a1.extract 8 a1.size)).toList with | nil => exact absurd h_ c11 | cons _ _ => rfl)
    have c11b1 : ((a1.extract 8 a1.size).toList != ([] : List UInt8)) = true := bne_iff_ne.mpr c11
    (try rw [c11b9])
    (first | rw [c11b0] | (simp only [i64_w, i32_w]; rw [c11b0]) | skip)
    by_cases c12 : 1 ≤ ((a1.extract 8 a1.size).size : Int)
    ·rw [if_pos c12] at H
     have c12b0 := eq_true c12
     have c12b7 : (1 ≤ ((a1.size - 8 : Nat) : Int)) = True := by have h_ := c12; rw [ext8 a1] at h_; exact eq_true h_
     have c12b8 : (((a1.size - 8 : Nat) : Int) < 1) = False := by have h_ := c12; rw [ext8 a1] at h_; exact eq_false (Int.not_lt.2 h_)
     have c12b1 : decide (1 ≤ ((a1.extract 8 a1.size).size : Int)) = true := decide_eq_true c12
     clear c12
     replace H := Option.bind_eq_some_iff.mp H
     obtain ⟨⟨t323, t324, t325⟩, A130, H⟩ := H
     try dsimp only at H
     have A13 := Am A130
     clear A130
     replace H := Option.bind_eq_some_iff.mp H
     obtain ⟨⟨t326, t327⟩, A140, H⟩ := H
     try dsimp only at H
     have A14 := Am A140
     clear A140
     replace H := Option.bind_eq_some_iff.mp H
     obtain ⟨⟨t328, t329⟩, A150, H⟩ := H
     try dsimp only at H
     have A15 := Am A150
     clear A150
     by_cases c16 : t327 = true
     ·subst c16
      have H1 : (if t329 = true then (if t328 = 0 then (some (0, 0, false)) else (impl_ParseTime.j1 kj2 a0 a1 t326 t328)) else (some (0, 0, false))) = some (r1, r2, r3) := by rw [if_pos rfl] at H; exact H
      clear H
      have H := H1
      clear H1
      by_cases c17 : t329 = true
      ·subst c17
       have H1 : (if t328 = 0 then (some (0, 0, false)) else (impl_ParseTime.j1 kj2 a0 a1 t326 t328)) = some (r1, r2, r3) := by rw [if_pos rfl] at H; exact H
       clear H
       have H := H1
       clear H1
       by_cases c18 : t328 = 0
       ·rw [if_pos c18] at H
        have c18b0 : (t328 == 0) = true := beq_iff_eq.mpr c18
        have c18b1 : (t328 != 0) = false := bne_eq_false_iff_eq.mpr c18
        clear c18
        focus
         simp only [Option.some.injEq, Prod.mk.injEq] at H
         obtain ⟨rfl, rfl, rfl⟩ := H
         go_wp2_with (first | ((with_reducible refine gate_callee (f := 47) rfl ?_); refine gL (some 40) Tryz.func47 #[.string ((a1.extract 8 a1.size).extract 1 (a1.size - 8)), .string (⟨#[47]⟩ : ByteArray)] rfl ?_; (with_reducible refine (strings_Cut.calls ((a1.extract 8 a1.size).extract 1 (a1.size - 8)) (⟨#[47]⟩ : ByteArray) t323 t324 t325 _ (by have h_ := A13.out; rw [ext8 a1] at h_; exact h_)).mono ?_); rintro e w19 ⟨rfl, hb⟩; refine ⟨_, rfl, ?_⟩; have hp0 := pA BK321 hb; have hv := vK HB hb; have n1_ := Am (bT hv hb); clear HB; replace BK321 := hp0 BK321; have HB := n1_; clear n1_ hp0 hv; (try clear hb)) | ((with_reducible refine gate_callee (f := 48) rfl ?_); refine gL (some 46) Tryz.func48 #[.string t323, .int .i64 1000000] rfl ?_; (with_reducible refine (impl_readNumber.calls t323 1000000 t326 true _ (tabs_stay TABH_.out (show Below w.heap.size w _ from by repeat (first | (with_reducible first | exact HB.out | apply bA | apply bN | apply bD | refine bX ?_ (by assumption)) | exact HB.out))) A14.out).mono ?_); rintro e w20 ⟨rfl, hb⟩; refine ⟨_, rfl, ?_⟩; have hp0 := pA BK321 hb; have hv := vK HB hb; have n1_ := Am (bT hv hb); clear HB; replace BK321 := hp0 BK321; have HB := n1_; clear n1_ hp0 hv; (try clear hb)) | ((with_reducible refine gate_callee (f := 48) rfl ?_); refine gL (some 51) Tryz.func48 #[.string t324, .int .i64 1000000] rfl ?_; (with_reducible refine (impl_readNumber.calls t324 1000000 t328 true _ (tabs_stay TABH_.out (show Below w.heap.size w _ from by repeat (first | (with_reducible first | exact HB.out | apply bA | apply bN | apply bD | refine bX ?_ (by assumption)) | exact HB.out))) A15.out).mono ?_); rintro e w21 ⟨rfl, hb⟩; refine ⟨_, rfl, ?_⟩; have hp0 := pA BK321 hb; have hv := vK HB hb; have n1_ := Am (bT hv hb); clear HB; replace BK321 := hp0 BK321; have HB := n1_; clear n1_ hp0 hv; (try clear hb); have zq22 := zc2 BK321))
         refine bodyPost_ret (results_ct rfl _ _ gb321 23 #[.int .i64 0, .int .i64 0] (0, 0) _ rfl (by (with_reducible repeat (first | refine kN ?_ _ | refine kD ?_ | refine kA ?_ _)); refine kP (cs := #[.int .i64 0, .int .i64 0]) ?_ 1 _ rfl; (with_reducible repeat (first | refine kN ?_ _ | refine kD ?_ | refine kA ?_ _)); refine kP (cs := #[.int .i64 0, .int .i64 0]) ?_ 0 _ rfl; (with_reducible repeat (first | refine kN ?_ _ | refine kD ?_ | refine kA ?_ _)); exact BK321.out) Tryz.underlying23 rfl (by kernel_rfl)) rfl ?_
         exact ⟨by first | rfl | (simp [errW_none, errW_some] <;> rfl) | (simp [*, errW_none, errW_some] <;> rfl), by repeat (first | (with_reducible first | exact HB.out | apply bA | apply bN | apply bD | refine bX ?_ (by assumption)) | exact HB.out)⟩
       rw [if_neg c18] at H
       have c18b0 : (t328 == 0) = false := beq_eq_false_iff_ne.mpr c18
       have c18b1 : (t328 != 0) = true := bne_iff_ne.mpr c18
       focus
        have H' := Am H
        clear H
        go_wp2_with (first | ((with_reducible refine gate_callee (f := 47) rfl ?_); refine gL (some 40) Tryz.func47 #[.string ((a1.extract 8 a1.size).extract 1 (a1.size - 8)), .string (⟨#[47]⟩ : ByteArray)] rfl ?_; (with_reducible refine (strings_Cut.calls ((a1.extract 8 a1.size).extract 1 (a1.size - 8)) (⟨#[47]⟩ : ByteArray) t323 t324 t325 _ (by have h_ := A13.out; rw [ext8 a1] at h_; exact h_)).mono ?_); rintro e w23 ⟨rfl, hb⟩; refine ⟨_, rfl, ?_⟩; have hp0 := pA BK321 hb; have hv := vK HB hb; have n1_ := Am (bT hv hb); clear HB; replace BK321 := hp0 BK321; have HB := n1_; clear n1_ hp0 hv; (try clear hb)) | ((with_reducible refine gate_callee (f := 48) rfl ?_); refine gL (some 46) Tryz.func48 #[.string t323, .int .i64 1000000] rfl ?_; (with_reducible refine (impl_readNumber.calls t323 1000000 t326 true _ (tabs_stay TABH_.out (show Below w.heap.size w _ from by repeat (first | (with_reducible first | exact HB.out | apply bA | apply bN | apply bD | refine bX ?_ (by assumption)) | exact HB.out))) A14.out).mono ?_); rintro e w24 ⟨rfl, hb⟩; refine ⟨_, rfl, ?_⟩; have hp0 := pA BK321 hb; have hv := vK HB hb; have n1_ := Am (bT hv hb); clear HB; replace BK321 := hp0 BK321; have HB := n1_; clear n1_ hp0 hv; (try clear hb)) | ((with_reducible refine gate_callee (f := 48) rfl ?_); refine gL (some 51) Tryz.func48 #[.string t324, .int .i64 1000000] rfl ?_; (with_reducible refine (impl_readNumber.calls t324 1000000 t328 true _ (tabs_stay TABH_.out (show Below w.heap.size w _ from by repeat (first | (with_reducible first | exact HB.out | apply bA | apply bN | apply bD | refine bX ?_ (by assumption)) | exact HB.out))) A15.out).mono ?_); rintro e w25 ⟨rfl, hb⟩; refine ⟨_, rfl, ?_⟩; have hp0 := pA BK321 hb; have hv := vK HB hb; have n1_ := Am (bT hv hb); clear HB; replace BK321 := hp0 BK321; have HB := n1_; clear n1_ hp0 hv; (try clear hb)))
        go_meet
        case rel => exact ⟨_, (t326), (t328), (0), (0), (by first | rfl | (simp; done) | (simp [*]; done)), (by first | rfl | (simp; done) | (simp [*]; done)), H', ⟨by have := HJ2.out; first | omega | exact Nat.le_refl _⟩, kV BK321, ⟨by repeat (first | (with_reducible first | exact HB.out | apply bA | apply bN | apply bD | refine bX ?_ (by assumption)) | exact HB.out)⟩⟩
      replace c17 := Bool.eq_false_iff.mpr c17
      subst c17
      have H1 : (some (0, 0, false)) = some (r1, r2, r3) := by rw [if_neg (show ¬ (false = true) by decide)] at H; exact H
      clear H
      have H := H1
      clear H1
      focus
       simp only [Option.some.injEq, Prod.mk.injEq] at H
       obtain ⟨rfl, rfl, rfl⟩ := H
       go_wp2_with (first | ((with_reducible refine gate_callee (f := 47) rfl ?_); refine gL (some 40) Tryz.func47 #[.string ((a1.extract 8 a1.size).extract 1 (a1.size - 8)), .string (⟨#[47]⟩ : ByteArray)] rfl ?_; (with_reducible refine (strings_Cut.calls ((a1.extract 8 a1.size).extract 1 (a1.size - 8)) (⟨#[47]⟩ : ByteArray) t323 t324 t325 _ (by have h_ := A13.out; rw [ext8 a1] at h_; exact h_)).mono ?_); rintro e w26 ⟨rfl, hb⟩; refine ⟨_, rfl, ?_⟩; have hp0 := pA BK321 hb; have hv := vK HB hb; have n1_ := Am (bT hv hb); clear HB; replace BK321 := hp0 BK321; have HB := n1_; clear n1_ hp0 hv; (try clear hb)) | ((with_reducible refine gate_callee (f := 48) rfl ?_); refine gL (some 46) Tryz.func48 #[.string t323, .int .i64 1000000] rfl ?_; (with_reducible refine (impl_readNumber.calls t323 1000000 t326 true _ (tabs_stay TABH_.out (show Below w.heap.size w _ from by repeat (first | (with_reducible first | exact HB.out | apply bA | apply bN | apply bD | refine bX ?_ (by assumption)) | exact HB.out))) A14.out).mono ?_); rintro e w27 ⟨rfl, hb⟩; refine ⟨_, rfl, ?_⟩; have hp0 := pA BK321 hb; have hv := vK HB hb; have n1_ := Am (bT hv hb); clear HB; replace BK321 := hp0 BK321; have HB := n1_; clear n1_ hp0 hv; (try clear hb)) | ((with_reducible refine gate_callee (f := 48) rfl ?_); refine gL (some 51) Tryz.func48 #[.string t324, .int .i64 1000000] rfl ?_; (with_reducible refine (impl_readNumber.calls t324 1000000 t328 false _ (tabs_stay TABH_.out (show Below w.heap.size w _ from by repeat (first | (with_reducible first | exact HB.out | apply bA | apply bN | apply bD | refine bX ?_ (by assumption)) | exact HB.out))) A15.out).mono ?_); rintro e w28 ⟨rfl, hb⟩; refine ⟨_, rfl, ?_⟩; have hp0 := pA BK321 hb; have hv := vK HB hb; have n1_ := Am (bT hv hb); clear HB; replace BK321 := hp0 BK321; have HB := n1_; clear n1_ hp0 hv; (try clear hb); have zq29 := zc2 BK321))
       refine bodyPost_ret (results_ct rfl _ _ gb321 23 #[.int .i64 0, .int .i64 0] (0, 0) _ rfl (by (with_reducible repeat (first | refine kN ?_ _ | refine kD ?_ | refine kA ?_ _)); refine kP (cs := #[.int .i64 0, .int .i64 0]) ?_ 1 _ rfl; (with_reducible repeat (first | refine kN ?_ _ | refine kD ?_ | refine kA ?_ _)); refine kP (cs := #[.int .i64 0, .int .i64 0]) ?_ 0 _ rfl; (with_reducible repeat (first | refine kN ?_ _ | refine kD ?_ | refine kA ?_ _)); exact BK321.out) Tryz.underlying23 rfl (by kernel_rfl)) rfl ?_
       exact ⟨by first | rfl | (simp [errW_none, errW_some] <;> rfl) | (simp [*, errW_none, errW_some] <;> rfl), by repeat (first | (with_reducible first | exact HB.out | apply bA | apply bN | apply bD | refine bX ?_ (by assumption)) | exact HB.out)⟩
     replace c16 := Bool.eq_false_iff.mpr c16
     subst c16
     have H1 : (some (0, 0, false)) = some (r1, r2, r3) := by rw [if_neg (show ¬ (false = true) by decide)] at H; exact H
     clear H
     have H := H1
     clear H1
     focus
      simp only [Option.some.injEq, Prod.mk.injEq] at H
      obtain ⟨rfl, rfl, rfl⟩ := H
      go_wp2_with (first | ((with_reducible refine gate_callee (f := 47) rfl ?_); refine gL (some 40) Tryz.func47 #[.string ((a1.extract 8 a1.size).extract 1 (a1.size - 8)), .string (⟨#[47]⟩ : ByteArray)] rfl ?_; (with_reducible refine (strings_Cut.calls ((a1.extract 8 a1.size).extract 1 (a1.size - 8)) (⟨#[47]⟩ : ByteArray) t323 t324 t325 _ (by have h_ := A13.out; rw [ext8 a1] at h_; exact h_)).mono ?_); rintro e w30 ⟨rfl, hb⟩; refine ⟨_, rfl, ?_⟩; have hp0 := pA BK321 hb; have hv := vK HB hb; have n1_ := Am (bT hv hb); clear HB; replace BK321 := hp0 BK321; have HB := n1_; clear n1_ hp0 hv; (try clear hb)) | ((with_reducible refine gate_callee (f := 48) rfl ?_); refine gL (some 46) Tryz.func48 #[.string t323, .int .i64 1000000] rfl ?_; (with_reducible refine (impl_readNumber.calls t323 1000000 t326 false _ (tabs_stay TABH_.out (show Below w.heap.size w _ from by repeat (first | (with_reducible first | exact HB.out | apply bA | apply bN | apply bD | refine bX ?_ (by assumption)) | exact HB.out))) A14.out).mono ?_); rintro e w31 ⟨rfl, hb⟩; refine ⟨_, rfl, ?_⟩; have hp0 := pA BK321 hb; have hv := vK HB hb; have n1_ := Am (bT hv hb); clear HB; replace BK321 := hp0 BK321; have HB := n1_; clear n1_ hp0 hv; (try clear hb)) | ((with_reducible refine gate_callee (f := 48) rfl ?_); refine gL (some 51) Tryz.func48 #[.string t324, .int .i64 1000000] rfl ?_; (with_reducible refine (impl_readNumber.calls t324 1000000 t328 t329 _ (tabs_stay TABH_.out (show Below w.heap.size w _ from by repeat (first | (with_reducible first | exact HB.out | apply bA | apply bN | apply bD | refine bX ?_ (by assumption)) | exact HB.out))) A15.out).mono ?_); rintro e w32 ⟨rfl, hb⟩; refine ⟨_, rfl, ?_⟩; have hp0 := pA BK321 hb; have hv := vK HB hb; have n1_ := Am (bT hv hb); clear HB; replace BK321 := hp0 BK321; have HB := n1_; clear n1_ hp0 hv; (try clear hb); have zq33 := zc2 BK321))
      refine bodyPost_ret (results_ct rfl _ _ gb321 23 #[.int .i64 0, .int .i64 0] (0, 0) _ rfl (by (with_reducible repeat (first | refine kN ?_ _ | refine kD ?_ | refine kA ?_ _)); refine kP (cs := #[.int .i64 0, .int .i64 0]) ?_ 1 _ rfl; (with_reducible repeat (first | refine kN ?_ _ | refine kD ?_ | refine kA ?_ _)); refine kP (cs := #[.int .i64 0, .int .i64 0]) ?_ 0 _ rfl; (with_reducible repeat (first | refine kN ?_ _ | refine kD ?_ | refine kA ?_ _)); exact BK321.out) Tryz.underlying23 rfl (by kernel_rfl)) rfl ?_
      exact ⟨by first | rfl | (simp [errW_none, errW_some] <;> rfl) | (simp [*, errW_none, errW_some] <;> rfl), by repeat (first | (with_reducible first | exact HB.out | apply bA | apply bN | apply bD | refine bX ?_ (by assumption)) | exact HB.out)⟩
    rw [if_neg c12] at H
    exact absurd H (by simp)
   clear HC10
   (try clear c7); (try clear c9); (try clear c9b0); (try clear c9b1)
   obtain ⟨kq, x6_9, x7_9, x322000_9, x322001_9, rfl, rfl, HA, HJ9, BK321, HB⟩ := hcut
   cases kq with
   | zero => exact absurd HA.out (by simp [impl_ParseTime.j1])
   | succ kj9 =>
    have H := HA.out
    clear HA
    simp only [impl_ParseTime.j1] at H
    obtain ⟨y330, hy330⟩ : ∃ y_ : List Int, y_ = (([] : List Int)) := ⟨_, rfl⟩
    replace H : (if 0 ≤ 2 then (if 2 ≤ (a1.size : Int) then (if 3 ≤ 5 then (if 5 ≤ (a1.size : Int) then (if 6 ≤ 8 then (if 8 ≤ (a1.size : Int) then ((some (([a1.extract 0 2, a1.extract 3 5, a1.extract 6 8] : List ByteArray) : List ByteArray)).bind fun y333 => (impl_ParseTime.l0 kj9 a0 a1 x6_9 x7_9 y330 y333 (y333.length : Int) 0)) else (none)) else (none)) else (none)) else (none)) else (none)) else (none)) = some (r1, r2, r3) := by first | (rw [hy330]; with_reducible exact H) | (have H2_ := (Option.bind_some _ _).symm.trans H; rw [hy330]; with_reducible exact H2_) | (have H2_ := (Option.bind_some _ _).symm.trans H; with_reducible exact H2_) | with_reducible exact H | (rw [hy330]; exact H) | exact H
    have Ny330 := Am hy330
    clear hy330
    by_cases c34 : 0 ≤ 2
    ·rw [if_pos c34] at H
     have c34b0 := eq_true c34
     have c34b1 : decide (0 ≤ 2) = true := decide_eq_true c34
     clear c34
     by_cases c35 : 2 ≤ (a1.size : Int)
     ·rw [if_pos c35] at H
      have c35b0 := eq_true c35
      have c35b1 : decide (2 ≤ (a1.size : Int)) = true := decide_eq_true c35
      clear c35
      by_cases c36 : 3 ≤ 5
      ·rw [if_pos c36] at H
       have c36b0 := eq_true c36
       have c36b1 : decide (3 ≤ 5) = true := decide_eq_true c36
       clear c36
       by_cases c37 : 5 ≤ (a1.size : Int)
       ·rw [if_pos c37] at H
        have c37b0 := eq_true c37
        have c37b1 : decide (5 ≤ (a1.size : Int)) = true := decide_eq_true c37
        clear c37
        by_cases c38 : 6 ≤ 8
        ·rw [if_pos c38] at H
         have c38b0 := eq_true c38
         have c38b1 : decide (6 ≤ 8) = true := decide_eq_true c38
         clear c38
         by_cases c39 : 8 ≤ (a1.size : Int)
         ·rw [if_pos c39] at H
          have c39b0 := eq_true c39
          have c39b1 : decide (8 ≤ (a1.size : Int)) = true := decide_eq_true c39
          clear c39
          obtain ⟨y333, hy333⟩ : ∃ y_ : List ByteArray, y_ = (([a1.extract 0 2, a1.extract 3 5, a1.extract 6 8] : List ByteArray)) := ⟨_, rfl⟩
          replace H : (impl_ParseTime.l0 kj9 a0 a1 x6_9 x7_9 y330 y333 (y333.length : Int) 0) = some (r1, r2, r3) := by first | (rw [hy333]; with_reducible exact H) | (have H2_ := (Option.bind_some _ _).symm.trans H; rw [hy333]; with_reducible exact H2_) | (have H2_ := (Option.bind_some _ _).symm.trans H; with_reducible exact H2_) | with_reducible exact H | (rw [hy333]; exact H) | exact H
          have Ny333 := Am hy333
          clear hy333
          have H' := Am H
          clear H
          try go_wp2_with (first | ((with_reducible refine gate_dst (N := 67) rfl ?_); (try (refine gate_guard (by rfl) ?_; dsimp only)); refine Kd.R_lit (Kd.int .i64) _ 3 ?hg (N := 67) ?hd (xs := ([] : List Int)) (inner := []) (ok := fun _ => True) (okp := fun _ => True) ?hr ?hp (fun _ hk => hk) trivial (Below.refl _ _) (Nat.le_refl _) (by simp) ?_; (case hd => rfl); (case hg => rfl); (case hr => first | (go_simp; done) | (go_simp; rfl)); (case hp => exact (Reps.none _ _)); intro v331 w40 ho41 hb hg_ hnew_; clear hg_ hnew_; (first | rw [← Ny330.out] at ho41 | (simp only [Int.reduceToNat] at ho41; rw [← Ny330.out] at ho41)); have n0_ := Am (Kd.R_lower ho41 (bZ (by repeat (first | (with_reducible first | exact HB.out | apply bA | apply bN | apply bD | refine bX ?_ (by assumption)) | exact HB.out)))); have hp0 := pA BK321 hb; have hv := vK HB hb; have n2_ := Am (bT hv hb); clear HB; have HO332 := n0_; replace BK321 := hp0 BK321; have HB := n2_; clear n0_ n2_ hp0 hv; clear hb ho41))
          have n0_ := Am (Kd.R_drew HO332.out)
          have n1_ := Am (kD BK321.out)
          have n2_ := Am (bD HB.out)
          clear HO332 BK321 HB
          have HO332 := n0_; have BK321 := n1_; have HB := n2_
          clear n0_ n1_ n2_
          refine start_ (n := 9) (S := fun w' => True) (ds := []) (pT 9 0) (by kernel_rfl) rfl rfl trivial (fun hHeld => ?_); refine with_tabW impl_ParseTime.tab13 impl_ParseTime.bits13 (fun HT_ HW_ => ?_)
          generalize w40.drew = w42 at HO332 BK321 HB hHeld ⊢
          iterate 6
           refine pI (v := ?_) (a' := ?_) rfl (any_of HT_.out (by kernel_rfl)) (fun _ _ _ h => h) (Or.inl ⟨by rfl, ?_⟩) ?_ ?_
           rotate_left
           ·intro w'
            go_simp
            with_reducible rfl
           rotate_left
           ·show Act.put _ (some _) _ = _
            simp only [Act.put, List.setIfInBounds_toArray, List.set_cons_zero, List.set_cons_succ, i64_w, i32_w]
            rfl
          refine pure_ (i := 8) (N := some 76) (v := ?_) (a' := ?_) #[true, true, true, true, true, true, false, false, true] rfl rfl (any_of HT_.out (by kernel_rfl)) (fun _ _ _ h => h) (Or.inl ⟨by rfl, ?_⟩) ?_ ?_
          rotate_left
          ·intro w'
           go_simp
           with_reducible rfl
          rotate_left
          ·simp only [Act.put, List.setIfInBounds_toArray, List.set_cons_zero, List.set_cons_succ, i64_w, i32_w]
           rfl
          refine one_ (i := 6) (N := some 74) #[true, true, true, true, true, true, true, false, true] rfl rfl (one_of HT_.out (by kernel_rfl)) (by decide) (fun K hK => ?_)
          refine Kd.R_lit_step Kd.string _ 9 ?hg (N := 74) ?hd (xs := ([a1.extract 0 2, a1.extract 3 5, a1.extract 6 8] : List ByteArray)) (inner := [.string (a1.extract 0 2), .string (a1.extract 3 5), .string (a1.extract 6 8)]) (ok := fun _ => True) (okp := fun _ => True) ?hr ?hp (fun _ hk => hk) trivial (Below.refl _ _) (Nat.le_refl _) (by simp) ?_; (case hd => rfl); (case hg => rfl); (case hr => first | (go_simp; done) | (go_simp; rfl)); (case hp => exact (Reps.one (show Kd.M Kd.string _ _ _ (a1.extract 0 2) [.string (a1.extract 0 2)] from rfl) (Reps.one (show Kd.M Kd.string _ _ _ (a1.extract 3 5) [.string (a1.extract 3 5)] from rfl) (Reps.one (show Kd.M Kd.string _ _ _ (a1.extract 6 8) [.string (a1.extract 6 8)] from rfl) (Reps.none _ _)))))
          intro v334 w43 ho44 hb hg_ hnew_
          clear hg_ hnew_
          (first | rw [← Ny333.out] at ho44 | (simp only [Int.reduceToNat] at ho44; rw [← Ny333.out] at ho44))
          have n0_ := Am (Kd.R_below (kW HO332) hb)
          have n1_ := Am (Kd.R_lower ho44 (bZ (by repeat (first | (with_reducible first | exact HB.out | apply bA | apply bN | apply bD | refine bX ?_ (by assumption)) | exact HB.out))))
          have hp0 := pA BK321 hb
          have hv := vK HB hb
          have n3_ := Am (bT hv hb)
          clear HO332 HB
          have HO332 := n0_; have HO335 := n1_
          replace BK321 := hp0 BK321
          have HB := n3_
          clear n0_ n1_ n3_ hp0 hv hb ho44
          obtain ⟨Ao45, co45, eo45⟩ := Kd.R_slice HO335.out
          (first | subst eo45 | (injection eo45 with f1_ f2_ f3_; have f4_ := f1_.symm; have f5_ := f3_.symm; clear f1_ f2_ f3_; subst f4_; subst f5_))
          refine hK.out _ _ trivial (fun hHeld => ?_)
          clear hK K
          refine norm_ (a' := ?_) ?_ ?_
          rotate_left
          ·show Act.put _ (some 74) _ = _
           simp only [Act.put, List.setIfInBounds_toArray, List.set_cons_zero, List.set_cons_succ, i64_w, i32_w]
           rfl
          refine pure_ (i := 7) (N := some 75) (v := ?_) (a' := ?_) (pT 9 9) rfl rfl (any_of HT_.out (by kernel_rfl)) (fun _ _ _ h => h) (Or.inl ⟨by rfl, ?_⟩) ?_ ?_
          rotate_left
          ·intro w'
           go_simp
           with_reducible rfl
          rotate_left
          ·simp only [Act.put, List.setIfInBounds_toArray, List.set_cons_zero, List.set_cons_succ, i64_w, i32_w]
           rfl
          refine done_ (done_of HT_.out (by kernel_rfl)) ?_
          try go_wp2
          go_loopg [16, 76] kj9 (fun kq v16 v76 w' => ∃ (x16_3 : List Int) (x76_3 : Int) (x322000_3 : Int) (x322001_3 : Int), v76 = .int .i64 x76_3 ∧ Aside0 (impl_ParseTime.l0 kq a0 a1 x6_9 x7_9 x16_3 y333 (y333.length : Int) x76_3 = some (r1, r2, r3)) ∧ Aside0 (kq ≤ kj9) ∧ Aside0 (Kd.R (Kd.int .i64) 3 w' w.heap.size (fun _ => True) v16 x16_3) ∧ Aside0 (Kd.R Kd.string 9 w' w.heap.size (fun _ => True) (.slice Ao45 y333.length co45) y333) ∧ Aside0 (w'.heap[gb321]? = some (.cells #[.int .i64 x322000_3, .int .i64 x322001_3] 23 (0, 0))) ∧ Aside0 (Below w.heap.size w w'))
          case atStart => exact ⟨(y330), (0), (x322000_9), (x322001_9), (by first | rfl | (simp; done) | (simp [*]; done)), H', ⟨Nat.le_refl _⟩, ⟨kW HO332⟩, ⟨kW HO335⟩, kV BK321, ⟨by repeat (first | (with_reducible first | exact HB.out | apply bA | apply bN | apply bD | refine bX ?_ (by assumption)) | exact HB.out)⟩⟩
          case round =>
           clear H'
           (try clear c7); (try clear c9); (try clear c9b0); (try clear c9b1); (try clear c34); (try clear c34b0); (try clear c34b1); (try clear c35); (try clear c35b0); (try clear c35b1); (try clear c36); (try clear c36b0); (try clear c36b1); (try clear c37); (try clear c37b0); (try clear c37b1); (try clear c38); (try clear c38b0); (try clear c38b1); (try clear c39); (try clear c39b0); (try clear c39b1)
           obtain ⟨x16_3, x76_3, x322000_3, x322001_3, rfl, HA, HK3, HO_16, HO_74, BK321, HB⟩ := hrel
           cases gk with
           | zero => exact absurd HA.out (by simp [impl_ParseTime.l0])
           | succ k3 =>
            have H := HA.out
            clear HA
            simp only [impl_ParseTime.l0] at H
            by_cases c46 : x76_3 < (y333.length : Int)
            ·rw [if_pos c46] at H
             have c46b0 : decide (x76_3 < (y333.length : Int)) = true := decide_eq_true c46
             clear c46
             by_cases c47 : 0 ≤ x76_3
             ·rw [if_pos c47] at H
              have c47b0 : decide (0 ≤ x76_3) = true := decide_eq_true c47
              clear c47
              by_cases c48 : x76_3 < (y333.length : Int)
              ·rw [if_pos c48] at H
               have c48b0 : decide (x76_3 < (y333.length : Int)) = true := decide_eq_true c48
               clear c48
               replace H := Option.bind_eq_some_iff.mp H
               obtain ⟨⟨t337, t338⟩, A490, H⟩ := H
               try dsimp only at H
               have A49 := Am A490
               clear A490
               by_cases c50 : t338 = true
               ·subst c50
                have H1 : (some (0, 0, false)) = some (r1, r2, r3) := by rw [if_pos rfl] at H; exact H
                clear H
                have H := H1
                clear H1
                focus
                 simp only [Option.some.injEq, Prod.mk.injEq] at H
                 obtain ⟨rfl, rfl, rfl⟩ := H
                 have p336 : 0 ≤ (x76_3 : Int) := of_decide_eq_true (by first | (with_reducible assumption) | assumption)
                 have q336 : x76_3 < (y333.length : Int) := of_decide_eq_true (by first | (with_reducible assumption) | assumption)
                 obtain ⟨ad336, e336, hx336_0⟩ := Kd.at_string (Kd.R_reads' HO_74.out).2.2 x76_3 p336 q336
                 cases e336
                 replace p336 := eq_true p336
                 replace q336 := eq_true q336
                 go_wp2_with (first | ((with_reducible refine gate_callee (f := 49) rfl ?_); refine gL (some 82) Tryz.func49 #[.string (rdOf ByteArray.empty y333 x76_3)] rfl ?_; (with_reducible refine (strconv_Atoi_49.calls (rdOf ByteArray.empty y333 x76_3) t337 true _ (tabs_stay TABH_.out (show Below w.heap.size w _ from by repeat (first | (with_reducible first | exact HB.out | apply bA | apply bN | apply bD | refine bX ?_ (by assumption)) | exact HB.out))) A49.out).mono ?_); rintro e w51 ⟨q_, rfl, hb⟩; refine ⟨_, rfl, ?_⟩; have n0_ := Am (Kd.R_below (kW HO_16) hb); have n1_ := Am (Kd.R_below (kW HO_74) hb); have hp0 := pA BK321 hb; have hv := vK HB hb; have n3_ := Am (bT hv hb); clear HO_16; clear HO_74; clear HB; have HO_16 := n0_; have HO_74 := n1_; replace BK321 := hp0 BK321; have HB := n3_; clear n0_ n1_ n3_ hp0 hv; (try clear hb); have zq52 := zc2 BK321))
                 refine bodyPost_ret (results_ct rfl _ _ gb321 23 #[.int .i64 0, .int .i64 0] (0, 0) _ rfl (by (with_reducible repeat (first | refine kN ?_ _ | refine kD ?_ | refine kA ?_ _)); refine kP (cs := #[.int .i64 0, .int .i64 x322001_3]) ?_ 1 _ rfl; (with_reducible repeat (first | refine kN ?_ _ | refine kD ?_ | refine kA ?_ _)); refine kP (cs := #[.int .i64 x322000_3, .int .i64 x322001_3]) ?_ 0 _ rfl; (with_reducible repeat (first | refine kN ?_ _ | refine kD ?_ | refine kA ?_ _)); exact BK321.out) Tryz.underlying23 rfl (by kernel_rfl)) rfl ?_
                 exact ⟨by first | rfl | (simp [errW_none, errW_some] <;> rfl) | (simp [*, errW_none, errW_some] <;> rfl), by repeat (first | (with_reducible first | exact HB.out | apply bA | apply bN | apply bD | refine bX ?_ (by assumption)) | exact HB.out)⟩
               replace c50 := Bool.eq_false_iff.mpr c50
               subst c50
               have H1 : (if x16_3.length < 17592186044416 then (impl_ParseTime.l0 k3 a0 a1 x6_9 x7_9 (x16_3 ++ [t337]) y333 (y333.length : Int) (wrap64 (x76_3 + 1))) else (none)) = some (r1, r2, r3) := by rw [if_neg (show ¬ (false = true) by decide)] at H; exact H
               clear H
               have H := H1
               clear H1
               by_cases c53 : x16_3.length < 17592186044416
               ·rw [if_pos c53] at H
                have LMc53 := Am c53
                clear c53
                obtain ⟨y339, hy339⟩ : ∃ y_ : List Int, y_ = (x16_3 ++ [t337]) := ⟨_, rfl⟩
                replace H : (impl_ParseTime.l0 k3 a0 a1 x6_9 x7_9 y339 y333 (y333.length : Int) (wrap64 (x76_3 + 1))) = some (r1, r2, r3) := by first | (rw [hy339]; with_reducible exact H) | (have H2_ := (Option.bind_some _ _).symm.trans H; rw [hy339]; with_reducible exact H2_) | (have H2_ := (Option.bind_some _ _).symm.trans H; with_reducible exact H2_) | with_reducible exact H | (rw [hy339]; exact H) | exact H
                have Ny339 := Am hy339
                clear hy339
                focus
                 have H' := Am H
                 clear H
                 have p336 : 0 ≤ (x76_3 : Int) := of_decide_eq_true (by first | (with_reducible assumption) | assumption)
                 have q336 : x76_3 < (y333.length : Int) := of_decide_eq_true (by first | (with_reducible assumption) | assumption)
                 obtain ⟨ad336, e336, hx336_0⟩ := Kd.at_string (Kd.R_reads' HO_74.out).2.2 x76_3 p336 q336
                 cases e336
                 replace p336 := eq_true p336
                 replace q336 := eq_true q336
                 go_wp2_with (first | ((with_reducible refine gate_callee (f := 49) rfl ?_); refine gL (some 82) Tryz.func49 #[.string (rdOf ByteArray.empty y333 x76_3)] rfl ?_; (with_reducible refine (strconv_Atoi_49.calls (rdOf ByteArray.empty y333 x76_3) t337 false _ (tabs_stay TABH_.out (show Below w.heap.size w _ from by repeat (first | (with_reducible first | exact HB.out | apply bA | apply bN | apply bD | refine bX ?_ (by assumption)) | exact HB.out))) A49.out).mono ?_); rintro e w54 ⟨q_, rfl, hb⟩; refine ⟨_, rfl, ?_⟩; have n0_ := Am (Kd.R_below (kW HO_16) hb); have n1_ := Am (Kd.R_below (kW HO_74) hb); have hp0 := pA BK321 hb; have hv := vK HB hb; have n3_ := Am (bT hv hb); clear HO_16; clear HO_74; clear HB; have HO_16 := n0_; have HO_74 := n1_; replace BK321 := hp0 BK321; have HB := n3_; clear n0_ n1_ n3_ hp0 hv; (try clear hb)) | ((with_reducible refine gate_builtin (b := .append) (xs := #[.tmp 88, .tmp 90]) rfl ?_); (try (refine gate_guard (by rfl) ?_; dsimp only)); at_builtin; refine Kd.R_append (Kd.int .i64) (w0 := w) w.heap.size rfl (.tmp 88) (.tmp 90) 60 3 (.int .i64 0) 8 rfl Tryz.underlying60 info3 rfl (by decide) (by omega) u16 x16_3 t337 [.int .i64 t337] (fun _ => True) (fun _ => False) rfl rfl ?aP (fun _ hk => hk.elim) ?aF ?aO ?aB ?aS ?aL ?_; (case aP => exact rfl); (case aB => exact (by repeat (first | (with_reducible first | exact HB.out | apply bA | apply bN | apply bD | refine bX ?_ (by assumption)) | exact HB.out))); (case aF => exact (fun _ _ => trivial)); (case aO => exact (kW HO_16)); (case aS => exact (bZ (by repeat (first | (with_reducible first | exact HB.out | apply bA | apply bN | apply bD | refine bX ?_ (by assumption)) | exact HB.out)))); (case aL => have := LMc53.out; omega); intro v340 w55 ho hb hg hat; rw [← Ny339.out] at ho; have n0_ := Am (Kd.R_over' (kW HO_74) (Kd.R_typed (kW HO_16)) (by decide) hg); have n1_ := Am (blk_grown (g := gb321) (o := .cells #[.int .i64 x322000_3, .int .i64 x322001_3] 23 (0, 0)) (kU BK321) hg (Kd.R_ne HO_16.out BK321.out (by decide))); have n2_ := Am (hb); have n3_ := Am (ho); clear HO_74; clear BK321; clear HB; clear HO_16; have HO_74 := n0_; have BK321 := n1_; have HB := n2_; have HO341 := n3_; clear n0_ n1_ n2_ n3_; clear ho hb hg hat))
                 go_roundg k3
                 case measure => have := HJ2.out; have := HJ9.out; have := HK3.out; omega
                 case rel => exact ⟨(y339), (wrap64 (x76_3 + 1)), (x322000_3), (x322001_3), (by first | rfl | (simp; done) | (simp [*]; done)), H', ⟨by have := HJ2.out; have := HJ9.out; have := HK3.out; omega⟩, ⟨kW HO341⟩, ⟨kW HO_74⟩, kV BK321, ⟨by repeat (first | (with_reducible first | exact HB.out | apply bA | apply bN | apply bD | refine bX ?_ (by assumption)) | exact HB.out)⟩⟩
               rw [if_neg c53] at H
               exact absurd H (by simp)
              rw [if_neg c48] at H
              exact absurd H (by simp)
             rw [if_neg c47] at H
             exact absurd H (by simp)
            rw [if_neg c46] at H
            have c46b0 : decide (x76_3 < (y333.length : Int)) = false := decide_eq_false c46
            clear c46
            have HC56 := Am H
            clear H
            go_upto_region 21 with (fail)
            go_cut [113] (fun v113 wc => ∃ (kq : Nat) (x113_55 : Bool), v113 = .bool x113_55 ∧ Aside0 (impl_ParseTime.j3 kq a0 a1 x6_9 x7_9 x16_3 x113_55 = some (r1, r2, r3)) ∧ Aside0 (kq ≤ k3) ∧ Aside0 (Kd.R (Kd.int .i64) 3 wc w.heap.size (fun _ => True) u16 x16_3) ∧ Aside0 (wc.heap[gb321]? = some (.cells #[.int .i64 x322000_3, .int .i64 x322001_3] 23 (0, 0))) ∧ Aside0 (Below w.heap.size w wc))
            case first =>
             have H := HC56.out
             clear HC56
             by_cases c57 : 0 < (x16_3.length : Int)
             ·rw [if_pos c57] at H
              have c57b0 : decide (0 < (x16_3.length : Int)) = true := decide_eq_true c57
              have c57b1 : decide (0 < x16_3.length) = true := decide_eq_true (by omega)
              clear c57
              (first | rw [c57b0] | (simp only [i64_w, i32_w]; rw [c57b0]) | skip)
              replace H := Option.bind_eq_some_iff.mp H
              obtain ⟨t343, A580, H⟩ := H
              try dsimp only at H
              have A58 := Am A580
              clear A580
              by_cases c59 : t343 = true
              ·subst c59
               have H1 : (if 1 < (x16_3.length : Int) then ((impl_within.f (rd x16_3 1) 0 59).bind fun t345 => (if t345 = true then (if 2 < (x16_3.length : Int) then ((impl_within.f (rd x16_3 2) 0 59).bind fun t347 => (impl_ParseTime.j3 k3 a0 a1 x6_9 x7_9 x16_3 (!t347))) else (none)) else (impl_ParseTime.j3 k3 a0 a1 x6_9 x7_9 x16_3 true))) else (none)) = some (r1, r2, r3) := by rw [if_pos rfl] at H; exact H
               clear H
               have H := H1
               clear H1
               by_cases c60 : 1 < (x16_3.length : Int)
               ·rw [if_pos c60] at H
                have c60b0 : decide (1 < (x16_3.length : Int)) = true := decide_eq_true c60
                have c60b1 : decide (1 < x16_3.length) = true := decide_eq_true (by omega)
                clear c60
                replace H := Option.bind_eq_some_iff.mp H
                obtain ⟨t345, A610, H⟩ := H
                try dsimp only at H
                have A61 := Am A610
                clear A610
                by_cases c62 : t345 = true
                ·subst c62
                 have H1 : (if 2 < (x16_3.length : Int) then ((impl_within.f (rd x16_3 2) 0 59).bind fun t347 => (impl_ParseTime.j3 k3 a0 a1 x6_9 x7_9 x16_3 (!t347))) else (none)) = some (r1, r2, r3) := by rw [if_pos rfl] at H; exact H
                 clear H
                 have H := H1
                 clear H1
                 by_cases c63 : 2 < (x16_3.length : Int)
                 ·rw [if_pos c63] at H
                  have c63b0 : decide (2 < (x16_3.length : Int)) = true := decide_eq_true c63
                  have c63b1 : decide (2 < x16_3.length) = true := decide_eq_true (by omega)
                  clear c63
                  replace H := Option.bind_eq_some_iff.mp H
                  obtain ⟨t347, A640, H⟩ := H
                  try dsimp only at H
                  have A64 := Am A640
                  clear A640
                  focus
                   have H' := Am H
                   clear H
                   obtain ⟨Ao65, co65, eo65⟩ := Kd.R_slice HO_16.out
                   subst eo65
                   have p342 : 0 ≤ (0 : Int) := (by omega)
                   have q342 : 0 < (x16_3.length : Int) := of_decide_eq_true (by first | (with_reducible assumption) | assumption)
                   obtain ⟨ad342, e342, hx342_0⟩ := Kd.at_int (Kd.R_reads' HO_16.out).2.2 0 p342 q342
                   cases e342
                   have qi342 : (0 < x16_3.length) = True := eq_true (by omega)
                   (try rw [show ((0 : Int)).toNat = 0 from rfl] at hx342_0)
                   (try rw [Addr.add_zero'] at hx342_0)
                   replace p342 := eq_true p342
                   replace q342 := eq_true q342
                   go_wp2_with (first | ((with_reducible refine gate_callee (f := 50) rfl ?_); refine gL (some 98) Tryz.func50 #[.int .i64 (rd x16_3 0), .int .i64 0, .int .i64 (wrap64 (a0 - 1))] rfl ?_; (with_reducible refine (impl_within.calls (rd x16_3 0) 0 (wrap64 (a0 - 1)) true _ A58.out).mono ?_); rintro e w' ⟨rfl, ⟨nd, rfl⟩⟩; refine ⟨_, rfl, ?_⟩; have p344 : 0 ≤ (1 : Int) := (by omega); have q344 : 1 < (x16_3.length : Int) := of_decide_eq_true (by first | (with_reducible assumption) | assumption); obtain ⟨ad344, e344, hx344_0⟩ := Kd.at_int (Kd.R_reads' HO_16.out).2.2 1 p344 q344; obtain rfl : ad342 = ad344 := (by injection e344); (try simp only [show (1 : Int).toNat = 1 from rfl, Nat.reduceMul, Nat.reduceEqDiff, Go.Addr.add, ↓reduceIte] at hx344_0); have qi344 : (1 < x16_3.length) = True := eq_true (by omega); (try rw [show ((1 : Int)).toNat = 1 from rfl] at hx344_0); replace p344 := eq_true p344; replace q344 := eq_true q344) | (go_at_call 50; (with_reducible refine (impl_within.calls (rd x16_3 1) 0 59 true _ A61.out).mono ?_); rintro e w' ⟨rfl, ⟨nd, rfl⟩⟩; have p346 : 0 ≤ (2 : Int) := (by omega); have q346 : 2 < (x16_3.length : Int) := of_decide_eq_true (by first | (with_reducible assumption) | assumption); obtain ⟨ad346, e346, hx346_0⟩ := Kd.at_int (Kd.R_reads' HO_16.out).2.2 2 p346 q346; obtain rfl : ad342 = ad346 := (by injection e346); (try simp only [show (2 : Int).toNat = 2 from rfl, Nat.reduceMul, Nat.reduceEqDiff, Go.Addr.add, ↓reduceIte] at hx346_0); have qi346 : (2 < x16_3.length) = True := eq_true (by omega); (try rw [show ((2 : Int)).toNat = 2 from rfl] at hx346_0); replace p346 := eq_true p346; replace q346 := eq_true q346) | (go_at_call 50; (with_reducible refine (impl_within.calls (rd x16_3 2) 0 59 t347 _ A64.out).mono ?_); rintro e w' ⟨rfl, ⟨nd, rfl⟩⟩))
                   go_meet
                   case rel => exact ⟨_, (!t347), (by first | rfl | (simp; done) | (simp [*]; done)), H', ⟨by have := HJ2.out; have := HJ9.out; have := HK3.out; first | omega | exact Nat.le_refl _⟩, ⟨kW HO_16⟩, kV BK321, ⟨by repeat (first | (with_reducible first | exact HB.out | apply bA | apply bN | apply bD | refine bX ?_ (by assumption)) | exact HB.out)⟩⟩
                 rw [if_neg c63] at H
                 exact absurd H (by simp)
                replace c62 := Bool.eq_false_iff.mpr c62
                subst c62
                have H1 : (impl_ParseTime.j3 k3 a0 a1 x6_9 x7_9 x16_3 true) = some (r1, r2, r3) := by rw [if_neg (show ¬ (false = true) by decide)] at H; exact H
                clear H
                have H := H1
                clear H1
                focus
                 have H' := Am H
                 clear H
                 obtain ⟨Ao66, co66, eo66⟩ := Kd.R_slice HO_16.out
                 subst eo66
                 have p342 : 0 ≤ (0 : Int) := (by omega)
                 have q342 : 0 < (x16_3.length : Int) := of_decide_eq_true (by first | (with_reducible assumption) | assumption)
                 obtain ⟨ad342, e342, hx342_0⟩ := Kd.at_int (Kd.R_reads' HO_16.out).2.2 0 p342 q342
                 cases e342
                 have qi342 : (0 < x16_3.length) = True := eq_true (by omega)
                 (try rw [show ((0 : Int)).toNat = 0 from rfl] at hx342_0)
                 (try rw [Addr.add_zero'] at hx342_0)
                 replace p342 := eq_true p342
                 replace q342 := eq_true q342
                 go_wp2_with (first | ((with_reducible refine gate_callee (f := 50) rfl ?_); refine gL (some 98) Tryz.func50 #[.int .i64 (rd x16_3 0), .int .i64 0, .int .i64 (wrap64 (a0 - 1))] rfl ?_; (with_reducible refine (impl_within.calls (rd x16_3 0) 0 (wrap64 (a0 - 1)) true _ A58.out).mono ?_); rintro e w' ⟨rfl, ⟨nd, rfl⟩⟩; refine ⟨_, rfl, ?_⟩; have p344 : 0 ≤ (1 : Int) := (by omega); have q344 : 1 < (x16_3.length : Int) := of_decide_eq_true (by first | (with_reducible assumption) | assumption); obtain ⟨ad344, e344, hx344_0⟩ := Kd.at_int (Kd.R_reads' HO_16.out).2.2 1 p344 q344; obtain rfl : ad342 = ad344 := (by injection e344); (try simp only [show (1 : Int).toNat = 1 from rfl, Nat.reduceMul, Nat.reduceEqDiff, Go.Addr.add, ↓reduceIte] at hx344_0); have qi344 : (1 < x16_3.length) = True := eq_true (by omega); (try rw [show ((1 : Int)).toNat = 1 from rfl] at hx344_0); replace p344 := eq_true p344; replace q344 := eq_true q344) | (go_at_call 50; (with_reducible refine (impl_within.calls (rd x16_3 1) 0 59 false _ A61.out).mono ?_); rintro e w' ⟨rfl, ⟨nd, rfl⟩⟩))
                 go_meet
                 case rel => exact ⟨_, (true), (by first | rfl | (simp; done) | (simp [*]; done)), H', ⟨by have := HJ2.out; have := HJ9.out; have := HK3.out; first | omega | exact Nat.le_refl _⟩, ⟨kW HO_16⟩, kV BK321, ⟨by repeat (first | (with_reducible first | exact HB.out | apply bA | apply bN | apply bD | refine bX ?_ (by assumption)) | exact HB.out)⟩⟩
               rw [if_neg c60] at H
               exact absurd H (by simp)
              replace c59 := Bool.eq_false_iff.mpr c59
              subst c59
              have H1 : (impl_ParseTime.j3 k3 a0 a1 x6_9 x7_9 x16_3 true) = some (r1, r2, r3) := by rw [if_neg (show ¬ (false = true) by decide)] at H; exact H
              clear H
              have H := H1
              clear H1
              focus
               have H' := Am H
               clear H
               obtain ⟨Ao67, co67, eo67⟩ := Kd.R_slice HO_16.out
               subst eo67
               have p342 : 0 ≤ (0 : Int) := (by omega)
               have q342 : 0 < (x16_3.length : Int) := of_decide_eq_true (by first | (with_reducible assumption) | assumption)
               obtain ⟨ad342, e342, hx342_0⟩ := Kd.at_int (Kd.R_reads' HO_16.out).2.2 0 p342 q342
               cases e342
               have qi342 : (0 < x16_3.length) = True := eq_true (by omega)
               (try rw [show ((0 : Int)).toNat = 0 from rfl] at hx342_0)
               (try rw [Addr.add_zero'] at hx342_0)
               replace p342 := eq_true p342
               replace q342 := eq_true q342
               go_wp2_with (first | ((with_reducible refine gate_callee (f := 50) rfl ?_); refine gL (some 98) Tryz.func50 #[.int .i64 (rd x16_3 0), .int .i64 0, .int .i64 (wrap64 (a0 - 1))] rfl ?_; (with_reducible refine (impl_within.calls (rd x16_3 0) 0 (wrap64 (a0 - 1)) false _ A58.out).mono ?_); rintro e w' ⟨rfl, ⟨nd, rfl⟩⟩; refine ⟨_, rfl, ?_⟩))
               go_meet
               case rel => exact ⟨_, (true), (by first | rfl | (simp; done) | (simp [*]; done)), H', ⟨by have := HJ2.out; have := HJ9.out; have := HK3.out; first | omega | exact Nat.le_refl _⟩, ⟨kW HO_16⟩, kV BK321, ⟨by repeat (first | (with_reducible first | exact HB.out | apply bA | apply bN | apply bD | refine bX ?_ (by assumption)) | exact HB.out)⟩⟩
             rw [if_neg c57] at H
             exact absurd H (by simp)
            clear HC56
            (try clear c7); (try clear c9); (try clear c9b0); (try clear c9b1); (try clear c34); (try clear c34b0); (try clear c34b1); (try clear c35); (try clear c35b0); (try clear c35b1); (try clear c36); (try clear c36b0); (try clear c36b1); (try clear c37); (try clear c37b0); (try clear c37b1); (try clear c38); (try clear c38b0); (try clear c38b1); (try clear c39); (try clear c39b0); (try clear c39b1); (try clear c46); (try clear c46b0)
            obtain ⟨kq, x113_55, rfl, HA, HJ55, HO_16, BK321, HB⟩ := hcut
            cases kq with
            | zero => exact absurd HA.out (by simp [impl_ParseTime.j3])
            | succ kj55 =>
             have H := HA.out
             clear HA
             simp only [impl_ParseTime.j3] at H
             by_cases c68 : x113_55 = true
             ·subst c68
              have H1 : (some (0, 0, false)) = some (r1, r2, r3) := by rw [if_pos rfl] at H; exact H
              clear H
              have H := H1
              clear H1
              focus
               simp only [Option.some.injEq, Prod.mk.injEq] at H
               obtain ⟨rfl, rfl, rfl⟩ := H
               have zq69 := zc2 BK321
               go_wp2
               refine bodyPost_ret (results_ct rfl _ _ gb321 23 #[.int .i64 0, .int .i64 0] (0, 0) _ rfl (by (with_reducible repeat (first | refine kN ?_ _ | refine kD ?_ | refine kA ?_ _)); refine kP (cs := #[.int .i64 0, .int .i64 x322001_3]) ?_ 1 _ rfl; (with_reducible repeat (first | refine kN ?_ _ | refine kD ?_ | refine kA ?_ _)); refine kP (cs := #[.int .i64 x322000_3, .int .i64 x322001_3]) ?_ 0 _ rfl; (with_reducible repeat (first | refine kN ?_ _ | refine kD ?_ | refine kA ?_ _)); exact BK321.out) Tryz.underlying23 rfl (by kernel_rfl)) rfl ?_
               exact ⟨by first | rfl | (simp [errW_none, errW_some] <;> rfl) | (simp [*, errW_none, errW_some] <;> rfl), by repeat (first | (with_reducible first | exact HB.out | apply bA | apply bN | apply bD | refine bX ?_ (by assumption)) | exact HB.out)⟩
             replace c68 := Bool.eq_false_iff.mpr c68
             subst c68
             have H1 : (if 0 < (x16_3.length : Int) then (if 1 < (x16_3.length : Int) then (if 2 < (x16_3.length : Int) then ((impl_part.f kj55 (wrap64 ((wrap64 ((wrap64 ((wrap64 ((wrap64 ((rd x16_3 0) * 3600)) + (wrap64 ((rd x16_3 1) * 60)))) + (rd x16_3 2))) * x7_9)) + x6_9)) (wrap64 ((wrap64 (a0 * 3600)) * x7_9))).bind fun bt351 => ((impl_TimeText.f kj55 a0 bt351.1 bt351.2).bind fun bt354 => (if bt354.2 = true then (if bt354.1.toList = a1.toList then (some (bt351.1, bt351.2, true)) else (some (0, 0, false))) else (some (0, 0, false))))) else (none)) else (none)) else (none)) = some (r1, r2, r3) := by rw [if_neg (show ¬ (false = true) by decide)] at H; exact H
             clear H
             have H := H1
             clear H1
             by_cases c70 : 0 < (x16_3.length : Int)
             ·rw [if_pos c70] at H
              have c70b0 : decide (0 < (x16_3.length : Int)) = true := decide_eq_true c70
              have c70b1 : decide (0 < x16_3.length) = true := decide_eq_true (by omega)
              clear c70
              by_cases c71 : 1 < (x16_3.length : Int)
              ·rw [if_pos c71] at H
               have c71b0 : decide (1 < (x16_3.length : Int)) = true := decide_eq_true c71
               have c71b1 : decide (1 < x16_3.length) = true := decide_eq_true (by omega)
               clear c71
               by_cases c72 : 2 < (x16_3.length : Int)
               ·rw [if_pos c72] at H
                have c72b0 : decide (2 < (x16_3.length : Int)) = true := decide_eq_true c72
                have c72b1 : decide (2 < x16_3.length) = true := decide_eq_true (by omega)
                clear c72
                replace H := Option.bind_eq_some_iff.mp H
                obtain ⟨⟨t351, t352⟩, A730, H⟩ := H
                try dsimp only at H
                have A73 := Am A730
                clear A730
                replace H := Option.bind_eq_some_iff.mp H
                obtain ⟨⟨t354, t355⟩, A740, H⟩ := H
                try dsimp only at H
                have A74 := Am A740
                clear A740
                by_cases c75 : t355 = true
                ·subst c75
                 have H1 : (if t354.toList = a1.toList then (some (t351, t352, true)) else (some (0, 0, false))) = some (r1, r2, r3) := by rw [if_pos rfl] at H; exact H
                 clear H
                 have H := H1
                 clear H1
                 by_cases c76 : t354.toList = a1.toList
                 ·rw [if_pos c76] at H
                  have c76b0 : (t354.toList == a1.toList) = true := beq_iff_eq.mpr c76
                  have c76b1 : (t354.toList != a1.toList) = false := bne_eq_false_iff_eq.mpr c76
                  clear c76
                  focus
                   simp only [Option.some.injEq, Prod.mk.injEq] at H
                   obtain ⟨rfl, rfl, rfl⟩ := H
                   try go_wp2
                   have n0_ := Am (Kd.R_drew HO_16.out)
                   have n1_ := Am (kD BK321.out)
                   have n2_ := Am (bD HB.out)
                   clear HO_16 BK321 HB
                   have HO_16 := n0_; have BK321 := n1_; have HB := n2_
                   clear n0_ n1_ n2_
                   obtain ⟨Ao78, co78, eo78⟩ := Kd.R_slice HO_16.out
                   (first | subst eo78 | (injection eo78 with f1_ f2_ f3_; have f4_ := f1_.symm; have f5_ := f3_.symm; clear f1_ f2_ f3_; subst f4_; subst f5_))
                   have p348 : 0 ≤ (0 : Int) := (by omega)
                   have q348 : 0 < (x16_3.length : Int) := of_decide_eq_true (by first | (with_reducible assumption) | assumption)
                   obtain ⟨ad348, e348, hx348_0⟩ := Kd.at_int (Kd.R_reads' HO_16.out).2.2 0 p348 q348
                   cases e348
                   have qi348 : (0 < x16_3.length) = True := eq_true (by omega)
                   (try rw [show ((0 : Int)).toNat = 0 from rfl] at hx348_0)
                   (try rw [Addr.add_zero'] at hx348_0)
                   replace p348 := eq_true p348
                   replace q348 := eq_true q348
                   have p349 : 0 ≤ (1 : Int) := (by omega)
                   have q349 : 1 < (x16_3.length : Int) := of_decide_eq_true (by first | (with_reducible assumption) | assumption)
                   obtain ⟨ad349, e349, hx349_0⟩ := Kd.at_int (Kd.R_reads' HO_16.out).2.2 1 p349 q349
                   obtain rfl : ad348 = ad349 := (by injection e349)
                   (try simp only [show (1 : Int).toNat = 1 from rfl, Nat.reduceMul, Nat.reduceEqDiff, Go.Addr.add, ↓reduceIte] at hx349_0)
                   have qi349 : (1 < x16_3.length) = True := eq_true (by omega)
                   (try rw [show ((1 : Int)).toNat = 1 from rfl] at hx349_0)
                   replace p349 := eq_true p349
                   replace q349 := eq_true q349
                   have p350 : 0 ≤ (2 : Int) := (by omega)
                   have q350 : 2 < (x16_3.length : Int) := of_decide_eq_true (by first | (with_reducible assumption) | assumption)
                   obtain ⟨ad350, e350, hx350_0⟩ := Kd.at_int (Kd.R_reads' HO_16.out).2.2 2 p350 q350
                   obtain rfl : ad348 = ad350 := (by injection e350)
                   (try simp only [show (2 : Int).toNat = 2 from rfl, Nat.reduceMul, Nat.reduceEqDiff, Go.Addr.add, ↓reduceIte] at hx350_0)
                   have qi350 : (2 < x16_3.length) = True := eq_true (by omega)
                   (try rw [show ((2 : Int)).toNat = 2 from rfl] at hx350_0)
                   replace p350 := eq_true p350
                   replace q350 := eq_true q350
                   refine start_ (n := 24) (S := fun w' => w'.cell? ad348 = some (.int .i64 (rd x16_3 0)) ∧ w'.cell? ⟨ad348.block, ad348.off + 1, none⟩ = some (.int .i64 (rd x16_3 1)) ∧ w'.cell? ⟨ad348.block, ad348.off + 2, none⟩ = some (.int .i64 (rd x16_3 2))) (ds := []) (pT 24 0) (by kernel_rfl) rfl rfl ⟨hx348_0, hx349_0, hx350_0⟩ (fun hHeld => ?_); refine with_tabW impl_ParseTime.tab23 impl_ParseTime.bits23 (fun HT_ HW_ => ?_)
                   generalize wc.drew = w77 at HO_16 BK321 HB hx348_0 hx349_0 hx350_0 hHeld ⊢
                   iterate 2
                    refine pI (v := ?_) (a' := ?_) rfl (any_of HT_.out (by kernel_rfl)) (fun _ _ _ h => h) (Or.inl ⟨by rfl, ?_⟩) ?_ ?_
                    rotate_left
                    ·intro w'
                     go_simp
                     with_reducible rfl
                    rotate_left
                    ·show Act.put _ (some _) _ = _
                     simp only [Act.put, List.setIfInBounds_toArray, List.set_cons_zero, List.set_cons_succ, i64_w, i32_w]
                     rfl
                   refine pure_ (i := 4) (N := some 119) (v := ?_) (a' := ?_) #[true, true, false, false, true, false, false, false, false, false, false, false, false, false, false, false, false, false, false, false, false, false, false, false] rfl rfl (any_of HT_.out (by kernel_rfl)) (fun _ _ _ h => h) (Or.inl ⟨by rfl, ?_⟩) ?_ ?_
                   rotate_left
                   ·intro w'
                    go_simp
                    with_reducible rfl
                   rotate_left
                   ·simp only [Act.put, List.setIfInBounds_toArray, List.set_cons_zero, List.set_cons_succ, i64_w, i32_w]
                    rfl
                   refine pure_ (i := 5) (N := some 120) (v := ?_) (a' := ?_) #[true, true, false, false, true, true, false, false, false, false, false, false, false, false, false, false, false, false, false, false, false, false, false, false] rfl rfl (any_of HT_.out (by kernel_rfl)) (fun _ _ _ h => h) (Or.inl ⟨by rfl, ?_⟩) ?_ ?_
                   rotate_left
                   ·intro w'
                    go_simp
                    with_reducible rfl
                   rotate_left
                   ·simp only [Act.put, List.setIfInBounds_toArray, List.set_cons_zero, List.set_cons_succ, i64_w, i32_w]
                    rfl
                   refine pure_ (i := 9) (N := some 124) (v := ?_) (a' := ?_) #[true, true, false, false, true, true, false, false, false, true, false, false, false, false, false, false, false, false, false, false, false, false, false, false] rfl rfl (any_of HT_.out (by kernel_rfl)) (fun _ _ _ h => h) (Or.inl ⟨by rfl, ?_⟩) ?_ ?_
                   rotate_left
                   ·intro w'
                    go_simp
                    with_reducible rfl
                   rotate_left
                   ·simp only [Act.put, List.setIfInBounds_toArray, List.set_cons_zero, List.set_cons_succ, i64_w, i32_w]
                    rfl
                   refine pure_ (i := 10) (N := some 125) (v := ?_) (a' := ?_) #[true, true, false, false, true, true, false, false, false, true, true, false, false, false, false, false, false, false, false, false, false, false, false, false] rfl rfl (any_of HT_.out (by kernel_rfl)) (fun _ _ _ h => h) (Or.inl ⟨by rfl, ?_⟩) ?_ ?_
                   rotate_left
                   ·intro w'
                    go_simp
                    with_reducible rfl
                   rotate_left
                   ·simp only [Act.put, List.setIfInBounds_toArray, List.set_cons_zero, List.set_cons_succ, i64_w, i32_w]
                    rfl
                   refine pure_ (i := 13) (N := some 128) (v := ?_) (a' := ?_) #[true, true, false, false, true, true, false, false, false, true, true, false, false, true, false, false, false, false, false, false, false, false, false, false] rfl rfl (any_of HT_.out (by kernel_rfl)) (fun _ _ _ h => h) (Or.inl ⟨by rfl, ?_⟩) ?_ ?_
                   rotate_left
                   ·intro w'
                    go_simp
                    with_reducible rfl
                   rotate_left
                   ·simp only [Act.put, List.setIfInBounds_toArray, List.set_cons_zero, List.set_cons_succ, i64_w, i32_w]
                    rfl
                   refine pure_ (i := 15) (N := some 130) (v := ?_) (a' := ?_) #[true, true, false, false, true, true, false, false, false, true, true, false, false, true, false, true, false, false, false, false, false, false, false, false] rfl rfl (any_of HT_.out (by kernel_rfl)) (fun _ _ _ h => h) (Or.inl ⟨by rfl, ?_⟩) ?_ ?_
                   rotate_left
                   ·intro w'
                    go_simp
                    with_reducible rfl
                   rotate_left
                   ·simp only [Act.put, List.setIfInBounds_toArray, List.set_cons_zero, List.set_cons_succ, i64_w, i32_w]
                    rfl
                   refine pure_ (i := 17) (N := some 132) (v := ?_) (a' := ?_) #[true, true, false, false, true, true, false, false, false, true, true, false, false, true, false, true, false, true, false, false, false, false, false, false] rfl rfl (any_of HT_.out (by kernel_rfl)) (fun _ _ _ h => h) (Or.inl ⟨by rfl, ?_⟩) ?_ ?_
                   rotate_left
                   ·intro w'
                    go_simp
                    with_reducible rfl
                   rotate_left
                   ·simp only [Act.put, List.setIfInBounds_toArray, List.set_cons_zero, List.set_cons_succ, i64_w, i32_w]
                    rfl
                   refine pure_ (i := 18) (N := some 133) (v := ?_) (a' := ?_) #[true, true, false, false, true, true, false, false, false, true, true, false, false, true, false, true, false, true, true, false, false, false, false, false] rfl rfl (any_of HT_.out (by kernel_rfl)) (fun _ _ _ h => h) (Or.inl ⟨by rfl, ?_⟩) ?_ ?_
                   rotate_left
                   ·intro w'
                    go_simp
                    with_reducible rfl
                   rotate_left
                   ·simp only [Act.put, List.setIfInBounds_toArray, List.set_cons_zero, List.set_cons_succ, i64_w, i32_w]
                    rfl
                   refine pure_ (i := 19) (N := some 134) (v := ?_) (a' := ?_) #[true, true, false, false, true, true, false, false, false, true, true, false, false, true, false, true, false, true, true, true, false, false, false, false] rfl rfl (any_of HT_.out (by kernel_rfl)) (fun _ _ _ h => h) (Or.inl ⟨by rfl, ?_⟩) ?_ ?_
                   rotate_left
                   ·intro w'
                    go_simp
                    with_reducible rfl
                   rotate_left
                   ·simp only [Act.put, List.setIfInBounds_toArray, List.set_cons_zero, List.set_cons_succ, i64_w, i32_w]
                    rfl
                   refine pure_ (i := 20) (N := some 135) (v := ?_) (a' := ?_) #[true, true, false, false, true, true, false, false, false, true, true, false, false, true, false, true, false, true, true, true, true, false, false, false] rfl rfl (any_of HT_.out (by kernel_rfl)) (fun _ _ _ h => h) (Or.inl ⟨by rfl, ?_⟩) ?_ ?_
                   rotate_left
                   ·intro w'
                    go_simp
                    with_reducible rfl
                   rotate_left
                   ·simp only [Act.put, List.setIfInBounds_toArray, List.set_cons_zero, List.set_cons_succ, i64_w, i32_w]
                    rfl
                   refine take_ (i := 2) (N := some 117) (v := ?_) (a' := ?_) #[true, true, true, false, true, true, false, false, false, true, true, false, false, true, false, true, false, true, true, true, true, false, false, false] rfl rfl (take_ofW HT_.out HW_.out (by kernel_rfl)) (fun _ _ _ h => h) (Or.inl ⟨by rfl, ?_⟩) hHeld ?_ ?_
                   rotate_left
                   ·rintro w' ⟨s0, s1, s2⟩
                    go_simp
                    with_reducible rfl
                   rotate_left
                   ·simp only [Act.put, List.setIfInBounds_toArray, List.set_cons_zero, List.set_cons_succ, i64_w, i32_w]
                    rfl
                   refine pure_ (i := 3) (N := some 118) (v := ?_) (a' := ?_) #[true, true, true, true, true, true, false, false, false, true, true, false, false, true, false, true, false, true, true, true, true, false, false, false] rfl rfl (any_of HT_.out (by kernel_rfl)) (fun _ _ _ h => h) (Or.inl ⟨by rfl, ?_⟩) ?_ ?_
                   rotate_left
                   ·intro w'
                    go_simp
                    with_reducible rfl
                   rotate_left
                   ·simp only [Act.put, List.setIfInBounds_toArray, List.set_cons_zero, List.set_cons_succ, i64_w, i32_w]
                    rfl
                   refine take_ (i := 6) (N := some 121) (v := ?_) (a' := ?_) #[true, true, true, true, true, true, true, false, false, true, true, false, false, true, false, true, false, true, true, true, true, false, false, false] rfl rfl (take_ofW HT_.out HW_.out (by kernel_rfl)) (fun _ _ _ h => h) (Or.inl ⟨by rfl, ?_⟩) hHeld ?_ ?_
                   rotate_left
                   ·rintro w' ⟨s0, s1, s2⟩
                    go_simp
                    with_reducible rfl
                   rotate_left
                   ·simp only [Act.put, List.setIfInBounds_toArray, List.set_cons_zero, List.set_cons_succ, i64_w, i32_w]
                    rfl
                   refine pure_ (i := 7) (N := some 122) (v := ?_) (a' := ?_) #[true, true, true, true, true, true, true, true, false, true, true, false, false, true, false, true, false, true, true, true, true, false, false, false] rfl rfl (any_of HT_.out (by kernel_rfl)) (fun _ _ _ h => h) (Or.inl ⟨by rfl, ?_⟩) ?_ ?_
                   rotate_left
                   ·intro w'
                    go_simp
                    with_reducible rfl
                   rotate_left
                   ·simp only [Act.put, List.setIfInBounds_toArray, List.set_cons_zero, List.set_cons_succ, i64_w, i32_w]
                    rfl
                   refine pure_ (i := 8) (N := some 123) (v := ?_) (a' := ?_) #[true, true, true, true, true, true, true, true, true, true, true, false, false, true, false, true, false, true, true, true, true, false, false, false] rfl rfl (any_of HT_.out (by kernel_rfl)) (fun _ _ _ h => h) (Or.inl ⟨by rfl, ?_⟩) ?_ ?_
                   rotate_left
                   ·intro w'
                    go_simp
                    with_reducible rfl
                   rotate_left
                   ·simp only [Act.put, List.setIfInBounds_toArray, List.set_cons_zero, List.set_cons_succ, i64_w, i32_w]
                    rfl
                   refine take_ (i := 11) (N := some 126) (v := ?_) (a' := ?_) #[true, true, true, true, true, true, true, true, true, true, true, true, false, true, false, true, false, true, true, true, true, false, false, false] rfl rfl (take_ofW HT_.out HW_.out (by kernel_rfl)) (fun _ _ _ h => h) (Or.inl ⟨by rfl, ?_⟩) hHeld ?_ ?_
                   rotate_left
                   ·rintro w' ⟨s0, s1, s2⟩
                    go_simp
                    with_reducible rfl
                   rotate_left
                   ·simp only [Act.put, List.setIfInBounds_toArray, List.set_cons_zero, List.set_cons_succ, i64_w, i32_w]
                    rfl
                   refine pure_ (i := 12) (N := some 127) (v := ?_) (a' := ?_) #[true, true, true, true, true, true, true, true, true, true, true, true, true, true, false, true, false, true, true, true, true, false, false, false] rfl rfl (any_of HT_.out (by kernel_rfl)) (fun _ _ _ h => h) (Or.inl ⟨by rfl, ?_⟩) ?_ ?_
                   rotate_left
                   ·intro w'
                    go_simp
                    with_reducible rfl
                   rotate_left
                   ·simp only [Act.put, List.setIfInBounds_toArray, List.set_cons_zero, List.set_cons_succ, i64_w, i32_w]
                    rfl
                   refine pure_ (i := 14) (N := some 129) (v := ?_) (a' := ?_) #[true, true, true, true, true, true, true, true, true, true, true, true, true, true, true, true, false, true, true, true, true, false, false, false] rfl rfl (any_of HT_.out (by kernel_rfl)) (fun _ _ _ h => h) (Or.inl ⟨by rfl, ?_⟩) ?_ ?_
                   rotate_left
                   ·intro w'
                    go_simp
                    with_reducible rfl
                   rotate_left
                   ·simp only [Act.put, List.setIfInBounds_toArray, List.set_cons_zero, List.set_cons_succ, i64_w, i32_w]
                    rfl
                   refine pure_ (i := 16) (N := some 131) (v := ?_) (a' := ?_) (pT 24 21) rfl rfl (any_of HT_.out (by kernel_rfl)) (fun _ _ _ h => h) (Or.inl ⟨by rfl, ?_⟩) ?_ ?_
                   rotate_left
                   ·intro w'
                    go_simp
                    with_reducible rfl
                   rotate_left
                   ·simp only [Act.put, List.setIfInBounds_toArray, List.set_cons_zero, List.set_cons_succ, i64_w, i32_w]
                    rfl
                   refine join_ (σ := Nat) 1 (pT 24 23) (fun s_ => [(136, .agg #[.int .i64 t351, .int .i64 t352]), (21, .pointer (some ⟨s_, 0, none⟩))]) (fun s_ w' => (w'.cell? ad348 = some (.int .i64 (rd x16_3 0)) ∧ w'.cell? ⟨ad348.block, ad348.off + 1, none⟩ = some (.int .i64 (rd x16_3 1)) ∧ w'.cell? ⟨ad348.block, ad348.off + 2, none⟩ = some (.int .i64 (rd x16_3 2))) ∧ (Kd.R (Kd.int .i64) 3 w' w.heap.size (fun _ => True) (.slice (some ad348) x16_3.length co78) x16_3) ∧ (w'.heap[gb321]? = some (.cells #[.int .i64 x322000_3, .int .i64 x322001_3] 23 (0, 0))) ∧ (w'.heap[s_]? = some (.cells #[.int .i64 0, .int .i64 0] 23 (0, 0))) ∧ (w.heap.size ≤ s_) ∧ (w.heap.size ≤ s_) ∧ (gb321 ≠ s_) ∧ (s_ ≠ gb321) ∧ (Below w.heap.size w w')) ?_ ?_
                   rotate_left
                   ·intro hCont
                    refine two_ (i := 21) (j := 22) (Ni := some 136) (Nj := some 21) (pT 24 22) #[true, true, true, true, true, true, true, true, true, true, true, true, true, true, true, true, true, true, true, true, true, false, true, false] rfl rfl rfl rfl (two_of HT_.out (by kernel_rfl)) (by decide) (by decide) (fun K hK => ?_) (fun K hK => ?_)
                    ·skip
                     refine goes_ Tryz.func40 (by kernel_rfl) rfl #[.int .i64 (wrap64 ((wrap64 ((wrap64 ((wrap64 ((wrap64 ((rd x16_3 0) * 3600)) + (wrap64 ((rd x16_3 1) * 60)))) + (rd x16_3 2))) * x7_9)) + x6_9)), .int .i64 (wrap64 ((wrap64 (a0 * 3600)) * x7_9))] (by rfl) rfl rfl (by (try simp only [List.map_toArray, List.map_cons, List.map_nil]); first | done | rfl | (simp only [List.length_drop, List.length_take]; rfl)) ?_
                     with_reducible refine (impl_part.calls kj55 (wrap64 ((wrap64 ((wrap64 ((wrap64 ((wrap64 ((rd x16_3 0) * 3600)) + (wrap64 ((rd x16_3 1) * 60)))) + (rd x16_3 2))) * x7_9)) + x6_9)) (wrap64 ((wrap64 (a0 * 3600)) * x7_9)) t351 t352 _ A73.out).mono ?_
                     rintro e w79 ⟨rfl, hb⟩
                     have HS0_ := (hb.cell (World.block_lt_of_cell? _ _ (hHeld.1))).trans (hHeld.1)
                     have HS1_ := (hb.cell (World.block_lt_of_cell? _ _ (hHeld.2.1))).trans (hHeld.2.1)
                     have HS2_ := (hb.cell (World.block_lt_of_cell? _ _ (hHeld.2.2))).trans (hHeld.2.2)
                     refine ⟨_, rfl, ?_⟩
                     have n0_ := Am (Kd.R_below (kW HO_16) hb)
                     have hp0 := pA BK321 hb
                     have hv := vK HB hb
                     have n2_ := Am (bT hv hb)
                     clear HO_16 HB
                     have HO_16 := n0_
                     replace BK321 := hp0 BK321
                     have HB := n2_
                     clear n0_ n2_ hp0 hv
                     (try clear hb)
                     refine hK.out _ _ ⟨HS0_, HS1_, HS2_⟩ (fun hHeld => ?_)
                     clear hK K
                     refine norm_ (a' := ?_) ?_ ?_
                     rotate_left
                     ·show Act.put _ (some 136) _ = _
                      simp only [Act.put, List.setIfInBounds_toArray, List.set_cons_zero, List.set_cons_succ, i64_w, i32_w]
                      rfl
                     refine one_ (i := 22) (N := some 21) (pT 24 23) rfl rfl (one_of HT_.out (by kernel_rfl)) (by decide) (fun K hK => ?_)
                     refine box_step ?hg (N := 21) ?hd (cs := #[.int .i64 0, .int .i64 0]) (t := 23) ?hr ?_; (case hd => rfl); (case hg => rfl); (case hr => first | (go_simp; done) | (go_simp; rfl))
                     intro gb353 hg w80 hbox hb
                     have HS0_ := (hb.cell (World.block_lt_of_cell? _ _ (hHeld.1))).trans (hHeld.1)
                     have HS1_ := (hb.cell (World.block_lt_of_cell? _ _ (hHeld.2.1))).trans (hHeld.2.1)
                     have HS2_ := (hb.cell (World.block_lt_of_cell? _ _ (hHeld.2.2))).trans (hHeld.2.2)
                     have n0_ := Am (Kd.R_below (kW HO_16) hb)
                     have hp0 := pA BK321 hb
                     have hv := vK HB hb
                     have n2_ := Am (bT hv hb)
                     have n3_ := Am (hbox)
                     have GW353 := kG hg hv
                     have GE353 := kG hg hv
                     have hp1 := pK BK321 hb
                     obtain ⟨NB321_353, NB353_321⟩ := kXY hg hp1 BK321
                     clear HO_16 HB
                     have HO_16 := n0_
                     replace BK321 := hp0 BK321
                     have HB := n2_; have BK353 := n3_
                     clear n2_ n3_ hp0 hp1 hv hb hbox hg
                     refine hK.out _ _ ⟨HS0_, HS1_, HS2_⟩ (fun hHeld => ?_)
                     clear hK K
                     refine norm_ (a' := ?_) ?_ ?_
                     rotate_left
                     ·show Act.put _ (some 21) _ = _
                      simp only [Act.put, List.setIfInBounds_toArray, List.set_cons_zero, List.set_cons_succ, i64_w, i32_w]
                      rfl
                     exact norm_ (by simp only [putAll, Act.put, List.setIfInBounds_toArray, List.set_cons_zero, List.set_cons_succ]) (hCont (gb353) _ ⟨hHeld, (kW HO_16), (kU BK321), (kU BK353), GW353.out, GE353.out, NB321_353.out, NB353_321.out, (by repeat (first | (with_reducible first | exact HB.out | apply bA | apply bN | apply bD | refine bX ?_ (by assumption)) | exact HB.out))⟩)
                    skip
                    refine box_step ?hg (N := 21) ?hd (cs := #[.int .i64 0, .int .i64 0]) (t := 23) ?hr ?_; (case hd => rfl); (case hg => rfl); (case hr => first | (go_simp; done) | (go_simp; rfl))
                    intro gb353 hg w79 hbox hb
                    have HS0_ := (hb.cell (World.block_lt_of_cell? _ _ (hHeld.1))).trans (hHeld.1)
                    have HS1_ := (hb.cell (World.block_lt_of_cell? _ _ (hHeld.2.1))).trans (hHeld.2.1)
                    have HS2_ := (hb.cell (World.block_lt_of_cell? _ _ (hHeld.2.2))).trans (hHeld.2.2)
                    have n0_ := Am (Kd.R_below (kW HO_16) hb)
                    have hp0 := pA BK321 hb
                    have hv := vK HB hb
                    have n2_ := Am (bT hv hb)
                    have n3_ := Am (hbox)
                    have GW353 := kG hg hv
                    have GE353 := kG hg hv
                    have hp1 := pK BK321 hb
                    obtain ⟨NB321_353, NB353_321⟩ := kXY hg hp1 BK321
                    clear HO_16 HB
                    have HO_16 := n0_
                    replace BK321 := hp0 BK321
                    have HB := n2_; have BK353 := n3_
                    clear n2_ n3_ hp0 hp1 hv hb hbox hg
                    refine hK.out _ _ ⟨HS0_, HS1_, HS2_⟩ (fun hHeld => ?_)
                    clear hK K
                    refine norm_ (a' := ?_) ?_ ?_
                    rotate_left
                    ·show Act.put _ (some 21) _ = _
                     simp only [Act.put, List.setIfInBounds_toArray, List.set_cons_zero, List.set_cons_succ, i64_w, i32_w]
                     rfl
                    refine one_ (i := 21) (N := some 136) (pT 24 23) rfl rfl (one_of HT_.out (by kernel_rfl)) (by decide) (fun K hK => ?_)
                    refine goes_ Tryz.func40 (by kernel_rfl) rfl #[.int .i64 (wrap64 ((wrap64 ((wrap64 ((wrap64 ((wrap64 ((rd x16_3 0) * 3600)) + (wrap64 ((rd x16_3 1) * 60)))) + (rd x16_3 2))) * x7_9)) + x6_9)), .int .i64 (wrap64 ((wrap64 (a0 * 3600)) * x7_9))] (by rfl) rfl rfl (by (try simp only [List.map_toArray, List.map_cons, List.map_nil]); first | done | rfl | (simp only [List.length_drop, List.length_take]; rfl)) ?_
                    with_reducible refine (impl_part.calls kj55 (wrap64 ((wrap64 ((wrap64 ((wrap64 ((wrap64 ((rd x16_3 0) * 3600)) + (wrap64 ((rd x16_3 1) * 60)))) + (rd x16_3 2))) * x7_9)) + x6_9)) (wrap64 ((wrap64 (a0 * 3600)) * x7_9)) t351 t352 _ A73.out).mono ?_
                    rintro e w80 ⟨rfl, hb⟩
                    have HS0_ := (hb.cell (World.block_lt_of_cell? _ _ (hHeld.1))).trans (hHeld.1)
                    have HS1_ := (hb.cell (World.block_lt_of_cell? _ _ (hHeld.2.1))).trans (hHeld.2.1)
                    have HS2_ := (hb.cell (World.block_lt_of_cell? _ _ (hHeld.2.2))).trans (hHeld.2.2)
                    refine ⟨_, rfl, ?_⟩
                    have n0_ := Am (Kd.R_below (kW HO_16) hb)
                    have hp0 := pA BK321 hb
                    have hv := vK HB hb
                    have n3_ := Am (bT hv hb)
                    clear HO_16 HB
                    have HO_16 := n0_
                    replace BK321 := hp0 BK321; replace BK353 := hp0 BK353
                    have HB := n3_
                    clear n0_ n3_ hp0 hv
                    (try clear hb)
                    refine hK.out _ _ ⟨HS0_, HS1_, HS2_⟩ (fun hHeld => ?_)
                    clear hK K
                    refine norm_ (a' := ?_) ?_ ?_
                    rotate_left
                    ·show Act.put _ (some 136) _ = _
                     simp only [Act.put, List.setIfInBounds_toArray, List.set_cons_zero, List.set_cons_succ, i64_w, i32_w]
                     rfl
                    exact norm_ (by simp only [putAll, Act.put, List.setIfInBounds_toArray, List.set_cons_zero, List.set_cons_succ]) (hCont (gb353) _ ⟨hHeld, (kW HO_16), (kU BK321), (kU BK353), GW353.out, GE353.out, NB321_353.out, NB353_321.out, (by repeat (first | (with_reducible first | exact HB.out | apply bA | apply bN | apply bD | refine bX ?_ (by assumption)) | exact HB.out))⟩)
                   rintro gb353 w81 ⟨hS_, h0_, h1_, h2_, h3_, h4_, h5_, h6_, h7_⟩
                   have n0_ : Aside0 (Kd.R (Kd.int .i64) 3 w81 w.heap.size (fun _ => True) (.slice (some ad348) x16_3.length co78) x16_3) := ⟨h0_⟩
                   have n1_ : Aside0 (w81.heap[gb321]? = some (.cells #[.int .i64 x322000_3, .int .i64 x322001_3] 23 (0, 0))) := ⟨h1_⟩
                   have n2_ : Aside0 (w81.heap[gb353]? = some (.cells #[.int .i64 0, .int .i64 0] 23 (0, 0))) := ⟨h2_⟩
                   have n3_ : Aside0 (w.heap.size ≤ gb353) := ⟨h3_⟩
                   have n4_ : Aside0 (w.heap.size ≤ gb353) := ⟨h4_⟩
                   have n5_ : Aside0 (gb321 ≠ gb353) := ⟨h5_⟩
                   have n6_ : Aside0 (gb353 ≠ gb321) := ⟨h6_⟩
                   have n7_ : Aside0 (Below w.heap.size w w81) := ⟨h7_⟩
                   clear HO_16 BK321 HB h0_ h1_ h2_ h3_ h4_ h5_ h6_ h7_
                   have HO_16 := n0_; have BK321 := n1_; have BK353 := n2_; have GW353 := n3_; have GE353 := n4_; have NB321_353 := n5_; have NB353_321 := n6_; have HB := n7_
                   clear n0_ n1_ n2_ n3_ n4_ n5_ n6_ n7_
                   have hHeld : w81.cell? ad348 = some (.int .i64 (rd x16_3 0)) ∧ w81.cell? ⟨ad348.block, ad348.off + 1, none⟩ = some (.int .i64 (rd x16_3 1)) ∧ w81.cell? ⟨ad348.block, ad348.off + 2, none⟩ = some (.int .i64 (rd x16_3 2)) := hS_
                   refine norm_ (a' := ?_) ?_ ?_
                   rotate_left
                   ·simp only [putAll, Act.put, List.setIfInBounds_toArray, List.set_cons_zero, List.set_cons_succ]
                    rfl
                   refine one_ (i := 23) (N := none) (pT 24 24) rfl rfl (one_of HT_.out (by kernel_rfl)) (by decide) (fun K hK => ?_)
                   have hs82 : w81.cell? ⟨gb353, 0, none⟩ = some (.int .i64 0) := zc20 BK353.out
                   have hfs82 := kF BK353.out 0
                   have hns82_0 := NB321_353.out; have hms82_0 := NB353_321.out
                   have hs83 : w81.cell? ⟨gb353, 1, none⟩ = some (.int .i64 0) := zc21 BK353.out
                   have hfs83 := kF BK353.out 1
                   have hns83_0 := NB321_353.out; have hms83_0 := NB353_321.out
                   refine skip_ (w1 := ?_) (by rfl) rfl ?_ ?_
                   rotate_left
                   ·go_simp
                    rfl
                   have e0_ : ad348.block ≠ gb353 := Kd.own_blk (Kd.R_ne HO_16.out BK353.out (by decide))
                   refine hK.out _ _ ⟨?_, ?_, ?_⟩ (fun hHeld => ?_)
                   · exact (cell_far (p := ⟨gb353, 1, none⟩) (a := ad348) e0_ _).trans ((cell_far (p := ⟨gb353, 0, none⟩) (a := ad348) e0_ _).trans (hHeld.1))
                   · exact (cell_far (p := ⟨gb353, 1, none⟩) (a := ⟨ad348.block, ad348.off + 1, none⟩) e0_ _).trans ((cell_far (p := ⟨gb353, 0, none⟩) (a := ⟨ad348.block, ad348.off + 1, none⟩) e0_ _).trans (hHeld.2.1))
                   · exact (cell_far (p := ⟨gb353, 1, none⟩) (a := ⟨ad348.block, ad348.off + 2, none⟩) e0_ _).trans ((cell_far (p := ⟨gb353, 0, none⟩) (a := ⟨ad348.block, ad348.off + 2, none⟩) e0_ _).trans (hHeld.2.2))
                   clear e0_
                   clear hK K
                   refine done_ (done_of HT_.out (by kernel_rfl)) ?_
                   have nq84 := kO NB353_321
                   have zq85 := zc2 BK353
                   try go_wp2_with (first | ((with_reducible refine gate_callee (f := 18) rfl ?_); refine gL (some 140) Tryz.func18 #[.int .i64 a0, .agg #[.int .i64 t351, .int .i64 t352]] rfl ?_; (with_reducible refine (impl_TimeText.calls kj55 a0 t351 t352 t354 true _ (tabs_stay TABH_.out (show Below w.heap.size w _ from by repeat (first | (with_reducible first | exact HB.out | apply bA | apply bN | apply bD | refine bX ?_ (by assumption)) | exact HB.out))) A74.out).mono ?_); rintro e w86 ⟨rfl, hb⟩; refine ⟨_, rfl, ?_⟩; have n0_ := Am (Kd.R_below (by (with_reducible repeat (first | apply Kd.R_alloc | apply Kd.R_drewN | apply Kd.R_drew)); exact (Kd.R_mono (Kd.R_far (p := ⟨gb353, 1, none⟩) (Kd.R_far (p := ⟨gb353, 0, none⟩) (Kd.R_types HO_16.out BK353.out (by decide)) (fun _ hk => hk.2) (.int .i64 t351)) (fun _ hk => hk.2) (.int .i64 t352)) (fun _ h_ => h_.1))) hb); have hp0 := pB gb353 BK321 hb; have n2_ := Am (kB (g := gb353) (o := .cells #[.int .i64 t351, .int .i64 t352] 23 (0, 0)) (by (with_reducible repeat (first | refine kN ?_ _ | refine kD ?_ | refine kA ?_ _)); refine kP (cs := #[.int .i64 t351, .int .i64 0]) ?_ 1 _ rfl; (with_reducible repeat (first | refine kN ?_ _ | refine kD ?_ | refine kA ?_ _)); refine kP (cs := #[.int .i64 0, .int .i64 0]) ?_ 0 _ rfl; (with_reducible repeat (first | refine kN ?_ _ | refine kD ?_ | refine kA ?_ _)); exact BK353.out) hb); have hv := vK HB hb; have n3_ := Am (bT hv hb); clear HO_16; clear BK353; clear HB; have HO_16 := n0_; replace BK321 := hp0 NB321_353 BK321; have BK353 := n2_; have HB := n3_; clear n0_ n2_ n3_ hp0 hv; (try clear hb); (try clear hk); have zq87 := zc2 BK353; have zq88 := zc2 BK321))
                   refine bodyPost_ret (results_ct rfl _ _ gb321 23 #[.int .i64 t351, .int .i64 t352] (0, 0) _ rfl (by (with_reducible repeat (first | refine kN ?_ _ | refine kD ?_ | refine kA ?_ _)); refine kP (cs := #[.int .i64 t351, .int .i64 x322001_3]) ?_ 1 _ rfl; (with_reducible repeat (first | refine kN ?_ _ | refine kD ?_ | refine kA ?_ _)); refine kP (cs := #[.int .i64 x322000_3, .int .i64 x322001_3]) ?_ 0 _ rfl; (with_reducible repeat (first | refine kN ?_ _ | refine kD ?_ | refine kA ?_ _)); exact BK321.out) Tryz.underlying23 rfl (by kernel_rfl)) rfl ?_
                   exact ⟨by first | rfl | (simp [errW_none, errW_some] <;> rfl) | (simp [*, errW_none, errW_some] <;> rfl), by repeat (first | (with_reducible first | exact HB.out | apply bA | apply bN | apply bD | refine bX ?_ (by assumption)) | exact HB.out)⟩
                 rw [if_neg c76] at H
                 have c76b0 : (t354.toList == a1.toList) = false := beq_eq_false_iff_ne.mpr c76
                 have c76b1 : (t354.toList != a1.toList) = true := bne_iff_ne.mpr c76
                 focus
                  simp only [Option.some.injEq, Prod.mk.injEq] at H
                  obtain ⟨rfl, rfl, rfl⟩ := H
                  try go_wp2
                  have n0_ := Am (Kd.R_drew HO_16.out)
                  have n1_ := Am (kD BK321.out)
                  have n2_ := Am (bD HB.out)
                  clear HO_16 BK321 HB
                  have HO_16 := n0_; have BK321 := n1_; have HB := n2_
                  clear n0_ n1_ n2_
                  obtain ⟨Ao90, co90, eo90⟩ := Kd.R_slice HO_16.out
                  (first | subst eo90 | (injection eo90 with f1_ f2_ f3_; have f4_ := f1_.symm; have f5_ := f3_.symm; clear f1_ f2_ f3_; subst f4_; subst f5_))
                  have p348 : 0 ≤ (0 : Int) := (by omega)
                  have q348 : 0 < (x16_3.length : Int) := of_decide_eq_true (by first | (with_reducible assumption) | assumption)
                  obtain ⟨ad348, e348, hx348_0⟩ := Kd.at_int (Kd.R_reads' HO_16.out).2.2 0 p348 q348
                  cases e348
                  have qi348 : (0 < x16_3.length) = True := eq_true (by omega)
                  (try rw [show ((0 : Int)).toNat = 0 from rfl] at hx348_0)
                  (try rw [Addr.add_zero'] at hx348_0)
                  replace p348 := eq_true p348
                  replace q348 := eq_true q348
                  have p349 : 0 ≤ (1 : Int) := (by omega)
                  have q349 : 1 < (x16_3.length : Int) := of_decide_eq_true (by first | (with_reducible assumption) | assumption)
                  obtain ⟨ad349, e349, hx349_0⟩ := Kd.at_int (Kd.R_reads' HO_16.out).2.2 1 p349 q349
                  obtain rfl : ad348 = ad349 := (by injection e349)
                  (try simp only [show (1 : Int).toNat = 1 from rfl, Nat.reduceMul, Nat.reduceEqDiff, Go.Addr.add, ↓reduceIte] at hx349_0)
                  have qi349 : (1 < x16_3.length) = True := eq_true (by omega)
                  (try rw [show ((1 : Int)).toNat = 1 from rfl] at hx349_0)
                  replace p349 := eq_true p349
                  replace q349 := eq_true q349
                  have p350 : 0 ≤ (2 : Int) := (by omega)
                  have q350 : 2 < (x16_3.length : Int) := of_decide_eq_true (by first | (with_reducible assumption) | assumption)
                  obtain ⟨ad350, e350, hx350_0⟩ := Kd.at_int (Kd.R_reads' HO_16.out).2.2 2 p350 q350
                  obtain rfl : ad348 = ad350 := (by injection e350)
                  (try simp only [show (2 : Int).toNat = 2 from rfl, Nat.reduceMul, Nat.reduceEqDiff, Go.Addr.add, ↓reduceIte] at hx350_0)
                  have qi350 : (2 < x16_3.length) = True := eq_true (by omega)
                  (try rw [show ((2 : Int)).toNat = 2 from rfl] at hx350_0)
                  replace p350 := eq_true p350
                  replace q350 := eq_true q350
                  refine start_ (n := 24) (S := fun w' => w'.cell? ad348 = some (.int .i64 (rd x16_3 0)) ∧ w'.cell? ⟨ad348.block, ad348.off + 1, none⟩ = some (.int .i64 (rd x16_3 1)) ∧ w'.cell? ⟨ad348.block, ad348.off + 2, none⟩ = some (.int .i64 (rd x16_3 2))) (ds := []) (pT 24 0) (by kernel_rfl) rfl rfl ⟨hx348_0, hx349_0, hx350_0⟩ (fun hHeld => ?_); refine with_tabW impl_ParseTime.tab23 impl_ParseTime.bits23 (fun HT_ HW_ => ?_)
                  generalize wc.drew = w89 at HO_16 BK321 HB hx348_0 hx349_0 hx350_0 hHeld ⊢
                  iterate 2
                   refine pI (v := ?_) (a' := ?_) rfl (any_of HT_.out (by kernel_rfl)) (fun _ _ _ h => h) (Or.inl ⟨by rfl, ?_⟩) ?_ ?_
                   rotate_left
                   ·intro w'
                    go_simp
                    with_reducible rfl
                   rotate_left
                   ·show Act.put _ (some _) _ = _
                    simp only [Act.put, List.setIfInBounds_toArray, List.set_cons_zero, List.set_cons_succ, i64_w, i32_w]
                    rfl
                  refine pure_ (i := 4) (N := some 119) (v := ?_) (a' := ?_) #[true, true, false, false, true, false, false, false, false, false, false, false, false, false, false, false, false, false, false, false, false, false, false, false] rfl rfl (any_of HT_.out (by kernel_rfl)) (fun _ _ _ h => h) (Or.inl ⟨by rfl, ?_⟩) ?_ ?_
                  rotate_left
                  ·intro w'
                   go_simp
                   with_reducible rfl
                  rotate_left
                  ·simp only [Act.put, List.setIfInBounds_toArray, List.set_cons_zero, List.set_cons_succ, i64_w, i32_w]
                   rfl
                  refine pure_ (i := 5) (N := some 120) (v := ?_) (a' := ?_) #[true, true, false, false, true, true, false, false, false, false, false, false, false, false, false, false, false, false, false, false, false, false, false, false] rfl rfl (any_of HT_.out (by kernel_rfl)) (fun _ _ _ h => h) (Or.inl ⟨by rfl, ?_⟩) ?_ ?_
                  rotate_left
                  ·intro w'
                   go_simp
                   with_reducible rfl
                  rotate_left
                  ·simp only [Act.put, List.setIfInBounds_toArray, List.set_cons_zero, List.set_cons_succ, i64_w, i32_w]
                   rfl
                  refine pure_ (i := 9) (N := some 124) (v := ?_) (a' := ?_) #[true, true, false, false, true, true, false, false, false, true, false, false, false, false, false, false, false, false, false, false, false, false, false, false] rfl rfl (any_of HT_.out (by kernel_rfl)) (fun _ _ _ h => h) (Or.inl ⟨by rfl, ?_⟩) ?_ ?_
                  rotate_left
                  ·intro w'
                   go_simp
                   with_reducible rfl
                  rotate_left
                  ·simp only [Act.put, List.setIfInBounds_toArray, List.set_cons_zero, List.set_cons_succ, i64_w, i32_w]
                   rfl
                  refine pure_ (i := 10) (N := some 125) (v := ?_) (a' := ?_) #[true, true, false, false, true, true, false, false, false, true, true, false, false, false, false, false, false, false, false, false, false, false, false, false] rfl rfl (any_of HT_.out (by kernel_rfl)) (fun _ _ _ h => h) (Or.inl ⟨by rfl, ?_⟩) ?_ ?_
                  rotate_left
                  ·intro w'
                   go_simp
                   with_reducible rfl
                  rotate_left
                  ·simp only [Act.put, List.setIfInBounds_toArray, List.set_cons_zero, List.set_cons_succ, i64_w, i32_w]
                   rfl
                  refine pure_ (i := 13) (N := some 128) (v := ?_) (a' := ?_) #[true, true, false, false, true, true, false, false, false, true, true, false, false, true, false, false, false, false, false, false, false, false, false, false] rfl rfl (any_of HT_.out (by kernel_rfl)) (fun _ _ _ h => h) (Or.inl ⟨by rfl, ?_⟩) ?_ ?_
                  rotate_left
                  ·intro w'
                   go_simp
                   with_reducible rfl
                  rotate_left
                  ·simp only [Act.put, List.setIfInBounds_toArray, List.set_cons_zero, List.set_cons_succ, i64_w, i32_w]
                   rfl
                  refine pure_ (i := 15) (N := some 130) (v := ?_) (a' := ?_) #[true, true, false, false, true, true, false, false, false, true, true, false, false, true, false, true, false, false, false, false, false, false, false, false] rfl rfl (any_of HT_.out (by kernel_rfl)) (fun _ _ _ h => h) (Or.inl ⟨by rfl, ?_⟩) ?_ ?_
                  rotate_left
                  ·intro w'
                   go_simp
                   with_reducible rfl
                  rotate_left
                  ·simp only [Act.put, List.setIfInBounds_toArray, List.set_cons_zero, List.set_cons_succ, i64_w, i32_w]
                   rfl
                  refine pure_ (i := 17) (N := some 132) (v := ?_) (a' := ?_) #[true, true, false, false, true, true, false, false, false, true, true, false, false, true, false, true, false, true, false, false, false, false, false, false] rfl rfl (any_of HT_.out (by kernel_rfl)) (fun _ _ _ h => h) (Or.inl ⟨by rfl, ?_⟩) ?_ ?_
                  rotate_left
                  ·intro w'
                   go_simp
                   with_reducible rfl
                  rotate_left
                  ·simp only [Act.put, List.setIfInBounds_toArray, List.set_cons_zero, List.set_cons_succ, i64_w, i32_w]
                   rfl
                  refine pure_ (i := 18) (N := some 133) (v := ?_) (a' := ?_) #[true, true, false, false, true, true, false, false, false, true, true, false, false, true, false, true, false, true, true, false, false, false, false, false] rfl rfl (any_of HT_.out (by kernel_rfl)) (fun _ _ _ h => h) (Or.inl ⟨by rfl, ?_⟩) ?_ ?_
                  rotate_left
                  ·intro w'
                   go_simp
                   with_reducible rfl
                  rotate_left
                  ·simp only [Act.put, List.setIfInBounds_toArray, List.set_cons_zero, List.set_cons_succ, i64_w, i32_w]
                   rfl
                  refine pure_ (i := 19) (N := some 134) (v := ?_) (a' := ?_) #[true, true, false, false, true, true, false, false, false, true, true, false, false, true, false, true, false, true, true, true, false, false, false, false] rfl rfl (any_of HT_.out (by kernel_rfl)) (fun _ _ _ h => h) (Or.inl ⟨by rfl, ?_⟩) ?_ ?_
                  rotate_left
                  ·intro w'
                   go_simp
                   with_reducible rfl
                  rotate_left
                  ·simp only [Act.put, List.setIfInBounds_toArray, List.set_cons_zero, List.set_cons_succ, i64_w, i32_w]
                   rfl
                  refine pure_ (i := 20) (N := some 135) (v := ?_) (a' := ?_) #[true, true, false, false, true, true, false, false, false, true, true, false, false, true, false, true, false, true, true, true, true, false, false, false] rfl rfl (any_of HT_.out (by kernel_rfl)) (fun _ _ _ h => h) (Or.inl ⟨by rfl, ?_⟩) ?_ ?_
                  rotate_left
                  ·intro w'
                   go_simp
                   with_reducible rfl
                  rotate_left
                  ·simp only [Act.put, List.setIfInBounds_toArray, List.set_cons_zero, List.set_cons_succ, i64_w, i32_w]
                   rfl
                  refine take_ (i := 2) (N := some 117) (v := ?_) (a' := ?_) #[true, true, true, false, true, true, false, false, false, true, true, false, false, true, false, true, false, true, true, true, true, false, false, false] rfl rfl (take_ofW HT_.out HW_.out (by kernel_rfl)) (fun _ _ _ h => h) (Or.inl ⟨by rfl, ?_⟩) hHeld ?_ ?_
                  rotate_left
                  ·rintro w' ⟨s0, s1, s2⟩
                   go_simp
                   with_reducible rfl
                  rotate_left
                  ·simp only [Act.put, List.setIfInBounds_toArray, List.set_cons_zero, List.set_cons_succ, i64_w, i32_w]
                   rfl
                  refine pure_ (i := 3) (N := some 118) (v := ?_) (a' := ?_) #[true, true, true, true, true, true, false, false, false, true, true, false, false, true, false, true, false, true, true, true, true, false, false, false] rfl rfl (any_of HT_.out (by kernel_rfl)) (fun _ _ _ h => h) (Or.inl ⟨by rfl, ?_⟩) ?_ ?_
                  rotate_left
                  ·intro w'
                   go_simp
                   with_reducible rfl
                  rotate_left
                  ·simp only [Act.put, List.setIfInBounds_toArray, List.set_cons_zero, List.set_cons_succ, i64_w, i32_w]
                   rfl
                  refine take_ (i := 6) (N := some 121) (v := ?_) (a' := ?_) #[true, true, true, true, true, true, true, false, false, true, true, false, false, true, false, true, false, true, true, true, true, false, false, false] rfl rfl (take_ofW HT_.out HW_.out (by kernel_rfl)) (fun _ _ _ h => h) (Or.inl ⟨by rfl, ?_⟩) hHeld ?_ ?_
                  rotate_left
                  ·rintro w' ⟨s0, s1, s2⟩
                   go_simp
                   with_reducible rfl
                  rotate_left
                  ·simp only [Act.put, List.setIfInBounds_toArray, List.set_cons_zero, List.set_cons_succ, i64_w, i32_w]
                   rfl
                  refine pure_ (i := 7) (N := some 122) (v := ?_) (a' := ?_) #[true, true, true, true, true, true, true, true, false, true, true, false, false, true, false, true, false, true, true, true, true, false, false, false] rfl rfl (any_of HT_.out (by kernel_rfl)) (fun _ _ _ h => h) (Or.inl ⟨by rfl, ?_⟩) ?_ ?_
                  rotate_left
                  ·intro w'
                   go_simp
                   with_reducible rfl
                  rotate_left
                  ·simp only [Act.put, List.setIfInBounds_toArray, List.set_cons_zero, List.set_cons_succ, i64_w, i32_w]
                   rfl
                  refine pure_ (i := 8) (N := some 123) (v := ?_) (a' := ?_) #[true, true, true, true, true, true, true, true, true, true, true, false, false, true, false, true, false, true, true, true, true, false, false, false] rfl rfl (any_of HT_.out (by kernel_rfl)) (fun _ _ _ h => h) (Or.inl ⟨by rfl, ?_⟩) ?_ ?_
                  rotate_left
                  ·intro w'
                   go_simp
                   with_reducible rfl
                  rotate_left
                  ·simp only [Act.put, List.setIfInBounds_toArray, List.set_cons_zero, List.set_cons_succ, i64_w, i32_w]
                   rfl
                  refine take_ (i := 11) (N := some 126) (v := ?_) (a' := ?_) #[true, true, true, true, true, true, true, true, true, true, true, true, false, true, false, true, false, true, true, true, true, false, false, false] rfl rfl (take_ofW HT_.out HW_.out (by kernel_rfl)) (fun _ _ _ h => h) (Or.inl ⟨by rfl, ?_⟩) hHeld ?_ ?_
                  rotate_left
                  ·rintro w' ⟨s0, s1, s2⟩
                   go_simp
                   with_reducible rfl
                  rotate_left
                  ·simp only [Act.put, List.setIfInBounds_toArray, List.set_cons_zero, List.set_cons_succ, i64_w, i32_w]
                   rfl
                  refine pure_ (i := 12) (N := some 127) (v := ?_) (a' := ?_) #[true, true, true, true, true, true, true, true, true, true, true, true, true, true, false, true, false, true, true, true, true, false, false, false] rfl rfl (any_of HT_.out (by kernel_rfl)) (fun _ _ _ h => h) (Or.inl ⟨by rfl, ?_⟩) ?_ ?_
                  rotate_left
                  ·intro w'
                   go_simp
                   with_reducible rfl
                  rotate_left
                  ·simp only [Act.put, List.setIfInBounds_toArray, List.set_cons_zero, List.set_cons_succ, i64_w, i32_w]
                   rfl
                  refine pure_ (i := 14) (N := some 129) (v := ?_) (a' := ?_) #[true, true, true, true, true, true, true, true, true, true, true, true, true, true, true, true, false, true, true, true, true, false, false, false] rfl rfl (any_of HT_.out (by kernel_rfl)) (fun _ _ _ h => h) (Or.inl ⟨by rfl, ?_⟩) ?_ ?_
                  rotate_left
                  ·intro w'
                   go_simp
                   with_reducible rfl
                  rotate_left
                  ·simp only [Act.put, List.setIfInBounds_toArray, List.set_cons_zero, List.set_cons_succ, i64_w, i32_w]
                   rfl
                  refine pure_ (i := 16) (N := some 131) (v := ?_) (a' := ?_) (pT 24 21) rfl rfl (any_of HT_.out (by kernel_rfl)) (fun _ _ _ h => h) (Or.inl ⟨by rfl, ?_⟩) ?_ ?_
                  rotate_left
                  ·intro w'
                   go_simp
                   with_reducible rfl
                  rotate_left
                  ·simp only [Act.put, List.setIfInBounds_toArray, List.set_cons_zero, List.set_cons_succ, i64_w, i32_w]
                   rfl
                  refine join_ (σ := Nat) 1 (pT 24 23) (fun s_ => [(136, .agg #[.int .i64 t351, .int .i64 t352]), (21, .pointer (some ⟨s_, 0, none⟩))]) (fun s_ w' => (w'.cell? ad348 = some (.int .i64 (rd x16_3 0)) ∧ w'.cell? ⟨ad348.block, ad348.off + 1, none⟩ = some (.int .i64 (rd x16_3 1)) ∧ w'.cell? ⟨ad348.block, ad348.off + 2, none⟩ = some (.int .i64 (rd x16_3 2))) ∧ (Kd.R (Kd.int .i64) 3 w' w.heap.size (fun _ => True) (.slice (some ad348) x16_3.length co90) x16_3) ∧ (w'.heap[gb321]? = some (.cells #[.int .i64 x322000_3, .int .i64 x322001_3] 23 (0, 0))) ∧ (w'.heap[s_]? = some (.cells #[.int .i64 0, .int .i64 0] 23 (0, 0))) ∧ (w.heap.size ≤ s_) ∧ (w.heap.size ≤ s_) ∧ (gb321 ≠ s_) ∧ (s_ ≠ gb321) ∧ (Below w.heap.size w w')) ?_ ?_
                  rotate_left
                  ·intro hCont
                   refine two_ (i := 21) (j := 22) (Ni := some 136) (Nj := some 21) (pT 24 22) #[true, true, true, true, true, true, true, true, true, true, true, true, true, true, true, true, true, true, true, true, true, false, true, false] rfl rfl rfl rfl (two_of HT_.out (by kernel_rfl)) (by decide) (by decide) (fun K hK => ?_) (fun K hK => ?_)
                   ·skip
                    refine goes_ Tryz.func40 (by kernel_rfl) rfl #[.int .i64 (wrap64 ((wrap64 ((wrap64 ((wrap64 ((wrap64 ((rd x16_3 0) * 3600)) + (wrap64 ((rd x16_3 1) * 60)))) + (rd x16_3 2))) * x7_9)) + x6_9)), .int .i64 (wrap64 ((wrap64 (a0 * 3600)) * x7_9))] (by rfl) rfl rfl (by (try simp only [List.map_toArray, List.map_cons, List.map_nil]); first | done | rfl | (simp only [List.length_drop, List.length_take]; rfl)) ?_
                    with_reducible refine (impl_part.calls kj55 (wrap64 ((wrap64 ((wrap64 ((wrap64 ((wrap64 ((rd x16_3 0) * 3600)) + (wrap64 ((rd x16_3 1) * 60)))) + (rd x16_3 2))) * x7_9)) + x6_9)) (wrap64 ((wrap64 (a0 * 3600)) * x7_9)) t351 t352 _ A73.out).mono ?_
                    rintro e w91 ⟨rfl, hb⟩
                    have HS0_ := (hb.cell (World.block_lt_of_cell? _ _ (hHeld.1))).trans (hHeld.1)
                    have HS1_ := (hb.cell (World.block_lt_of_cell? _ _ (hHeld.2.1))).trans (hHeld.2.1)
                    have HS2_ := (hb.cell (World.block_lt_of_cell? _ _ (hHeld.2.2))).trans (hHeld.2.2)
                    refine ⟨_, rfl, ?_⟩
                    have n0_ := Am (Kd.R_below (kW HO_16) hb)
                    have hp0 := pA BK321 hb
                    have hv := vK HB hb
                    have n2_ := Am (bT hv hb)
                    clear HO_16 HB
                    have HO_16 := n0_
                    replace BK321 := hp0 BK321
                    have HB := n2_
                    clear n0_ n2_ hp0 hv
                    (try clear hb)
                    refine hK.out _ _ ⟨HS0_, HS1_, HS2_⟩ (fun hHeld => ?_)
                    clear hK K
                    refine norm_ (a' := ?_) ?_ ?_
                    rotate_left
                    ·show Act.put _ (some 136) _ = _
                     simp only [Act.put, List.setIfInBounds_toArray, List.set_cons_zero, List.set_cons_succ, i64_w, i32_w]
                     rfl
                    refine one_ (i := 22) (N := some 21) (pT 24 23) rfl rfl (one_of HT_.out (by kernel_rfl)) (by decide) (fun K hK => ?_)
                    refine box_step ?hg (N := 21) ?hd (cs := #[.int .i64 0, .int .i64 0]) (t := 23) ?hr ?_; (case hd => rfl); (case hg => rfl); (case hr => first | (go_simp; done) | (go_simp; rfl))
                    intro gb353 hg w92 hbox hb
                    have HS0_ := (hb.cell (World.block_lt_of_cell? _ _ (hHeld.1))).trans (hHeld.1)
                    have HS1_ := (hb.cell (World.block_lt_of_cell? _ _ (hHeld.2.1))).trans (hHeld.2.1)
                    have HS2_ := (hb.cell (World.block_lt_of_cell? _ _ (hHeld.2.2))).trans (hHeld.2.2)
                    have n0_ := Am (Kd.R_below (kW HO_16) hb)
                    have hp0 := pA BK321 hb
                    have hv := vK HB hb
                    have n2_ := Am (bT hv hb)
                    have n3_ := Am (hbox)
                    have GW353 := kG hg hv
                    have GE353 := kG hg hv
                    have hp1 := pK BK321 hb
                    obtain ⟨NB321_353, NB353_321⟩ := kXY hg hp1 BK321
                    clear HO_16 HB
                    have HO_16 := n0_
                    replace BK321 := hp0 BK321
                    have HB := n2_; have BK353 := n3_
                    clear n2_ n3_ hp0 hp1 hv hb hbox hg
                    refine hK.out _ _ ⟨HS0_, HS1_, HS2_⟩ (fun hHeld => ?_)
                    clear hK K
                    refine norm_ (a' := ?_) ?_ ?_
                    rotate_left
                    ·show Act.put _ (some 21) _ = _
                     simp only [Act.put, List.setIfInBounds_toArray, List.set_cons_zero, List.set_cons_succ, i64_w, i32_w]
                     rfl
                    exact norm_ (by simp only [putAll, Act.put, List.setIfInBounds_toArray, List.set_cons_zero, List.set_cons_succ]) (hCont (gb353) _ ⟨hHeld, (kW HO_16), (kU BK321), (kU BK353), GW353.out, GE353.out, NB321_353.out, NB353_321.out, (by repeat (first | (with_reducible first | exact HB.out | apply bA | apply bN | apply bD | refine bX ?_ (by assumption)) | exact HB.out))⟩)
                   skip
                   refine box_step ?hg (N := 21) ?hd (cs := #[.int .i64 0, .int .i64 0]) (t := 23) ?hr ?_; (case hd => rfl); (case hg => rfl); (case hr => first | (go_simp; done) | (go_simp; rfl))
                   intro gb353 hg w91 hbox hb
                   have HS0_ := (hb.cell (World.block_lt_of_cell? _ _ (hHeld.1))).trans (hHeld.1)
                   have HS1_ := (hb.cell (World.block_lt_of_cell? _ _ (hHeld.2.1))).trans (hHeld.2.1)
                   have HS2_ := (hb.cell (World.block_lt_of_cell? _ _ (hHeld.2.2))).trans (hHeld.2.2)
                   have n0_ := Am (Kd.R_below (kW HO_16) hb)
                   have hp0 := pA BK321 hb
                   have hv := vK HB hb
                   have n2_ := Am (bT hv hb)
                   have n3_ := Am (hbox)
                   have GW353 := kG hg hv
                   have GE353 := kG hg hv
                   have hp1 := pK BK321 hb
                   obtain ⟨NB321_353, NB353_321⟩ := kXY hg hp1 BK321
                   clear HO_16 HB
                   have HO_16 := n0_
                   replace BK321 := hp0 BK321
                   have HB := n2_; have BK353 := n3_
                   clear n2_ n3_ hp0 hp1 hv hb hbox hg
                   refine hK.out _ _ ⟨HS0_, HS1_, HS2_⟩ (fun hHeld => ?_)
                   clear hK K
                   refine norm_ (a' := ?_) ?_ ?_
                   rotate_left
                   ·show Act.put _ (some 21) _ = _
                    simp only [Act.put, List.setIfInBounds_toArray, List.set_cons_zero, List.set_cons_succ, i64_w, i32_w]
                    rfl
                   refine one_ (i := 21) (N := some 136) (pT 24 23) rfl rfl (one_of HT_.out (by kernel_rfl)) (by decide) (fun K hK => ?_)
                   refine goes_ Tryz.func40 (by kernel_rfl) rfl #[.int .i64 (wrap64 ((wrap64 ((wrap64 ((wrap64 ((wrap64 ((rd x16_3 0) * 3600)) + (wrap64 ((rd x16_3 1) * 60)))) + (rd x16_3 2))) * x7_9)) + x6_9)), .int .i64 (wrap64 ((wrap64 (a0 * 3600)) * x7_9))] (by rfl) rfl rfl (by (try simp only [List.map_toArray, List.map_cons, List.map_nil]); first | done | rfl | (simp only [List.length_drop, List.length_take]; rfl)) ?_
                   with_reducible refine (impl_part.calls kj55 (wrap64 ((wrap64 ((wrap64 ((wrap64 ((wrap64 ((rd x16_3 0) * 3600)) + (wrap64 ((rd x16_3 1) * 60)))) + (rd x16_3 2))) * x7_9)) + x6_9)) (wrap64 ((wrap64 (a0 * 3600)) * x7_9)) t351 t352 _ A73.out).mono ?_
                   rintro e w92 ⟨rfl, hb⟩
                   have HS0_ := (hb.cell (World.block_lt_of_cell? _ _ (hHeld.1))).trans (hHeld.1)
                   have HS1_ := (hb.cell (World.block_lt_of_cell? _ _ (hHeld.2.1))).trans (hHeld.2.1)
                   have HS2_ := (hb.cell (World.block_lt_of_cell? _ _ (hHeld.2.2))).trans (hHeld.2.2)
                   refine ⟨_, rfl, ?_⟩
                   have n0_ := Am (Kd.R_below (kW HO_16) hb)
                   have hp0 := pA BK321 hb
                   have hv := vK HB hb
                   have n3_ := Am (bT hv hb)
                   clear HO_16 HB
                   have HO_16 := n0_
                   replace BK321 := hp0 BK321; replace BK353 := hp0 BK353
                   have HB := n3_
                   clear n0_ n3_ hp0 hv
                   (try clear hb)
                   refine hK.out _ _ ⟨HS0_, HS1_, HS2_⟩ (fun hHeld => ?_)
                   clear hK K
                   refine norm_ (a' := ?_) ?_ ?_
                   rotate_left
                   ·show Act.put _ (some 136) _ = _
                    simp only [Act.put, List.setIfInBounds_toArray, List.set_cons_zero, List.set_cons_succ, i64_w, i32_w]
                    rfl
                   exact norm_ (by simp only [putAll, Act.put, List.setIfInBounds_toArray, List.set_cons_zero, List.set_cons_succ]) (hCont (gb353) _ ⟨hHeld, (kW HO_16), (kU BK321), (kU BK353), GW353.out, GE353.out, NB321_353.out, NB353_321.out, (by repeat (first | (with_reducible first | exact HB.out | apply bA | apply bN | apply bD | refine bX ?_ (by assumption)) | exact HB.out))⟩)
                  rintro gb353 w93 ⟨hS_, h0_, h1_, h2_, h3_, h4_, h5_, h6_, h7_⟩
                  have n0_ : Aside0 (Kd.R (Kd.int .i64) 3 w93 w.heap.size (fun _ => True) (.slice (some ad348) x16_3.length co90) x16_3) := ⟨h0_⟩
                  have n1_ : Aside0 (w93.heap[gb321]? = some (.cells #[.int .i64 x322000_3, .int .i64 x322001_3] 23 (0, 0))) := ⟨h1_⟩
                  have n2_ : Aside0 (w93.heap[gb353]? = some (.cells #[.int .i64 0, .int .i64 0] 23 (0, 0))) := ⟨h2_⟩
                  have n3_ : Aside0 (w.heap.size ≤ gb353) := ⟨h3_⟩
                  have n4_ : Aside0 (w.heap.size ≤ gb353) := ⟨h4_⟩
                  have n5_ : Aside0 (gb321 ≠ gb353) := ⟨h5_⟩
                  have n6_ : Aside0 (gb353 ≠ gb321) := ⟨h6_⟩
                  have n7_ : Aside0 (Below w.heap.size w w93) := ⟨h7_⟩
                  clear HO_16 BK321 HB h0_ h1_ h2_ h3_ h4_ h5_ h6_ h7_
                  have HO_16 := n0_; have BK321 := n1_; have BK353 := n2_; have GW353 := n3_; have GE353 := n4_; have NB321_353 := n5_; have NB353_321 := n6_; have HB := n7_
                  clear n0_ n1_ n2_ n3_ n4_ n5_ n6_ n7_
                  have hHeld : w93.cell? ad348 = some (.int .i64 (rd x16_3 0)) ∧ w93.cell? ⟨ad348.block, ad348.off + 1, none⟩ = some (.int .i64 (rd x16_3 1)) ∧ w93.cell? ⟨ad348.block, ad348.off + 2, none⟩ = some (.int .i64 (rd x16_3 2)) := hS_
                  refine norm_ (a' := ?_) ?_ ?_
                  rotate_left
                  ·simp only [putAll, Act.put, List.setIfInBounds_toArray, List.set_cons_zero, List.set_cons_succ]
                   rfl
                  refine one_ (i := 23) (N := none) (pT 24 24) rfl rfl (one_of HT_.out (by kernel_rfl)) (by decide) (fun K hK => ?_)
                  have hs94 : w93.cell? ⟨gb353, 0, none⟩ = some (.int .i64 0) := zc20 BK353.out
                  have hfs94 := kF BK353.out 0
                  have hns94_0 := NB321_353.out; have hms94_0 := NB353_321.out
                  have hs95 : w93.cell? ⟨gb353, 1, none⟩ = some (.int .i64 0) := zc21 BK353.out
                  have hfs95 := kF BK353.out 1
                  have hns95_0 := NB321_353.out; have hms95_0 := NB353_321.out
                  refine skip_ (w1 := ?_) (by rfl) rfl ?_ ?_
                  rotate_left
                  ·go_simp
                   rfl
                  have e0_ : ad348.block ≠ gb353 := Kd.own_blk (Kd.R_ne HO_16.out BK353.out (by decide))
                  refine hK.out _ _ ⟨?_, ?_, ?_⟩ (fun hHeld => ?_)
                  · exact (cell_far (p := ⟨gb353, 1, none⟩) (a := ad348) e0_ _).trans ((cell_far (p := ⟨gb353, 0, none⟩) (a := ad348) e0_ _).trans (hHeld.1))
                  · exact (cell_far (p := ⟨gb353, 1, none⟩) (a := ⟨ad348.block, ad348.off + 1, none⟩) e0_ _).trans ((cell_far (p := ⟨gb353, 0, none⟩) (a := ⟨ad348.block, ad348.off + 1, none⟩) e0_ _).trans (hHeld.2.1))
                  · exact (cell_far (p := ⟨gb353, 1, none⟩) (a := ⟨ad348.block, ad348.off + 2, none⟩) e0_ _).trans ((cell_far (p := ⟨gb353, 0, none⟩) (a := ⟨ad348.block, ad348.off + 2, none⟩) e0_ _).trans (hHeld.2.2))
                  clear e0_
                  clear hK K
                  refine done_ (done_of HT_.out (by kernel_rfl)) ?_
                  have nq96 := kO NB353_321
                  have zq97 := zc2 BK353
                  try go_wp2_with (first | ((with_reducible refine gate_callee (f := 18) rfl ?_); refine gL (some 140) Tryz.func18 #[.int .i64 a0, .agg #[.int .i64 t351, .int .i64 t352]] rfl ?_; (with_reducible refine (impl_TimeText.calls kj55 a0 t351 t352 t354 true _ (tabs_stay TABH_.out (show Below w.heap.size w _ from by repeat (first | (with_reducible first | exact HB.out | apply bA | apply bN | apply bD | refine bX ?_ (by assumption)) | exact HB.out))) A74.out).mono ?_); rintro e w98 ⟨rfl, hb⟩; refine ⟨_, rfl, ?_⟩; have n0_ := Am (Kd.R_below (by (with_reducible repeat (first | apply Kd.R_alloc | apply Kd.R_drewN | apply Kd.R_drew)); exact (Kd.R_mono (Kd.R_far (p := ⟨gb353, 1, none⟩) (Kd.R_far (p := ⟨gb353, 0, none⟩) (Kd.R_types HO_16.out BK353.out (by decide)) (fun _ hk => hk.2) (.int .i64 t351)) (fun _ hk => hk.2) (.int .i64 t352)) (fun _ h_ => h_.1))) hb); have hp0 := pB gb353 BK321 hb; have n2_ := Am (kB (g := gb353) (o := .cells #[.int .i64 t351, .int .i64 t352] 23 (0, 0)) (by (with_reducible repeat (first | refine kN ?_ _ | refine kD ?_ | refine kA ?_ _)); refine kP (cs := #[.int .i64 t351, .int .i64 0]) ?_ 1 _ rfl; (with_reducible repeat (first | refine kN ?_ _ | refine kD ?_ | refine kA ?_ _)); refine kP (cs := #[.int .i64 0, .int .i64 0]) ?_ 0 _ rfl; (with_reducible repeat (first | refine kN ?_ _ | refine kD ?_ | refine kA ?_ _)); exact BK353.out) hb); have hv := vK HB hb; have n3_ := Am (bT hv hb); clear HO_16; clear BK353; clear HB; have HO_16 := n0_; replace BK321 := hp0 NB321_353 BK321; have BK353 := n2_; have HB := n3_; clear n0_ n2_ n3_ hp0 hv; (try clear hb); (try clear hk); have zq99 := zc2 BK321))
                  refine bodyPost_ret (results_ct rfl _ _ gb321 23 #[.int .i64 0, .int .i64 0] (0, 0) _ rfl (by (with_reducible repeat (first | refine kN ?_ _ | refine kD ?_ | refine kA ?_ _)); refine kP (cs := #[.int .i64 0, .int .i64 x322001_3]) ?_ 1 _ rfl; (with_reducible repeat (first | refine kN ?_ _ | refine kD ?_ | refine kA ?_ _)); refine kP (cs := #[.int .i64 x322000_3, .int .i64 x322001_3]) ?_ 0 _ rfl; (with_reducible repeat (first | refine kN ?_ _ | refine kD ?_ | refine kA ?_ _)); exact BK321.out) Tryz.underlying23 rfl (by kernel_rfl)) rfl ?_
                  exact ⟨by first | rfl | (simp [errW_none, errW_some] <;> rfl) | (simp [*, errW_none, errW_some] <;> rfl), by repeat (first | (with_reducible first | exact HB.out | apply bA | apply bN | apply bD | refine bX ?_ (by assumption)) | exact HB.out)⟩
                replace c75 := Bool.eq_false_iff.mpr c75
                subst c75
                have H1 : (some (0, 0, false)) = some (r1, r2, r3) := by rw [if_neg (show ¬ (false = true) by decide)] at H; exact H
                clear H
                have H := H1
                clear H1
                focus
                 simp only [Option.some.injEq, Prod.mk.injEq] at H
                 obtain ⟨rfl, rfl, rfl⟩ := H
                 try go_wp2
                 have n0_ := Am (Kd.R_drew HO_16.out)
                 have n1_ := Am (kD BK321.out)
                 have n2_ := Am (bD HB.out)
                 clear HO_16 BK321 HB
                 have HO_16 := n0_; have BK321 := n1_; have HB := n2_
                 clear n0_ n1_ n2_
                 obtain ⟨Ao101, co101, eo101⟩ := Kd.R_slice HO_16.out
                 (first | subst eo101 | (injection eo101 with f1_ f2_ f3_; have f4_ := f1_.symm; have f5_ := f3_.symm; clear f1_ f2_ f3_; subst f4_; subst f5_))
                 have p348 : 0 ≤ (0 : Int) := (by omega)
                 have q348 : 0 < (x16_3.length : Int) := of_decide_eq_true (by first | (with_reducible assumption) | assumption)
                 obtain ⟨ad348, e348, hx348_0⟩ := Kd.at_int (Kd.R_reads' HO_16.out).2.2 0 p348 q348
                 cases e348
                 have qi348 : (0 < x16_3.length) = True := eq_true (by omega)
                 (try rw [show ((0 : Int)).toNat = 0 from rfl] at hx348_0)
                 (try rw [Addr.add_zero'] at hx348_0)
                 replace p348 := eq_true p348
                 replace q348 := eq_true q348
                 have p349 : 0 ≤ (1 : Int) := (by omega)
                 have q349 : 1 < (x16_3.length : Int) := of_decide_eq_true (by first | (with_reducible assumption) | assumption)
                 obtain ⟨ad349, e349, hx349_0⟩ := Kd.at_int (Kd.R_reads' HO_16.out).2.2 1 p349 q349
                 obtain rfl : ad348 = ad349 := (by injection e349)
                 (try simp only [show (1 : Int).toNat = 1 from rfl, Nat.reduceMul, Nat.reduceEqDiff, Go.Addr.add, ↓reduceIte] at hx349_0)
                 have qi349 : (1 < x16_3.length) = True := eq_true (by omega)
                 (try rw [show ((1 : Int)).toNat = 1 from rfl] at hx349_0)
                 replace p349 := eq_true p349
                 replace q349 := eq_true q349
                 have p350 : 0 ≤ (2 : Int) := (by omega)
                 have q350 : 2 < (x16_3.length : Int) := of_decide_eq_true (by first | (with_reducible assumption) | assumption)
                 obtain ⟨ad350, e350, hx350_0⟩ := Kd.at_int (Kd.R_reads' HO_16.out).2.2 2 p350 q350
                 obtain rfl : ad348 = ad350 := (by injection e350)
                 (try simp only [show (2 : Int).toNat = 2 from rfl, Nat.reduceMul, Nat.reduceEqDiff, Go.Addr.add, ↓reduceIte] at hx350_0)
                 have qi350 : (2 < x16_3.length) = True := eq_true (by omega)
                 (try rw [show ((2 : Int)).toNat = 2 from rfl] at hx350_0)
                 replace p350 := eq_true p350
                 replace q350 := eq_true q350
                 refine start_ (n := 24) (S := fun w' => w'.cell? ad348 = some (.int .i64 (rd x16_3 0)) ∧ w'.cell? ⟨ad348.block, ad348.off + 1, none⟩ = some (.int .i64 (rd x16_3 1)) ∧ w'.cell? ⟨ad348.block, ad348.off + 2, none⟩ = some (.int .i64 (rd x16_3 2))) (ds := []) (pT 24 0) (by kernel_rfl) rfl rfl ⟨hx348_0, hx349_0, hx350_0⟩ (fun hHeld => ?_); refine with_tabW impl_ParseTime.tab23 impl_ParseTime.bits23 (fun HT_ HW_ => ?_)
                 generalize wc.drew = w100 at HO_16 BK321 HB hx348_0 hx349_0 hx350_0 hHeld ⊢
                 iterate 2
                  refine pI (v := ?_) (a' := ?_) rfl (any_of HT_.out (by kernel_rfl)) (fun _ _ _ h => h) (Or.inl ⟨by rfl, ?_⟩) ?_ ?_
                  rotate_left
                  ·intro w'
                   go_simp
                   with_reducible rfl
                  rotate_left
                  ·show Act.put _ (some _) _ = _
                   simp only [Act.put, List.setIfInBounds_toArray, List.set_cons_zero, List.set_cons_succ, i64_w, i32_w]
                   rfl
                 refine pure_ (i := 4) (N := some 119) (v := ?_) (a' := ?_) #[true, true, false, false, true, false, false, false, false, false, false, false, false, false, false, false, false, false, false, false, false, false, false, false] rfl rfl (any_of HT_.out (by kernel_rfl)) (fun _ _ _ h => h) (Or.inl ⟨by rfl, ?_⟩) ?_ ?_
                 rotate_left
                 ·intro w'
                  go_simp
                  with_reducible rfl
                 rotate_left
                 ·simp only [Act.put, List.setIfInBounds_toArray, List.set_cons_zero, List.set_cons_succ, i64_w, i32_w]
                  rfl
                 refine pure_ (i := 5) (N := some 120) (v := ?_) (a' := ?_) #[true, true, false, false, true, true, false, false, false, false, false, false, false, false, false, false, false, false, false, false, false, false, false, false] rfl rfl (any_of HT_.out (by kernel_rfl)) (fun _ _ _ h => h) (Or.inl ⟨by rfl, ?_⟩) ?_ ?_
                 rotate_left
                 ·intro w'
                  go_simp
                  with_reducible rfl
                 rotate_left
                 ·simp only [Act.put, List.setIfInBounds_toArray, List.set_cons_zero, List.set_cons_succ, i64_w, i32_w]
                  rfl
                 refine pure_ (i := 9) (N := some 124) (v := ?_) (a' := ?_) #[true, true, false, false, true, true, false, false, false, true, false, false, false, false, false, false, false, false, false, false, false, false, false, false] rfl rfl (any_of HT_.out (by kernel_rfl)) (fun _ _ _ h => h) (Or.inl ⟨by rfl, ?_⟩) ?_ ?_
                 rotate_left
                 ·intro w'
                  go_simp
                  with_reducible rfl
                 rotate_left
                 ·simp only [Act.put, List.setIfInBounds_toArray, List.set_cons_zero, List.set_cons_succ, i64_w, i32_w]
                  rfl
                 refine pure_ (i := 10) (N := some 125) (v := ?_) (a' := ?_) #[true, true, false, false, true, true, false, false, false, true, true, false, false, false, false, false, false, false, false, false, false, false, false, false] rfl rfl (any_of HT_.out (by kernel_rfl)) (fun _ _ _ h => h) (Or.inl ⟨by rfl, ?_⟩) ?_ ?_
                 rotate_left
                 ·intro w'
                  go_simp
                  with_reducible rfl
                 rotate_left
                 ·simp only [Act.put, List.setIfInBounds_toArray, List.set_cons_zero, List.set_cons_succ, i64_w, i32_w]
                  rfl
                 refine pure_ (i := 13) (N := some 128) (v := ?_) (a' := ?_) #[true, true, false, false, true, true, false, false, false, true, true, false, false, true, false, false, false, false, false, false, false, false, false, false] rfl rfl (any_of HT_.out (by kernel_rfl)) (fun _ _ _ h => h) (Or.inl ⟨by rfl, ?_⟩) ?_ ?_
                 rotate_left
                 ·intro w'
                  go_simp
                  with_reducible rfl
                 rotate_left
                 ·simp only [Act.put, List.setIfInBounds_toArray, List.set_cons_zero, List.set_cons_succ, i64_w, i32_w]
                  rfl
                 refine pure_ (i := 15) (N := some 130) (v := ?_) (a' := ?_) #[true, true, false, false, true, true, false, false, false, true, true, false, false, true, false, true, false, false, false, false, false, false, false, false] rfl rfl (any_of HT_.out (by kernel_rfl)) (fun _ _ _ h => h) (Or.inl ⟨by rfl, ?_⟩) ?_ ?_
                 rotate_left
                 ·intro w'
                  go_simp
                  with_reducible rfl
                 rotate_left
                 ·simp only [Act.put, List.setIfInBounds_toArray, List.set_cons_zero, List.set_cons_succ, i64_w, i32_w]
                  rfl
                 refine pure_ (i := 17) (N := some 132) (v := ?_) (a' := ?_) #[true, true, false, false, true, true, false, false, false, true, true, false, false, true, false, true, false, true, false, false, false, false, false, false] rfl rfl (any_of HT_.out (by kernel_rfl)) (fun _ _ _ h => h) (Or.inl ⟨by rfl, ?_⟩) ?_ ?_
                 rotate_left
                 ·intro w'
                  go_simp
                  with_reducible rfl
                 rotate_left
                 ·simp only [Act.put, List.setIfInBounds_toArray, List.set_cons_zero, List.set_cons_succ, i64_w, i32_w]
                  rfl
                 refine pure_ (i := 18) (N := some 133) (v := ?_) (a' := ?_) #[true, true, false, false, true, true, false, false, false, true, true, false, false, true, false, true, false, true, true, false, false, false, false, false] rfl rfl (any_of HT_.out (by kernel_rfl)) (fun _ _ _ h => h) (Or.inl ⟨by rfl, ?_⟩) ?_ ?_
                 rotate_left
                 ·intro w'
                  go_simp
                  with_reducible rfl
                 rotate_left
                 ·simp only [Act.put, List.setIfInBounds_toArray, List.set_cons_zero, List.set_cons_succ, i64_w, i32_w]
                  rfl
                 refine pure_ (i := 19) (N := some 134) (v := ?_) (a' := ?_) #[true, true, false, false, true, true, false, false, false, true, true, false, false, true, false, true, false, true, true, true, false, false, false, false] rfl rfl (any_of HT_.out (by kernel_rfl)) (fun _ _ _ h => h) (Or.inl ⟨by rfl, ?_⟩) ?_ ?_
                 rotate_left
                 ·intro w'
                  go_simp
                  with_reducible rfl
                 rotate_left
                 ·simp only [Act.put, List.setIfInBounds_toArray, List.set_cons_zero, List.set_cons_succ, i64_w, i32_w]
                  rfl
                 refine pure_ (i := 20) (N := some 135) (v := ?_) (a' := ?_) #[true, true, false, false, true, true, false, false, false, true, true, false, false, true, false, true, false, true, true, true, true, false, false, false] rfl rfl (any_of HT_.out (by kernel_rfl)) (fun _ _ _ h => h) (Or.inl ⟨by rfl, ?_⟩) ?_ ?_
                 rotate_left
                 ·intro w'
                  go_simp
                  with_reducible rfl
                 rotate_left
                 ·simp only [Act.put, List.setIfInBounds_toArray, List.set_cons_zero, List.set_cons_succ, i64_w, i32_w]
                  rfl
                 refine take_ (i := 2) (N := some 117) (v := ?_) (a' := ?_) #[true, true, true, false, true, true, false, false, false, true, true, false, false, true, false, true, false, true, true, true, true, false, false, false] rfl rfl (take_ofW HT_.out HW_.out (by kernel_rfl)) (fun _ _ _ h => h) (Or.inl ⟨by rfl, ?_⟩) hHeld ?_ ?_
                 rotate_left
                 ·rintro w' ⟨s0, s1, s2⟩
                  go_simp
                  with_reducible rfl
                 rotate_left
                 ·simp only [Act.put, List.setIfInBounds_toArray, List.set_cons_zero, List.set_cons_succ, i64_w, i32_w]
                  rfl
                 refine pure_ (i := 3) (N := some 118) (v := ?_) (a' := ?_) #[true, true, true, true, true, true, false, false, false, true, true, false, false, true, false, true, false, true, true, true, true, false, false, false] rfl rfl (any_of HT_.out (by kernel_rfl)) (fun _ _ _ h => h) (Or.inl ⟨by rfl, ?_⟩) ?_ ?_
                 rotate_left
                 ·intro w'
                  go_simp
                  with_reducible rfl
                 rotate_left
                 ·simp only [Act.put, List.setIfInBounds_toArray, List.set_cons_zero, List.set_cons_succ, i64_w, i32_w]
                  rfl
                 refine take_ (i := 6) (N := some 121) (v := ?_) (a' := ?_) #[true, true, true, true, true, true, true, false, false, true, true, false, false, true, false, true, false, true, true, true, true, false, false, false] rfl rfl (take_ofW HT_.out HW_.out (by kernel_rfl)) (fun _ _ _ h => h) (Or.inl ⟨by rfl, ?_⟩) hHeld ?_ ?_
                 rotate_left
                 ·rintro w' ⟨s0, s1, s2⟩
                  go_simp
                  with_reducible rfl
                 rotate_left
                 ·simp only [Act.put, List.setIfInBounds_toArray, List.set_cons_zero, List.set_cons_succ, i64_w, i32_w]
                  rfl
                 refine pure_ (i := 7) (N := some 122) (v := ?_) (a' := ?_) #[true, true, true, true, true, true, true, true, false, true, true, false, false, true, false, true, false, true, true, true, true, false, false, false] rfl rfl (any_of HT_.out (by kernel_rfl)) (fun _ _ _ h => h) (Or.inl ⟨by rfl, ?_⟩) ?_ ?_
                 rotate_left
                 ·intro w'
                  go_simp
                  with_reducible rfl
                 rotate_left
                 ·simp only [Act.put, List.setIfInBounds_toArray, List.set_cons_zero, List.set_cons_succ, i64_w, i32_w]
                  rfl
                 refine pure_ (i := 8) (N := some 123) (v := ?_) (a' := ?_) #[true, true, true, true, true, true, true, true, true, true, true, false, false, true, false, true, false, true, true, true, true, false, false, false] rfl rfl (any_of HT_.out (by kernel_rfl)) (fun _ _ _ h => h) (Or.inl ⟨by rfl, ?_⟩) ?_ ?_
                 rotate_left
                 ·intro w'
                  go_simp
                  with_reducible rfl
                 rotate_left
                 ·simp only [Act.put, List.setIfInBounds_toArray, List.set_cons_zero, List.set_cons_succ, i64_w, i32_w]
                  rfl
                 refine take_ (i := 11) (N := some 126) (v := ?_) (a' := ?_) #[true, true, true, true, true, true, true, true, true, true, true, true, false, true, false, true, false, true, true, true, true, false, false, false] rfl rfl (take_ofW HT_.out HW_.out (by kernel_rfl)) (fun _ _ _ h => h) (Or.inl ⟨by rfl, ?_⟩) hHeld ?_ ?_
                 rotate_left
                 ·rintro w' ⟨s0, s1, s2⟩
                  go_simp
                  with_reducible rfl
                 rotate_left
                 ·simp only [Act.put, List.setIfInBounds_toArray, List.set_cons_zero, List.set_cons_succ, i64_w, i32_w]
                  rfl
                 refine pure_ (i := 12) (N := some 127) (v := ?_) (a' := ?_) #[true, true, true, true, true, true, true, true, true, true, true, true, true, true, false, true, false, true, true, true, true, false, false, false] rfl rfl (any_of HT_.out (by kernel_rfl)) (fun _ _ _ h => h) (Or.inl ⟨by rfl, ?_⟩) ?_ ?_
                 rotate_left
                 ·intro w'
                  go_simp
                  with_reducible rfl
                 rotate_left
                 ·simp only [Act.put, List.setIfInBounds_toArray, List.set_cons_zero, List.set_cons_succ, i64_w, i32_w]
                  rfl
                 refine pure_ (i := 14) (N := some 129) (v := ?_) (a' := ?_) #[true, true, true, true, true, true, true, true, true, true, true, true, true, true, true, true, false, true, true, true, true, false, false, false] rfl rfl (any_of HT_.out (by kernel_rfl)) (fun _ _ _ h => h) (Or.inl ⟨by rfl, ?_⟩) ?_ ?_
                 rotate_left
                 ·intro w'
                  go_simp
                  with_reducible rfl
                 rotate_left
                 ·simp only [Act.put, List.setIfInBounds_toArray, List.set_cons_zero, List.set_cons_succ, i64_w, i32_w]
                  rfl
                 refine pure_ (i := 16) (N := some 131) (v := ?_) (a' := ?_) (pT 24 21) rfl rfl (any_of HT_.out (by kernel_rfl)) (fun _ _ _ h => h) (Or.inl ⟨by rfl, ?_⟩) ?_ ?_
                 rotate_left
                 ·intro w'
                  go_simp
                  with_reducible rfl
                 rotate_left
                 ·simp only [Act.put, List.setIfInBounds_toArray, List.set_cons_zero, List.set_cons_succ, i64_w, i32_w]
                  rfl
                 refine join_ (σ := Nat) 1 (pT 24 23) (fun s_ => [(136, .agg #[.int .i64 t351, .int .i64 t352]), (21, .pointer (some ⟨s_, 0, none⟩))]) (fun s_ w' => (w'.cell? ad348 = some (.int .i64 (rd x16_3 0)) ∧ w'.cell? ⟨ad348.block, ad348.off + 1, none⟩ = some (.int .i64 (rd x16_3 1)) ∧ w'.cell? ⟨ad348.block, ad348.off + 2, none⟩ = some (.int .i64 (rd x16_3 2))) ∧ (Kd.R (Kd.int .i64) 3 w' w.heap.size (fun _ => True) (.slice (some ad348) x16_3.length co101) x16_3) ∧ (w'.heap[gb321]? = some (.cells #[.int .i64 x322000_3, .int .i64 x322001_3] 23 (0, 0))) ∧ (w'.heap[s_]? = some (.cells #[.int .i64 0, .int .i64 0] 23 (0, 0))) ∧ (w.heap.size ≤ s_) ∧ (w.heap.size ≤ s_) ∧ (gb321 ≠ s_) ∧ (s_ ≠ gb321) ∧ (Below w.heap.size w w')) ?_ ?_
                 rotate_left
                 ·intro hCont
                  refine two_ (i := 21) (j := 22) (Ni := some 136) (Nj := some 21) (pT 24 22) #[true, true, true, true, true, true, true, true, true, true, true, true, true, true, true, true, true, true, true, true, true, false, true, false] rfl rfl rfl rfl (two_of HT_.out (by kernel_rfl)) (by decide) (by decide) (fun K hK => ?_) (fun K hK => ?_)
                  ·skip
                   refine goes_ Tryz.func40 (by kernel_rfl) rfl #[.int .i64 (wrap64 ((wrap64 ((wrap64 ((wrap64 ((wrap64 ((rd x16_3 0) * 3600)) + (wrap64 ((rd x16_3 1) * 60)))) + (rd x16_3 2))) * x7_9)) + x6_9)), .int .i64 (wrap64 ((wrap64 (a0 * 3600)) * x7_9))] (by rfl) rfl rfl (by (try simp only [List.map_toArray, List.map_cons, List.map_nil]); first | done | rfl | (simp only [List.length_drop, List.length_take]; rfl)) ?_
                   with_reducible refine (impl_part.calls kj55 (wrap64 ((wrap64 ((wrap64 ((wrap64 ((wrap64 ((rd x16_3 0) * 3600)) + (wrap64 ((rd x16_3 1) * 60)))) + (rd x16_3 2))) * x7_9)) + x6_9)) (wrap64 ((wrap64 (a0 * 3600)) * x7_9)) t351 t352 _ A73.out).mono ?_
                   rintro e w102 ⟨rfl, hb⟩
                   have HS0_ := (hb.cell (World.block_lt_of_cell? _ _ (hHeld.1))).trans (hHeld.1)
                   have HS1_ := (hb.cell (World.block_lt_of_cell? _ _ (hHeld.2.1))).trans (hHeld.2.1)
                   have HS2_ := (hb.cell (World.block_lt_of_cell? _ _ (hHeld.2.2))).trans (hHeld.2.2)
                   refine ⟨_, rfl, ?_⟩
                   have n0_ := Am (Kd.R_below (kW HO_16) hb)
                   have hp0 := pA BK321 hb
                   have hv := vK HB hb
                   have n2_ := Am (bT hv hb)
                   clear HO_16 HB
                   have HO_16 := n0_
                   replace BK321 := hp0 BK321
                   have HB := n2_
                   clear n0_ n2_ hp0 hv
                   (try clear hb)
                   refine hK.out _ _ ⟨HS0_, HS1_, HS2_⟩ (fun hHeld => ?_)
                   clear hK K
                   refine norm_ (a' := ?_) ?_ ?_
                   rotate_left
                   ·show Act.put _ (some 136) _ = _
                    simp only [Act.put, List.setIfInBounds_toArray, List.set_cons_zero, List.set_cons_succ, i64_w, i32_w]
                    rfl
                   refine one_ (i := 22) (N := some 21) (pT 24 23) rfl rfl (one_of HT_.out (by kernel_rfl)) (by decide) (fun K hK => ?_)
                   refine box_step ?hg (N := 21) ?hd (cs := #[.int .i64 0, .int .i64 0]) (t := 23) ?hr ?_; (case hd => rfl); (case hg => rfl); (case hr => first | (go_simp; done) | (go_simp; rfl))
                   intro gb353 hg w103 hbox hb
                   have HS0_ := (hb.cell (World.block_lt_of_cell? _ _ (hHeld.1))).trans (hHeld.1)
                   have HS1_ := (hb.cell (World.block_lt_of_cell? _ _ (hHeld.2.1))).trans (hHeld.2.1)
                   have HS2_ := (hb.cell (World.block_lt_of_cell? _ _ (hHeld.2.2))).trans (hHeld.2.2)
                   have n0_ := Am (Kd.R_below (kW HO_16) hb)
                   have hp0 := pA BK321 hb
                   have hv := vK HB hb
                   have n2_ := Am (bT hv hb)
                   have n3_ := Am (hbox)
                   have GW353 := kG hg hv
                   have GE353 := kG hg hv
                   have hp1 := pK BK321 hb
                   obtain ⟨NB321_353, NB353_321⟩ := kXY hg hp1 BK321
                   clear HO_16 HB
                   have HO_16 := n0_
                   replace BK321 := hp0 BK321
                   have HB := n2_; have BK353 := n3_
                   clear n2_ n3_ hp0 hp1 hv hb hbox hg
                   refine hK.out _ _ ⟨HS0_, HS1_, HS2_⟩ (fun hHeld => ?_)
                   clear hK K
                   refine norm_ (a' := ?_) ?_ ?_
                   rotate_left
                   ·show Act.put _ (some 21) _ = _
                    simp only [Act.put, List.setIfInBounds_toArray, List.set_cons_zero, List.set_cons_succ, i64_w, i32_w]
                    rfl
                   exact norm_ (by simp only [putAll, Act.put, List.setIfInBounds_toArray, List.set_cons_zero, List.set_cons_succ]) (hCont (gb353) _ ⟨hHeld, (kW HO_16), (kU BK321), (kU BK353), GW353.out, GE353.out, NB321_353.out, NB353_321.out, (by repeat (first | (with_reducible first | exact HB.out | apply bA | apply bN | apply bD | refine bX ?_ (by assumption)) | exact HB.out))⟩)
                  skip
                  refine box_step ?hg (N := 21) ?hd (cs := #[.int .i64 0, .int .i64 0]) (t := 23) ?hr ?_; (case hd => rfl); (case hg => rfl); (case hr => first | (go_simp; done) | (go_simp; rfl))
                  intro gb353 hg w102 hbox hb
                  have HS0_ := (hb.cell (World.block_lt_of_cell? _ _ (hHeld.1))).trans (hHeld.1)
                  have HS1_ := (hb.cell (World.block_lt_of_cell? _ _ (hHeld.2.1))).trans (hHeld.2.1)
                  have HS2_ := (hb.cell (World.block_lt_of_cell? _ _ (hHeld.2.2))).trans (hHeld.2.2)
                  have n0_ := Am (Kd.R_below (kW HO_16) hb)
                  have hp0 := pA BK321 hb
                  have hv := vK HB hb
                  have n2_ := Am (bT hv hb)
                  have n3_ := Am (hbox)
                  have GW353 := kG hg hv
                  have GE353 := kG hg hv
                  have hp1 := pK BK321 hb
                  obtain ⟨NB321_353, NB353_321⟩ := kXY hg hp1 BK321
                  clear HO_16 HB
                  have HO_16 := n0_
                  replace BK321 := hp0 BK321
                  have HB := n2_; have BK353 := n3_
                  clear n2_ n3_ hp0 hp1 hv hb hbox hg
                  refine hK.out _ _ ⟨HS0_, HS1_, HS2_⟩ (fun hHeld => ?_)
                  clear hK K
                  refine norm_ (a' := ?_) ?_ ?_
                  rotate_left
                  ·show Act.put _ (some 21) _ = _
                   simp only [Act.put, List.setIfInBounds_toArray, List.set_cons_zero, List.set_cons_succ, i64_w, i32_w]
                   rfl
                  refine one_ (i := 21) (N := some 136) (pT 24 23) rfl rfl (one_of HT_.out (by kernel_rfl)) (by decide) (fun K hK => ?_)
                  refine goes_ Tryz.func40 (by kernel_rfl) rfl #[.int .i64 (wrap64 ((wrap64 ((wrap64 ((wrap64 ((wrap64 ((rd x16_3 0) * 3600)) + (wrap64 ((rd x16_3 1) * 60)))) + (rd x16_3 2))) * x7_9)) + x6_9)), .int .i64 (wrap64 ((wrap64 (a0 * 3600)) * x7_9))] (by rfl) rfl rfl (by (try simp only [List.map_toArray, List.map_cons, List.map_nil]); first | done | rfl | (simp only [List.length_drop, List.length_take]; rfl)) ?_
                  with_reducible refine (impl_part.calls kj55 (wrap64 ((wrap64 ((wrap64 ((wrap64 ((wrap64 ((rd x16_3 0) * 3600)) + (wrap64 ((rd x16_3 1) * 60)))) + (rd x16_3 2))) * x7_9)) + x6_9)) (wrap64 ((wrap64 (a0 * 3600)) * x7_9)) t351 t352 _ A73.out).mono ?_
                  rintro e w103 ⟨rfl, hb⟩
                  have HS0_ := (hb.cell (World.block_lt_of_cell? _ _ (hHeld.1))).trans (hHeld.1)
                  have HS1_ := (hb.cell (World.block_lt_of_cell? _ _ (hHeld.2.1))).trans (hHeld.2.1)
                  have HS2_ := (hb.cell (World.block_lt_of_cell? _ _ (hHeld.2.2))).trans (hHeld.2.2)
                  refine ⟨_, rfl, ?_⟩
                  have n0_ := Am (Kd.R_below (kW HO_16) hb)
                  have hp0 := pA BK321 hb
                  have hv := vK HB hb
                  have n3_ := Am (bT hv hb)
                  clear HO_16 HB
                  have HO_16 := n0_
                  replace BK321 := hp0 BK321; replace BK353 := hp0 BK353
                  have HB := n3_
                  clear n0_ n3_ hp0 hv
                  (try clear hb)
                  refine hK.out _ _ ⟨HS0_, HS1_, HS2_⟩ (fun hHeld => ?_)
                  clear hK K
                  refine norm_ (a' := ?_) ?_ ?_
                  rotate_left
                  ·show Act.put _ (some 136) _ = _
                   simp only [Act.put, List.setIfInBounds_toArray, List.set_cons_zero, List.set_cons_succ, i64_w, i32_w]
                   rfl
                  exact norm_ (by simp only [putAll, Act.put, List.setIfInBounds_toArray, List.set_cons_zero, List.set_cons_succ]) (hCont (gb353) _ ⟨hHeld, (kW HO_16), (kU BK321), (kU BK353), GW353.out, GE353.out, NB321_353.out, NB353_321.out, (by repeat (first | (with_reducible first | exact HB.out | apply bA | apply bN | apply bD | refine bX ?_ (by assumption)) | exact HB.out))⟩)
                 rintro gb353 w104 ⟨hS_, h0_, h1_, h2_, h3_, h4_, h5_, h6_, h7_⟩
                 have n0_ : Aside0 (Kd.R (Kd.int .i64) 3 w104 w.heap.size (fun _ => True) (.slice (some ad348) x16_3.length co101) x16_3) := ⟨h0_⟩
                 have n1_ : Aside0 (w104.heap[gb321]? = some (.cells #[.int .i64 x322000_3, .int .i64 x322001_3] 23 (0, 0))) := ⟨h1_⟩
                 have n2_ : Aside0 (w104.heap[gb353]? = some (.cells #[.int .i64 0, .int .i64 0] 23 (0, 0))) := ⟨h2_⟩
                 have n3_ : Aside0 (w.heap.size ≤ gb353) := ⟨h3_⟩
                 have n4_ : Aside0 (w.heap.size ≤ gb353) := ⟨h4_⟩
                 have n5_ : Aside0 (gb321 ≠ gb353) := ⟨h5_⟩
                 have n6_ : Aside0 (gb353 ≠ gb321) := ⟨h6_⟩
                 have n7_ : Aside0 (Below w.heap.size w w104) := ⟨h7_⟩
                 clear HO_16 BK321 HB h0_ h1_ h2_ h3_ h4_ h5_ h6_ h7_
                 have HO_16 := n0_; have BK321 := n1_; have BK353 := n2_; have GW353 := n3_; have GE353 := n4_; have NB321_353 := n5_; have NB353_321 := n6_; have HB := n7_
                 clear n0_ n1_ n2_ n3_ n4_ n5_ n6_ n7_
                 have hHeld : w104.cell? ad348 = some (.int .i64 (rd x16_3 0)) ∧ w104.cell? ⟨ad348.block, ad348.off + 1, none⟩ = some (.int .i64 (rd x16_3 1)) ∧ w104.cell? ⟨ad348.block, ad348.off + 2, none⟩ = some (.int .i64 (rd x16_3 2)) := hS_
                 refine norm_ (a' := ?_) ?_ ?_
                 rotate_left
                 ·simp only [putAll, Act.put, List.setIfInBounds_toArray, List.set_cons_zero, List.set_cons_succ]
                  rfl
                 refine one_ (i := 23) (N := none) (pT 24 24) rfl rfl (one_of HT_.out (by kernel_rfl)) (by decide) (fun K hK => ?_)
                 have hs105 : w104.cell? ⟨gb353, 0, none⟩ = some (.int .i64 0) := zc20 BK353.out
                 have hfs105 := kF BK353.out 0
                 have hns105_0 := NB321_353.out; have hms105_0 := NB353_321.out
                 have hs106 : w104.cell? ⟨gb353, 1, none⟩ = some (.int .i64 0) := zc21 BK353.out
                 have hfs106 := kF BK353.out 1
                 have hns106_0 := NB321_353.out; have hms106_0 := NB353_321.out
                 refine skip_ (w1 := ?_) (by rfl) rfl ?_ ?_
                 rotate_left
                 ·go_simp
                  rfl
                 have e0_ : ad348.block ≠ gb353 := Kd.own_blk (Kd.R_ne HO_16.out BK353.out (by decide))
                 refine hK.out _ _ ⟨?_, ?_, ?_⟩ (fun hHeld => ?_)
                 · exact (cell_far (p := ⟨gb353, 1, none⟩) (a := ad348) e0_ _).trans ((cell_far (p := ⟨gb353, 0, none⟩) (a := ad348) e0_ _).trans (hHeld.1))
                 · exact (cell_far (p := ⟨gb353, 1, none⟩) (a := ⟨ad348.block, ad348.off + 1, none⟩) e0_ _).trans ((cell_far (p := ⟨gb353, 0, none⟩) (a := ⟨ad348.block, ad348.off + 1, none⟩) e0_ _).trans (hHeld.2.1))
                 · exact (cell_far (p := ⟨gb353, 1, none⟩) (a := ⟨ad348.block, ad348.off + 2, none⟩) e0_ _).trans ((cell_far (p := ⟨gb353, 0, none⟩) (a := ⟨ad348.block, ad348.off + 2, none⟩) e0_ _).trans (hHeld.2.2))
                 clear e0_
                 clear hK K
                 refine done_ (done_of HT_.out (by kernel_rfl)) ?_
                 have nq107 := kO NB353_321
                 have zq108 := zc2 BK353
                 try go_wp2_with (first | ((with_reducible refine gate_callee (f := 18) rfl ?_); refine gL (some 140) Tryz.func18 #[.int .i64 a0, .agg #[.int .i64 t351, .int .i64 t352]] rfl ?_; (with_reducible refine (impl_TimeText.calls kj55 a0 t351 t352 t354 false _ (tabs_stay TABH_.out (show Below w.heap.size w _ from by repeat (first | (with_reducible first | exact HB.out | apply bA | apply bN | apply bD | refine bX ?_ (by assumption)) | exact HB.out))) A74.out).mono ?_); rintro e w109 ⟨rfl, hb⟩; refine ⟨_, rfl, ?_⟩; have n0_ := Am (Kd.R_below (by (with_reducible repeat (first | apply Kd.R_alloc | apply Kd.R_drewN | apply Kd.R_drew)); exact (Kd.R_mono (Kd.R_far (p := ⟨gb353, 1, none⟩) (Kd.R_far (p := ⟨gb353, 0, none⟩) (Kd.R_types HO_16.out BK353.out (by decide)) (fun _ hk => hk.2) (.int .i64 t351)) (fun _ hk => hk.2) (.int .i64 t352)) (fun _ h_ => h_.1))) hb); have hp0 := pB gb353 BK321 hb; have n2_ := Am (kB (g := gb353) (o := .cells #[.int .i64 t351, .int .i64 t352] 23 (0, 0)) (by (with_reducible repeat (first | refine kN ?_ _ | refine kD ?_ | refine kA ?_ _)); refine kP (cs := #[.int .i64 t351, .int .i64 0]) ?_ 1 _ rfl; (with_reducible repeat (first | refine kN ?_ _ | refine kD ?_ | refine kA ?_ _)); refine kP (cs := #[.int .i64 0, .int .i64 0]) ?_ 0 _ rfl; (with_reducible repeat (first | refine kN ?_ _ | refine kD ?_ | refine kA ?_ _)); exact BK353.out) hb); have hv := vK HB hb; have n3_ := Am (bT hv hb); clear HO_16; clear BK353; clear HB; have HO_16 := n0_; replace BK321 := hp0 NB321_353 BK321; have BK353 := n2_; have HB := n3_; clear n0_ n2_ n3_ hp0 hv; (try clear hb); (try clear hk); have zq110 := zc2 BK321))
                 refine bodyPost_ret (results_ct rfl _ _ gb321 23 #[.int .i64 0, .int .i64 0] (0, 0) _ rfl (by (with_reducible repeat (first | refine kN ?_ _ | refine kD ?_ | refine kA ?_ _)); refine kP (cs := #[.int .i64 0, .int .i64 x322001_3]) ?_ 1 _ rfl; (with_reducible repeat (first | refine kN ?_ _ | refine kD ?_ | refine kA ?_ _)); refine kP (cs := #[.int .i64 x322000_3, .int .i64 x322001_3]) ?_ 0 _ rfl; (with_reducible repeat (first | refine kN ?_ _ | refine kD ?_ | refine kA ?_ _)); exact BK321.out) Tryz.underlying23 rfl (by kernel_rfl)) rfl ?_
                 exact ⟨by first | rfl | (simp [errW_none, errW_some] <;> rfl) | (simp [*, errW_none, errW_some] <;> rfl), by repeat (first | (with_reducible first | exact HB.out | apply bA | apply bN | apply bD | refine bX ?_ (by assumption)) | exact HB.out)⟩
               rw [if_neg c72] at H
               exact absurd H (by simp)
              rw [if_neg c71] at H
              exact absurd H (by simp)
             rw [if_neg c70] at H
             exact absurd H (by simp)
         rw [if_neg c39] at H
         exact absurd H (by simp)
        rw [if_neg c38] at H
        exact absurd H (by simp)
       rw [if_neg c37] at H
       exact absurd H (by simp)
      rw [if_neg c36] at H
      exact absurd H (by simp)
     rw [if_neg c35] at H
     exact absurd H (by simp)
    rw [if_neg c34] at H
    exact absurd H (by simp)
  rw [if_neg c9] at H
  exact absurd H (by simp)
end Go.Proofs.YtchglfpiicaedaaGreatDoor.PFnHandsStandOfAll
