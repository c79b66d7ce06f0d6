-- WRITTEN BY A PROGRAM OF THIS SESSION (wip/tools): its own text, not the kit's printed one.
import Derived.Test.YtchglfpiicaedaaGreatDoorPFnHandsStandOfAllx0
import Derived.Test.YtchglfpiicaedaaGreatDoorPFnHandsStandOfAllx2
import Derived.Test.YtchglfpiicaedaaGreatDoorPFnHandsStandOfAllx3
import Derived.Test.YtchglfpiicaedaaGreatDoorPFnHandsStandOfAllx10
namespace Go.Proofs.YtchglfpiicaedaaGreatDoor.PFnHandsStandOfAll
open Go.RowKit Go.Proofs.YtchglfpiicaedaaGreatDoorW.PrintWords Go.Proofs.YtchglfpiicaedaaGreatDoorW.PrintLast Go.Proofs.YtchglfpiicaedaaGreatDoorW.PrintMore
attribute [local go_sem] max2_int min2_int max_two min_two max_three min_three max_four min_four   -- for this text's walks alone
set_option linter.unusedVariables false
set_option linter.unusedSimpArgs false

theorem w64m (x : Int) : wrap64 (x % 256) = x % 256 := by unfold wrap64; omega
/-! ### spec_diParse: function 54 -/
mutual
def spec_diParse.j0 : Nat → Int → ByteArray → Bool → Option (Int × Int × Bool)
 | 0, _, _, _ => none
 | k + 1, x0, x1, x18 => if x18 = true then (some (0, 0, false)) else (spec_diParse.l0 k x0 x1 ([] : List Int) 0)
def spec_diParse.l0 : Nat → Int → ByteArray → List Int → Int → Option (Int × Int × Bool)
 | 0, _, _, _, _ => none
 | k + 1, x0, x1, x6, x7 => if x7 < 8 then (if (Int.tmod x7 3) = 2 then (if 0 ≤ x7 then (if x7 < (x1.size : Int) then (if (bt x1 x7) = 58 then (spec_diParse.l0 k x0 x1 x6 (wrap64 (x7 + 1))) else (some (0, 0, false))) else (none)) else (none)) else (if 0 ≤ x7 then (if x7 < (x1.size : Int) then (if (bt x1 x7) < 48 then (spec_diParse.j2 k x0 x1 x6 x7 true) else (spec_diParse.j2 k x0 x1 x6 x7 (decide ((bt x1 x7) > 57)))) else (none)) else (none))) else (if 0 < (x6.length : Int) then (if (rd x6 0) ≥ x0 then (spec_diParse.j3 k x0 x1 x6 true) else (if 1 < (x6.length : Int) then (if (rd x6 1) > 59 then (spec_diParse.j3 k x0 x1 x6 true) else (if 2 < (x6.length : Int) then (spec_diParse.j3 k x0 x1 x6 (decide ((rd x6 2) > 59))) else (none))) else (none))) else (none))
def spec_diParse.j2 : Nat → Int → ByteArray → List Int → Int → Bool → Option (Int × Int × Bool)
 | 0, _, _, _, _, _ => none
 | k + 1, x0, x1, x6, x7, x46 => if x46 = true then (some (0, 0, false)) else (if (Int.tmod x7 3) = 0 then (if 0 ≤ x7 then (if x7 < (x1.size : Int) then (if x6.length < 17592186044416 then (spec_diParse.l0 k x0 x1 (x6 ++ [10 * (((bt x1 x7) - 48) % 256)]) (wrap64 (x7 + 1))) else (none)) else (none)) else (none)) else (if 0 ≤ (wrap64 ((x6.length : Int) - 1)) then (if (wrap64 ((x6.length : Int) - 1)) < (x6.length : Int) then (if 0 ≤ x7 then (if x7 < (x1.size : Int) then (spec_diParse.l0 k x0 x1 (x6.set ((wrap64 ((x6.length : Int) - 1)) : Int).toNat (wrap64 ((rd x6 (wrap64 ((x6.length : Int) - 1))) + (((bt x1 x7) - 48) % 256)))) (wrap64 (x7 + 1))) else (none)) else (none)) else (none)) else (none)))
def spec_diParse.j3 : Nat → Int → ByteArray → List Int → Bool → Option (Int × Int × Bool)
 | 0, _, _, _, _ => none
 | k + 1, x0, x1, x6, x87 => if x87 = true then (some (0, 0, false)) else (if (x1.size : Int) > 8 then (if 9 ≤ (x1.size : Int) then ((spec_l1Split.f k (x1.extract 9 x1.size) 47).bind fun t395 => (if 8 < (x1.size : Int) then (if (bt x1 8) = 43 then (spec_diParse.j4 k x0 x6 t395 ((t395.length : Int) != 2)) else (spec_diParse.j4 k x0 x6 t395 true)) else (none))) else (none)) else (if 0 < (x6.length : Int) then (if 1 < (x6.length : Int) then (if 2 < (x6.length : Int) then ((spec_diMake.f k (wrap64 ((wrap64 ((wrap64 ((wrap64 ((wrap64 ((wrap64 ((rd x6 0) * 60)) + (rd x6 1))) * 60)) + (rd x6 2))) * 1)) + 0)) (wrap64 ((wrap64 (x0 * 3600)) * 1))).bind fun bt413 => (some (bt413.1, bt413.2.1, bt413.2.2))) else (none)) else (none)) else (none)))
def spec_diParse.j4 : Nat → Int → List Int → List ByteArray → Bool → Option (Int × Int × Bool)
 | 0, _, _, _, _ => none
 | k + 1, x0, x6, x10, x102 => if x102 = true then (some (0, 0, false)) else (if 0 < (x10.length : Int) then ((spec_l1Read.f k (rdOf ByteArray.empty x10 0)).bind fun t399 => (if 1 < (x10.length : Int) then ((spec_l1Read.f k (rdOf ByteArray.empty x10 1)).bind fun t401 => (if t401 < 2 then (some (0, 0, false)) else ((spec_l1In.f t399 1 (wrap64 (t401 - 1))).bind fun t402 => (if t402 = true then ((spec_diCommon.f k t399 t401).bind fun t403 => (if t403 = 1 then (if 0 < (x6.length : Int) then (if 1 < (x6.length : Int) then (if 2 < (x6.length : Int) then ((spec_diMake.f k (wrap64 ((wrap64 ((wrap64 ((wrap64 ((wrap64 ((wrap64 ((rd x6 0) * 60)) + (rd x6 1))) * 60)) + (rd x6 2))) * t401)) + t399)) (wrap64 ((wrap64 (x0 * 3600)) * t401))).bind fun bt407 => (some (bt407.1, bt407.2.1, bt407.2.2))) else (none)) else (none)) else (none)) else (some (0, 0, false)))) else (some (0, 0, false)))))) else (none))) else (none))
end
def spec_diParse.f (k : Nat) (a0 : Int) (a1 : ByteArray) : Option (Int × Int × Bool) := if (a1.size : Int) < 8 then (spec_diParse.j0 k a0 a1 true) else (spec_diParse.j0 k a0 a1 (decide ((a1.size : Int) > 22)))
theorem spec_diParse.mono_l : ∀ k, (∀ y0 y1 y2, LeO (spec_diParse.j0 k y0 y1 y2) (spec_diParse.j0 (k + 1) y0 y1 y2)) ∧ (∀ y0 y1 y2 y3, LeO (spec_diParse.l0 k y0 y1 y2 y3) (spec_diParse.l0 (k + 1) y0 y1 y2 y3)) ∧ (∀ y0 y1 y2 y3 y4, LeO (spec_diParse.j2 k y0 y1 y2 y3 y4) (spec_diParse.j2 (k + 1) y0 y1 y2 y3 y4)) ∧ (∀ y0 y1 y2 y3, LeO (spec_diParse.j3 k y0 y1 y2 y3) (spec_diParse.j3 (k + 1) y0 y1 y2 y3)) ∧ (∀ y0 y1 y2 y3, LeO (spec_diParse.j4 k y0 y1 y2 y3) (spec_diParse.j4 (k + 1) y0 y1 y2 y3))
 | 0 => ⟨fun _ _ _ r h => by simp [spec_diParse.j0] at h, fun _ _ _ _ r h => by simp [spec_diParse.l0] at h, fun _ _ _ _ _ r h => by simp [spec_diParse.j2] at h, fun _ _ _ _ r h => by simp [spec_diParse.j3] at h, fun _ _ _ _ r h => by simp [spec_diParse.j4] at h⟩
 | k + 1 => by
  obtain ⟨ih0, ih1, ih2, ih3, ih4⟩ := spec_diParse.mono_l k
  refine ⟨?_, ?_, ?_, ?_, ?_⟩
  ·intro y0 y1 y2
   unfold spec_diParse.j0
   repeat' first
   | (with_reducible apply ih0)
   | (with_reducible apply ih1)
   | (with_reducible apply ih2)
   | (with_reducible apply ih3)
   | (with_reducible apply ih4)
   | (with_reducible exact spec_diCommon.mono _ _ _)
   | (with_reducible exact spec_diMake.mono _ _ _)
   | (with_reducible exact spec_l1Read.mono _ _)
   | (with_reducible exact spec_l1Split.mono _ _ _)
   | (with_reducible exact LeO.refl _)
   | (with_reducible exact LeO.none _)
   | (with_reducible refine LeO.ite ?_ ?_)
   | (with_reducible refine LeO.bind ?_ (fun _ => ?_))
   | apply ih0
   | apply ih1
   | apply ih2
   | apply ih3
   | apply ih4
   | exact spec_diCommon.mono _ _ _
   | exact spec_diMake.mono _ _ _
   | exact spec_l1Read.mono _ _
   | exact spec_l1Split.mono _ _ _
   | exact LeO.none _
   | refine LeO.ite ?_ ?_
   | refine LeO.bind ?_ (fun _ => ?_)
  ·intro y0 y1 y2 y3
   unfold spec_diParse.l0
   repeat' first
   | (with_reducible apply ih0)
   | (with_reducible apply ih1)
   | (with_reducible apply ih2)
   | (with_reducible apply ih3)
   | (with_reducible apply ih4)
   | (with_reducible exact spec_diCommon.mono _ _ _)
   | (with_reducible exact spec_diMake.mono _ _ _)
   | (with_reducible exact spec_l1Read.mono _ _)
   | (with_reducible exact spec_l1Split.mono _ _ _)
   | (with_reducible exact LeO.refl _)
   | (with_reducible exact LeO.none _)
   | (with_reducible refine LeO.ite ?_ ?_)
   | (with_reducible refine LeO.bind ?_ (fun _ => ?_))
   | apply ih0
   | apply ih1
   | apply ih2
   | apply ih3
   | apply ih4
   | exact spec_diCommon.mono _ _ _
   | exact spec_diMake.mono _ _ _
   | exact spec_l1Read.mono _ _
   | exact spec_l1Split.mono _ _ _
   | exact LeO.none _
   | refine LeO.ite ?_ ?_
   | refine LeO.bind ?_ (fun _ => ?_)
  ·intro y0 y1 y2 y3 y4
   unfold spec_diParse.j2
   repeat' first
   | (with_reducible apply ih0)
   | (with_reducible apply ih1)
   | (with_reducible apply ih2)
   | (with_reducible apply ih3)
   | (with_reducible apply ih4)
   | (with_reducible exact spec_diCommon.mono _ _ _)
   | (with_reducible exact spec_diMake.mono _ _ _)
   | (with_reducible exact spec_l1Read.mono _ _)
   | (with_reducible exact spec_l1Split.mono _ _ _)
   | (with_reducible exact LeO.refl _)
   | (with_reducible exact LeO.none _)
   | (with_reducible refine LeO.ite ?_ ?_)
   | (with_reducible refine LeO.bind ?_ (fun _ => ?_))
   | apply ih0
   | apply ih1
   | apply ih2
   | apply ih3
   | apply ih4
   | exact spec_diCommon.mono _ _ _
   | exact spec_diMake.mono _ _ _
   | exact spec_l1Read.mono _ _
   | exact spec_l1Split.mono _ _ _
   | exact LeO.none _
   | refine LeO.ite ?_ ?_
   | refine LeO.bind ?_ (fun _ => ?_)
  ·intro y0 y1 y2 y3
   unfold spec_diParse.j3
   repeat' first
   | (with_reducible apply ih0)
   | (with_reducible apply ih1)
   | (with_reducible apply ih2)
   | (with_reducible apply ih3)
   | (with_reducible apply ih4)
   | (with_reducible exact spec_diCommon.mono _ _ _)
   | (with_reducible exact spec_diMake.mono _ _ _)
   | (with_reducible exact spec_l1Read.mono _ _)
   | (with_reducible exact spec_l1Split.mono _ _ _)
   | (with_reducible exact LeO.refl _)
   | (with_reducible exact LeO.none _)
   | (with_reducible refine LeO.ite ?_ ?_)
   | (with_reducible refine LeO.bind ?_ (fun _ => ?_))
   | apply ih0
   | apply ih1
   | apply ih2
   | apply ih3
   | apply ih4
   | exact spec_diCommon.mono _ _ _
   | exact spec_diMake.mono _ _ _
   | exact spec_l1Read.mono _ _
   | exact spec_l1Split.mono _ _ _
   | exact LeO.none _
   | refine LeO.ite ?_ ?_
   | refine LeO.bind ?_ (fun _ => ?_)
  ·intro y0 y1 y2 y3
   unfold spec_diParse.j4
   repeat' first
   | (with_reducible apply ih0)
   | (with_reducible apply ih1)
   | (with_reducible apply ih2)
   | (with_reducible apply ih3)
   | (with_reducible apply ih4)
   | (with_reducible exact spec_diCommon.mono _ _ _)
   | (with_reducible exact spec_diMake.mono _ _ _)
   | (with_reducible exact spec_l1Read.mono _ _)
   | (with_reducible exact spec_l1Split.mono _ _ _)
   | (with_reducible exact LeO.refl _)
   | (with_reducible exact LeO.none _)
   | (with_reducible refine LeO.ite ?_ ?_)
   | (with_reducible refine LeO.bind ?_ (fun _ => ?_))
   | apply ih0
   | apply ih1
   | apply ih2
   | apply ih3
   | apply ih4
   | exact spec_diCommon.mono _ _ _
   | exact spec_diMake.mono _ _ _
   | exact spec_l1Read.mono _ _
   | exact spec_l1Split.mono _ _ _
   | exact LeO.none _
   | refine LeO.ite ?_ ?_
   | refine LeO.bind ?_ (fun _ => ?_)
theorem spec_diParse.mono : ∀ a0 a1 k, LeO (spec_diParse.f k a0 a1) (spec_diParse.f (k + 1) a0 a1) := by
 intro a0 a1 k
 obtain ⟨ih0, ih1, ih2, ih3, ih4⟩ := spec_diParse.mono_l k
 unfold spec_diParse.f
 repeat' first
   | (with_reducible apply ih0)
   | (with_reducible apply ih1)
   | (with_reducible apply ih2)
   | (with_reducible apply ih3)
   | (with_reducible apply ih4)
   | (with_reducible exact spec_diCommon.mono _ _ _)
   | (with_reducible exact spec_diMake.mono _ _ _)
   | (with_reducible exact spec_l1Read.mono _ _)
   | (with_reducible exact spec_l1Split.mono _ _ _)
   | (with_reducible exact LeO.refl _)
   | (with_reducible exact LeO.none _)
   | (with_reducible refine LeO.ite ?_ ?_)
   | (with_reducible refine LeO.bind ?_ (fun _ => ?_))
   | apply ih0
   | apply ih1
   | apply ih2
   | apply ih3
   | apply ih4
   | exact spec_diCommon.mono _ _ _
   | exact spec_diMake.mono _ _ _
   | exact spec_l1Read.mono _ _
   | exact spec_l1Split.mono _ _ _
   | exact LeO.none _
   | refine LeO.ite ?_ ?_
   | refine LeO.bind ?_ (fun _ => ?_)
def spec_diParse.T7 : Bool × List (List Nat × List Nat) := (true, [([], []), ([], []), ([1], [1]), ([2], [2]), ([0, 3], [0, 3]), ([4], [4]), ([], []), ([], []), ([6, 7], [6, 7]), ([8], [8]), ([9], [9]), ([5, 10], [5, 10]), ([0, 3, 0, 1, 2, 3, 4, 5, 6, 7, 8, 9, 10, 11], [0, 3]), ([12, 11, 0, 1, 2, 3, 4, 5, 6, 7, 8, 9, 10, 11], [11, 12])])
def spec_diParse.B7 : List Nat := [0, 0, 2, 6, 15, 31, 0, 0, 192, 448, 960, 2047, 4095, 8191]
theorem spec_diParse.tab7 : rtab .any (opsOf Tryz.f54 7) = spec_diParse.T7 := by kernel_rfl
theorem spec_diParse.bits7 : waitsOk spec_diParse.T7.2 spec_diParse.B7 = true := by kernel_rfl
def spec_diParse.T26 : Bool × List (List Nat × List Nat) := (true, [([], []), ([0], [0]), ([1], [1]), ([2], [2]), ([], []), ([4], [4]), ([5], [5]), ([3, 6], [3, 6]), ([7], [7]), ([], []), ([9], [9]), ([10], [10]), ([8, 11], [8, 11]), ([], []), ([12, 13], [12, 13]), ([], []), ([14, 15], [14, 15]), ([], []), ([17], [17]), ([], []), ([18, 19], [18, 19]), ([16, 20], [16, 20]), ([21], [21]), ([21], [21]), ([22, 21, 0, 1, 2, 3, 4, 5, 6, 7, 8, 9, 10, 11, 12, 13, 14, 15, 16, 17, 18, 19, 20, 21, 22, 23], [22]), ([23, 24, 0, 1, 2, 3, 4, 5, 6, 7, 8, 9, 10, 11, 12, 13, 14, 15, 16, 17, 18, 19, 20, 21, 22, 23, 24], [23])])
def spec_diParse.B26 : List Nat := [0, 1, 3, 7, 0, 16, 48, 127, 255, 0, 512, 1536, 4095, 0, 16383, 0, 65535, 0, 131072, 0, 917504, 2097151, 4194303, 4194303, 16777215, 33554431]
theorem spec_diParse.tab26 : rtab .any (opsOf Tryz.f54 26) = spec_diParse.T26 := by kernel_rfl
theorem spec_diParse.bits26 : waitsOk spec_diParse.T26.2 spec_diParse.B26 = true := by kernel_rfl
set_option maxHeartbeats 8000000 in
set_option maxRecDepth 100000 in
theorem spec_diParse.calls (k : Nat) (a0 : Int) (a1 : ByteArray) (r1 : Int) (r2 : Int) (r3 : Bool) (w : World) (h : spec_diParse.f k a0 a1 = some (r1, r2, r3)) :
  Calls Tryz.prog 54 #[.int .i64 a0, .string a1] w fun e w' => e = .returned (.tuple #[.agg #[.int .i64 r1, .int .i64 r2], .bool r3]) ∧ Below w.heap.size w w' := by
 have hu23 := Tryz.underlying23
 have HB := Am (Below.refl w.heap.size w)
 have H : (if (a1.size : Int) < 8 then (spec_diParse.j0 k a0 a1 true) else (spec_diParse.j0 k a0 a1 (decide ((a1.size : Int) > 22)))) = some (r1, r2, r3) := h
 clear h
 have HC3 := Am H
 clear H
 go_enter Tryz.func54, Tryz.ntmps54
 go_upto_region 1 with (first | ((with_reducible refine gate_dst (N := 4) rfl ?_); (try (refine gate_guard (by rfl) ?_; dsimp only)); refine bE 4 #[.int .i64 0, .int .i64 0] 23 ?_; intro gb386 hg w4 hbox hb; have hv := vK HB hb; have n0_ := Am (bT hv hb); have n1_ := Am (hbox); have GE386 := kG hg hv; clear HB; have HB := n0_; have BK386 := n1_; clear n0_ n1_ hv; clear hb hbox hg))
 (try simp only [Act.put, List.setIfInBounds_toArray, List.set_cons_zero, List.set_cons_succ])
 go_cut [18] (fun v18 wc => ∃ (kq : Nat) (x18_2 : Bool), v18 = .bool x18_2 ∧ Aside0 (spec_diParse.j0 kq a0 a1 x18_2 = some (r1, r2, r3)) ∧ Aside0 (kq ≤ k) ∧ Aside0 (wc.heap[gb386]? = some (.cells #[.int .i64 0, .int .i64 0] 23 (0, 0))) ∧ Aside0 (Below w.heap.size w wc))
 case first =>
  have H := HC3.out
  clear HC3
  by_cases c5 : (a1.size : Int) < 8
  ·rw [if_pos c5] at H
   have c5b0 : decide ((a1.size : Int) < 8) = true := decide_eq_true c5
   have c5b1 : decide (a1.size < 8) = true := decide_eq_true (by omega)
   clear c5
   (first | rw [c5b0] | (simp only [i64_w, i32_w]; rw [c5b0]) | skip)
   focus
    have H' := Am H
    clear H
    go_wp2
    go_meet
    case rel => exact ⟨_, (true), (by first | rfl | (simp; done) | (simp [*]; done)), H', ⟨by first | omega | exact Nat.le_refl _⟩, kV BK386, ⟨by repeat (first | (with_reducible first | exact HB.out | apply bA | apply bN | apply bD | refine bX ?_ (by assumption)) | exact HB.out)⟩⟩
  rw [if_neg c5] at H
  have c5b0 : decide ((a1.size : Int) < 8) = false := decide_eq_false c5
  have c5b1 : decide (a1.size < 8) = false := decide_eq_false (by omega)
  clear c5
  (first | rw [c5b0] | (simp only [i64_w, i32_w]; rw [c5b0]) | skip)
  focus
   have H' := Am H
   clear H
   go_wp2
   go_meet
   case rel => exact ⟨_, (decide ((a1.size : Int) > 22)), (by first | rfl | (simp; done) | (simp [*]; done)), H', ⟨by first | omega | exact Nat.le_refl _⟩, kV BK386, ⟨by repeat (first | (with_reducible first | exact HB.out | apply bA | apply bN | apply bD | refine bX ?_ (by assumption)) | exact HB.out)⟩⟩
 clear HC3
 obtain ⟨kq, x18_2, rfl, HA, HJ2, BK386, HB⟩ := hcut
 cases kq with
 | zero => exact absurd HA.out (by simp [spec_diParse.j0])
 | succ kj2 =>
  have H := HA.out
  clear HA
  simp only [spec_diParse.j0] at H
  by_cases c6 : x18_2 = true
  ·subst c6
   have H1 : (some (0, 0, false)) = some (r1, r2, r3) := by rw [if_pos rfl] at H; exact H
   clear H
   have H := H1
   clear H1
   focus
    simp only [Option.some.injEq, Prod.mk.injEq] at H
    obtain ⟨rfl, rfl, rfl⟩ := H
    have zq7 := zc2 BK386
    go_wp2
    refine bodyPost_ret (results_ct rfl _ _ gb386 23 #[.int .i64 0, .int .i64 0] (0, 0) _ rfl (by (with_reducible repeat (first | refine kN ?_ _ | refine kD ?_ | refine kA ?_ _)); refine kP (cs := #[.int .i64 0, .int .i64 0]) ?_ 1 _ rfl; (with_reducible repeat (first | refine kN ?_ _ | refine kD ?_ | refine kA ?_ _)); refine kP (cs := #[.int .i64 0, .int .i64 0]) ?_ 0 _ rfl; (with_reducible repeat (first | refine kN ?_ _ | refine kD ?_ | refine kA ?_ _)); exact BK386.out) Tryz.underlying23 rfl (by kernel_rfl)) rfl ?_
    exact ⟨by first | rfl | (simp [errW_none, errW_some] <;> rfl) | (simp [*, errW_none, errW_some] <;> rfl), by repeat (first | (with_reducible first | exact HB.out | apply bA | apply bN | apply bD | refine bX ?_ (by assumption)) | exact HB.out)⟩
  replace c6 := Bool.eq_false_iff.mpr c6
  subst c6
  have H1 : (spec_diParse.l0 kj2 a0 a1 ([] : List Int) 0) = some (r1, r2, r3) := by rw [if_neg (show ¬ (false = true) by decide)] at H; exact H
  clear H
  have H := H1
  clear H1
  have H' := Am H
  clear H
  go_wp2
  go_loopg [6, 7] kj2 (fun kq v6 v7 w' => ∃ (x6_2 : List Int) (x7_2 : Int) (x387000_2 : Int) (x387001_2 : Int), v7 = .int .i64 x7_2 ∧ Aside0 (spec_diParse.l0 kq a0 a1 x6_2 x7_2 = some (r1, r2, r3)) ∧ Aside0 (kq ≤ kj2) ∧ Aside0 (Kd.R (Kd.int .i64) 3 w' w.heap.size (fun _ => True) v6 x6_2) ∧ Aside0 (w'.heap[gb386]? = some (.cells #[.int .i64 x387000_2, .int .i64 x387001_2] 23 (0, 0))) ∧ Aside0 (Below w.heap.size w w'))
  case atStart => exact ⟨(([] : List Int)), (0), (0), (0), (by first | rfl | (simp; done) | (simp [*]; done)), H', ⟨Nat.le_refl _⟩, ⟨by first | exact Kd.R_nil _ _ _ _ _ | exact Kd.N_nil _ _ _ _ _ | exact Kd.V_nil _ _ _ _ _ | exact Kd.Q_nil _ _ _ _ _ | exact Kd.S_nil _ _ _ _ _⟩, kV BK386, ⟨by repeat (first | (with_reducible first | exact HB.out | apply bA | apply bN | apply bD | refine bX ?_ (by assumption)) | exact HB.out)⟩⟩
  case round =>
   clear H'
   (try clear c6)
   obtain ⟨x6_2, x7_2, x387000_2, x387001_2, rfl, HA, HK2, HO_6, BK386, HB⟩ := hrel
   cases gk with
   | zero => exact absurd HA.out (by simp [spec_diParse.l0])
   | succ k2 =>
    have H := HA.out
    clear HA
    simp only [spec_diParse.l0] at H
    by_cases c8 : x7_2 < 8
    ·rw [if_pos c8] at H
     have c8b0 : decide (x7_2 < 8) = true := decide_eq_true c8
     clear c8
     by_cases c9 : (Int.tmod x7_2 3) = 2
     ·rw [if_pos c9] at H
      have c9b0 : ((Int.tmod x7_2 3) == 2) = true := beq_iff_eq.mpr c9
      have c9b1 : ((Int.tmod x7_2 3) != 2) = false := bne_eq_false_iff_eq.mpr c9
      clear c9
      by_cases c10 : 0 ≤ x7_2
      ·rw [if_pos c10] at H
       have c10b0 : decide (0 ≤ x7_2) = true := decide_eq_true c10
       clear c10
       by_cases c11 : x7_2 < (a1.size : Int)
       ·rw [if_pos c11] at H
        have c11b0 : decide (x7_2 < (a1.size : Int)) = true := decide_eq_true c11
        clear c11
        by_cases c13 : (bt a1 x7_2) = 58
        ·rw [if_pos c13] at H
         have c13b0 : ((bt a1 x7_2) == 58) = true := beq_iff_eq.mpr c13
         have c13b1 : ((bt a1 x7_2) != 58) = false := bne_eq_false_iff_eq.mpr c13
         clear c13
         focus
          have H' := Am H
          clear H
          have p12 : 0 ≤ (x7_2 : Int) := of_decide_eq_true (by first | (with_reducible assumption) | assumption)
          have q12 : x7_2 < (a1.size : Int) := of_decide_eq_true (by first | (with_reducible assumption) | assumption)
          have hx12 := bt_at a1 x7_2
          replace p12 := eq_true p12
          replace q12 := eq_true q12
          go_wp2
          go_roundg k2
          case measure => have := HJ2.out; have := HK2.out; omega
          case rel => exact ⟨(x6_2), (wrap64 (x7_2 + 1)), (x387000_2), (x387001_2), (by first | rfl | (simp; done) | (simp [*]; done)), H', ⟨by have := HJ2.out; have := HK2.out; omega⟩, ⟨kW HO_6⟩, kV BK386, ⟨by repeat (first | (with_reducible first | exact HB.out | apply bA | apply bN | apply bD | refine bX ?_ (by assumption)) | exact HB.out)⟩⟩
        rw [if_neg c13] at H
        have c13b0 : ((bt a1 x7_2) == 58) = false := beq_eq_false_iff_ne.mpr c13
        have c13b1 : ((bt a1 x7_2) != 58) = true := bne_iff_ne.mpr c13
        focus
         simp only [Option.some.injEq, Prod.mk.injEq] at H
         obtain ⟨rfl, rfl, rfl⟩ := H
         have p12 : 0 ≤ (x7_2 : Int) := of_decide_eq_true (by first | (with_reducible assumption) | assumption)
         have q12 : x7_2 < (a1.size : Int) := of_decide_eq_true (by first | (with_reducible assumption) | assumption)
         have hx12 := bt_at a1 x7_2
         replace p12 := eq_true p12
         replace q12 := eq_true q12
         have zq14 := zc2 BK386
         go_wp2
         refine bodyPost_ret (results_ct rfl _ _ gb386 23 #[.int .i64 0, .int .i64 0] (0, 0) _ rfl (by (with_reducible repeat (first | refine kN ?_ _ | refine kD ?_ | refine kA ?_ _)); refine kP (cs := #[.int .i64 0, .int .i64 x387001_2]) ?_ 1 _ rfl; (with_reducible repeat (first | refine kN ?_ _ | refine kD ?_ | refine kA ?_ _)); refine kP (cs := #[.int .i64 x387000_2, .int .i64 x387001_2]) ?_ 0 _ rfl; (with_reducible repeat (first | refine kN ?_ _ | refine kD ?_ | refine kA ?_ _)); exact BK386.out) Tryz.underlying23 rfl (by kernel_rfl)) rfl ?_
         exact ⟨by first | rfl | (simp [errW_none, errW_some] <;> rfl) | (simp [*, errW_none, errW_some] <;> rfl), by repeat (first | (with_reducible first | exact HB.out | apply bA | apply bN | apply bD | refine bX ?_ (by assumption)) | exact HB.out)⟩
       rw [if_neg c11] at H
       exact absurd H (by simp)
      rw [if_neg c10] at H
      exact absurd H (by simp)
     rw [if_neg c9] at H
     have c9b0 : ((Int.tmod x7_2 3) == 2) = false := beq_eq_false_iff_ne.mpr c9
     have c9b1 : ((Int.tmod x7_2 3) != 2) = true := bne_iff_ne.mpr c9
     have HC15 := Am H
     clear H
     go_upto_region 11 with (fail)
     go_cut [46] (fun v46 wc => ∃ (kq : Nat) (x46_14 : Bool), v46 = .bool x46_14 ∧ Aside0 (spec_diParse.j2 kq a0 a1 x6_2 x7_2 x46_14 = some (r1, r2, r3)) ∧ Aside0 (kq ≤ k2) ∧ Aside0 (Kd.R (Kd.int .i64) 3 wc w.heap.size (fun _ => True) u6 x6_2) ∧ Aside0 (wc.heap[gb386]? = some (.cells #[.int .i64 x387000_2, .int .i64 x387001_2] 23 (0, 0))) ∧ Aside0 (Below w.heap.size w wc))
     case first =>
      have H := HC15.out
      clear HC15
      by_cases c16 : 0 ≤ x7_2
      ·rw [if_pos c16] at H
       have c16b0 : decide (0 ≤ x7_2) = true := decide_eq_true c16
       clear c16
       (first | rw [c16b0] | (simp only [i64_w, i32_w]; rw [c16b0]) | skip)
       by_cases c17 : x7_2 < (a1.size : Int)
       ·rw [if_pos c17] at H
        have c17b0 : decide (x7_2 < (a1.size : Int)) = true := decide_eq_true c17
        clear c17
        by_cases c19 : (bt a1 x7_2) < 48
        ·rw [if_pos c19] at H
         have c19b0 : decide ((bt a1 x7_2) < 48) = true := decide_eq_true c19
         clear c19
         focus
          have H' := Am H
          clear H
          have p18 : 0 ≤ (x7_2 : Int) := of_decide_eq_true (by first | (with_reducible assumption) | assumption)
          have q18 : x7_2 < (a1.size : Int) := of_decide_eq_true (by first | (with_reducible assumption) | assumption)
          have hx18 := bt_at a1 x7_2
          replace p18 := eq_true p18
          replace q18 := eq_true q18
          go_wp2
          go_meet
          case rel => exact ⟨_, (true), (by first | rfl | (simp; done) | (simp [*]; done)), H', ⟨by have := HJ2.out; have := HK2.out; first | omega | exact Nat.le_refl _⟩, ⟨kW HO_6⟩, kV BK386, ⟨by repeat (first | (with_reducible first | exact HB.out | apply bA | apply bN | apply bD | refine bX ?_ (by assumption)) | exact HB.out)⟩⟩
        rw [if_neg c19] at H
        have c19b0 : decide ((bt a1 x7_2) < 48) = false := decide_eq_false c19
        clear c19
        focus
         have H' := Am H
         clear H
         have p18 : 0 ≤ (x7_2 : Int) := of_decide_eq_true (by first | (with_reducible assumption) | assumption)
         have q18 : x7_2 < (a1.size : Int) := of_decide_eq_true (by first | (with_reducible assumption) | assumption)
         have hx18 := bt_at a1 x7_2
         replace p18 := eq_true p18
         replace q18 := eq_true q18
         have p20 : 0 ≤ (x7_2 : Int) := of_decide_eq_true (by first | (with_reducible assumption) | assumption)
         have q20 : x7_2 < (a1.size : Int) := of_decide_eq_true (by first | (with_reducible assumption) | assumption)
         have hx20 := bt_at a1 x7_2
         replace p20 := eq_true p20
         replace q20 := eq_true q20
         go_wp2
         go_meet
         case rel => exact ⟨_, (decide ((bt a1 x7_2) > 57)), (by first | rfl | (simp; done) | (simp [*]; done)), H', ⟨by have := HJ2.out; have := HK2.out; first | omega | exact Nat.le_refl _⟩, ⟨kW HO_6⟩, kV BK386, ⟨by repeat (first | (with_reducible first | exact HB.out | apply bA | apply bN | apply bD | refine bX ?_ (by assumption)) | exact HB.out)⟩⟩
       rw [if_neg c17] at H
       exact absurd H (by simp)
      rw [if_neg c16] at H
      exact absurd H (by simp)
     clear HC15
     (try clear c6); (try clear c8); (try clear c8b0); (try clear c9); (try clear c9b0); (try clear c9b1)
     obtain ⟨kq, x46_14, rfl, HA, HJ14, HO_6, BK386, HB⟩ := hcut
     cases kq with
     | zero => exact absurd HA.out (by simp [spec_diParse.j2])
     | succ kj14 =>
      have H := HA.out
      clear HA
      simp only [spec_diParse.j2] at H
      by_cases c21 : x46_14 = true
      ·subst c21
       have H1 : (some (0, 0, false)) = some (r1, r2, r3) := by rw [if_pos rfl] at H; exact H
       clear H
       have H := H1
       clear H1
       focus
        simp only [Option.some.injEq, Prod.mk.injEq] at H
        obtain ⟨rfl, rfl, rfl⟩ := H
        have zq22 := zc2 BK386
        go_wp2
        refine bodyPost_ret (results_ct rfl _ _ gb386 23 #[.int .i64 0, .int .i64 0] (0, 0) _ rfl (by (with_reducible repeat (first | refine kN ?_ _ | refine kD ?_ | refine kA ?_ _)); refine kP (cs := #[.int .i64 0, .int .i64 x387001_2]) ?_ 1 _ rfl; (with_reducible repeat (first | refine kN ?_ _ | refine kD ?_ | refine kA ?_ _)); refine kP (cs := #[.int .i64 x387000_2, .int .i64 x387001_2]) ?_ 0 _ rfl; (with_reducible repeat (first | refine kN ?_ _ | refine kD ?_ | refine kA ?_ _)); exact BK386.out) Tryz.underlying23 rfl (by kernel_rfl)) rfl ?_
        exact ⟨by first | rfl | (simp [errW_none, errW_some] <;> rfl) | (simp [*, errW_none, errW_some] <;> rfl), by repeat (first | (with_reducible first | exact HB.out | apply bA | apply bN | apply bD | refine bX ?_ (by assumption)) | exact HB.out)⟩
      replace c21 := Bool.eq_false_iff.mpr c21
      subst c21
      have H1 : (if (Int.tmod x7_2 3) = 0 then (if 0 ≤ x7_2 then (if x7_2 < (a1.size : Int) then (if x6_2.length < 17592186044416 then (spec_diParse.l0 kj14 a0 a1 (x6_2 ++ [10 * (((bt a1 x7_2) - 48) % 256)]) (wrap64 (x7_2 + 1))) else (none)) else (none)) else (none)) else (if 0 ≤ (wrap64 ((x6_2.length : Int) - 1)) then (if (wrap64 ((x6_2.length : Int) - 1)) < (x6_2.length : Int) then (if 0 ≤ x7_2 then (if x7_2 < (a1.size : Int) then (spec_diParse.l0 kj14 a0 a1 (x6_2.set ((wrap64 ((x6_2.length : Int) - 1)) : Int).toNat (wrap64 ((rd x6_2 (wrap64 ((x6_2.length : Int) - 1))) + (((bt a1 x7_2) - 48) % 256)))) (wrap64 (x7_2 + 1))) else (none)) else (none)) else (none)) else (none))) = some (r1, r2, r3) := by rw [if_neg (show ¬ (false = true) by decide)] at H; exact H
      clear H
      have H := H1
      clear H1
      by_cases c23 : (Int.tmod x7_2 3) = 0
      ·rw [if_pos c23] at H
       have c23b0 : ((Int.tmod x7_2 3) == 0) = true := beq_iff_eq.mpr c23
       have c23b1 : ((Int.tmod x7_2 3) != 0) = false := bne_eq_false_iff_eq.mpr c23
       clear c23
       by_cases c24 : 0 ≤ x7_2
       ·rw [if_pos c24] at H
        have c24b0 : decide (0 ≤ x7_2) = true := decide_eq_true c24
        clear c24
        by_cases c25 : x7_2 < (a1.size : Int)
        ·rw [if_pos c25] at H
         have c25b0 : decide (x7_2 < (a1.size : Int)) = true := decide_eq_true c25
         clear c25
         by_cases c27 : x6_2.length < 17592186044416
         ·rw [if_pos c27] at H
          have LMc27 := Am c27
          clear c27
          obtain ⟨y387, hy387⟩ : ∃ y_ : List Int, y_ = (x6_2 ++ [10 * (((bt a1 x7_2) - 48) % 256)]) := ⟨_, rfl⟩
          replace H : (spec_diParse.l0 kj14 a0 a1 y387 (wrap64 (x7_2 + 1))) = some (r1, r2, r3) := by first | (rw [hy387]; with_reducible exact H) | (have H2_ := (Option.bind_some _ _).symm.trans H; rw [hy387]; with_reducible exact H2_) | (have H2_ := (Option.bind_some _ _).symm.trans H; with_reducible exact H2_) | with_reducible exact H | (rw [hy387]; exact H) | exact H
          have Ny387 := Am hy387
          clear hy387
          focus
           have H' := Am H
           clear H
           have p26 : 0 ≤ (x7_2 : Int) := of_decide_eq_true (by first | (with_reducible assumption) | assumption)
           have q26 : x7_2 < (a1.size : Int) := of_decide_eq_true (by first | (with_reducible assumption) | assumption)
           have hx26 := bt_at a1 x7_2
           replace p26 := eq_true p26
           replace q26 := eq_true q26
           go_wp2_with (first | ((with_reducible refine gate_builtin (b := .append) (xs := #[.tmp 62, .tmp 69]) rfl ?_); (try (refine gate_guard (by rfl) ?_; dsimp only)); at_builtin; refine Kd.R_append (Kd.int .i64) (w0 := w) w.heap.size rfl (.tmp 62) (.tmp 69) 60 3 (.int .i64 0) 8 rfl Tryz.underlying60 info3 rfl (by decide) (by omega) u6 x6_2 (10 * (((bt a1 x7_2) - 48) % 256)) [.int .i64 (10 * (((bt a1 x7_2) - 48) % 256))] (fun _ => True) (fun _ => False) rfl rfl ?aP (fun _ hk => hk.elim) ?aF ?aO ?aB ?aS ?aL ?_; (case aP => exact rfl); (case aB => exact (by repeat (first | (with_reducible first | exact HB.out | apply bA | apply bN | apply bD | refine bX ?_ (by assumption)) | exact HB.out))); (case aF => exact (fun _ _ => trivial)); (case aO => exact (kW HO_6)); (case aS => exact (bZ (by repeat (first | (with_reducible first | exact HB.out | apply bA | apply bN | apply bD | refine bX ?_ (by assumption)) | exact HB.out)))); (case aL => have := LMc27.out; omega); intro v388 w28 ho hb hg hat; rw [← Ny387.out] at ho; have n0_ := Am (blk_grown (g := gb386) (o := .cells #[.int .i64 x387000_2, .int .i64 x387001_2] 23 (0, 0)) (kU BK386) hg (Kd.R_ne HO_6.out BK386.out (by decide))); have n1_ := Am (hb); have n2_ := Am (ho); clear BK386; clear HB; clear HO_6; have BK386 := n0_; have HB := n1_; have HO389 := n2_; clear n0_ n1_ n2_; clear ho hb hg hat))
           go_roundg kj14
           case measure => have := HJ2.out; have := HK2.out; have := HJ14.out; omega
           case rel => exact ⟨(y387), (wrap64 (x7_2 + 1)), (x387000_2), (x387001_2), (by first | rfl | (simp; done) | (simp [*]; done)), H', ⟨by have := HJ2.out; have := HK2.out; have := HJ14.out; omega⟩, ⟨kW HO389⟩, kV BK386, ⟨by repeat (first | (with_reducible first | exact HB.out | apply bA | apply bN | apply bD | refine bX ?_ (by assumption)) | exact HB.out)⟩⟩
         rw [if_neg c27] at H
         exact absurd H (by simp)
        rw [if_neg c25] at H
        exact absurd H (by simp)
       rw [if_neg c24] at H
       exact absurd H (by simp)
      rw [if_neg c23] at H
      have c23b0 : ((Int.tmod x7_2 3) == 0) = false := beq_eq_false_iff_ne.mpr c23
      have c23b1 : ((Int.tmod x7_2 3) != 0) = true := bne_iff_ne.mpr c23
      obtain ⟨ji29, hji29⟩ : ∃ j_ : Int, (wrap64 ((x6_2.length : Int) - 1)) = j_ := ⟨_, rfl⟩
      replace H : (if 0 ≤ (ji29) then (if (ji29) < (x6_2.length : Int) then (if 0 ≤ x7_2 then (if x7_2 < (a1.size : Int) then (spec_diParse.l0 kj14 a0 a1 (x6_2.set ((ji29) : Int).toNat (wrap64 ((rd x6_2 (ji29)) + (((bt a1 x7_2) - 48) % 256)))) (wrap64 (x7_2 + 1))) else (none)) else (none)) else (none)) else (none)) = some (r1, r2, r3) := by first | (rw [hji29] at H; exact H) | (simp only [hji29] at H ⊢; exact H)
      have hji29w : (IntKind.i64.wrap ((x6_2.length : Int) - 1)) = ji29 := (i64_w _).trans hji29
      by_cases c30 : 0 ≤ (ji29)
      ·rw [if_pos c30] at H
       have c30b0 : decide (0 ≤ (ji29)) = true := decide_eq_true c30
       clear c30
       by_cases c31 : (ji29) < (x6_2.length : Int)
       ·rw [if_pos c31] at H
        have c31b0 : decide ((ji29) < (x6_2.length : Int)) = true := decide_eq_true c31
        clear c31
        by_cases c32 : 0 ≤ x7_2
        ·rw [if_pos c32] at H
         have c32b0 : decide (0 ≤ x7_2) = true := decide_eq_true c32
         clear c32
         by_cases c33 : x7_2 < (a1.size : Int)
         ·rw [if_pos c33] at H
          have c33b0 : decide (x7_2 < (a1.size : Int)) = true := decide_eq_true c33
          clear c33
          obtain ⟨y391, hy391⟩ : ∃ y_ : List Int, y_ = (x6_2.set ((ji29) : Int).toNat (wrap64 ((rd x6_2 (ji29)) + (((bt a1 x7_2) - 48) % 256)))) := ⟨_, rfl⟩
          replace H : (spec_diParse.l0 kj14 a0 a1 y391 (wrap64 (x7_2 + 1))) = some (r1, r2, r3) := by first | (rw [hy391]; with_reducible exact H) | (have H2_ := (Option.bind_some _ _).symm.trans H; rw [hy391]; with_reducible exact H2_) | (have H2_ := (Option.bind_some _ _).symm.trans H; with_reducible exact H2_) | with_reducible exact H | (rw [hy391]; exact H) | exact H
          have Ny391 := Am hy391
          clear hy391
          focus
           have H' := Am H
           clear H
           try go_wp2
           have n0_ := Am (Kd.R_drew HO_6.out)
           have n1_ := Am (kD BK386.out)
           have n2_ := Am (bD HB.out)
           clear HO_6 BK386 HB
           have HO_6 := n0_; have BK386 := n1_; have HB := n2_
           clear n0_ n1_ n2_
           obtain ⟨Ao37, co37, eo37⟩ := Kd.R_slice HO_6.out
           (first | subst eo37 | (injection eo37 with f1_ f2_ f3_; have f4_ := f1_.symm; have f5_ := f3_.symm; clear f1_ f2_ f3_; subst f4_; subst f5_))
           have p390 : 0 ≤ ((ji29) : Int) := of_decide_eq_true (by first | (with_reducible assumption) | assumption)
           have q390 : (ji29) < (x6_2.length : Int) := of_decide_eq_true (by first | (with_reducible assumption) | assumption)
           obtain ⟨ad390, e390, hx390_0⟩ := Kd.at_int (Kd.R_reads' HO_6.out).2.2 (ji29) p390 q390
           cases e390
           replace p390 := eq_true p390
           replace q390 := eq_true q390
           have p34 : 0 ≤ (x7_2 : Int) := of_decide_eq_true (by first | (with_reducible assumption) | assumption)
           have q34 : x7_2 < (a1.size : Int) := of_decide_eq_true (by first | (with_reducible assumption) | assumption)
           have hx34 := bt_at a1 x7_2
           replace p34 := eq_true p34
           replace q34 := eq_true q34
           have p35 : 0 ≤ ((ji29) : Int) := of_decide_eq_true (by first | (with_reducible assumption) | assumption)
           have q35 : ((ji29) : Int) < ((x6_2.length : Int) : Int) := of_decide_eq_true (by first | (with_reducible assumption) | assumption)
           obtain ⟨go35, co35, eo35, gb35, gl35, cl35, HG35⟩ := Kd.R_form HO_6.out (by omega)
           (first | cases eo35 | (injection eo35 with ea_ en_ ec_; (first | subst ea_ | (injection ea_ with ea_; subst ea_)); subst ec_; clear en_))
           have GB35 := Am gb35
           have GG35 := Am HG35
           clear gb35 gl35 HG35
           (first | simp only [add_plain] at hx390_0 | skip)
           obtain ⟨hx35_0, hf35_0⟩ := Kd.R_celln 0 HO_6.out ((ji29) : Int) p35 q35
           replace p35 := eq_true p35
           replace q35 := eq_true q35
           have HP38 := Kd.R_putn HO_6.out ((ji29) : Int) (wrap64 ((rd x6_2 (ji29)) + (((bt a1 x7_2) - 48) % 256)))
           rw [← Ny391.out] at HP38
           have HQ38 := Am HP38
           clear HP38
           refine start_ (n := 14) (S := fun w' => w'.cell? ⟨go35, ((ji29)).toNat, none⟩ = some (.int .i64 (rd x6_2 (ji29)))) (ds := [13]) (pT 14 0) (by kernel_rfl) rfl rfl (hx390_0) (fun hHeld => ?_); refine with_tabW spec_diParse.tab7 spec_diParse.bits7 (fun HT_ HW_ => ?_)
           generalize wc.drew = w36 at HO_6 BK386 HB GG35 HQ38 hf35_0 hx35_0 hx390_0 hHeld ⊢
           iterate 5
            refine pI (v := ?_) (a' := ?_) rfl (any_of HT_.out (by kernel_rfl)) (fun _ _ _ h => h) (Or.inl ⟨by rfl, ?_⟩) ?_ ?_
            rotate_left
            ·intro w'
             go_simp
             with_reducible rfl
            rotate_left
            ·show Act.put _ (some _) _ = _
             simp only [Act.put, List.setIfInBounds_toArray, List.set_cons_zero, List.set_cons_succ, i64_w, i32_w]
             rfl
           refine pure_ (i := 6) (N := some 30) (v := ?_) (a' := ?_) #[true, true, true, true, true, false, true, false, false, false, false, false, false, false] rfl rfl (any_of HT_.out (by kernel_rfl)) (fun _ _ _ h => h) (Or.inl ⟨by rfl, ?_⟩) ?_ ?_
           rotate_left
           ·intro w'
            go_simp
            with_reducible rfl
           rotate_left
           ·simp only [Act.put, List.setIfInBounds_toArray, List.set_cons_zero, List.set_cons_succ, i64_w, i32_w]
            rfl
           refine pure_ (i := 7) (N := some 31) (v := ?_) (a' := ?_) #[true, true, true, true, true, false, true, true, false, false, false, false, false, false] rfl rfl (any_of HT_.out (by kernel_rfl)) (fun _ _ _ h => h) (Or.inl ⟨by rfl, ?_⟩) ?_ ?_
           rotate_left
           ·intro w'
            go_simp
            with_reducible rfl
           rotate_left
           ·simp only [Act.put, List.setIfInBounds_toArray, List.set_cons_zero, List.set_cons_succ, i64_w, i32_w]
            rfl
           refine take_ (i := 5) (N := some 29) (v := ?_) (a' := ?_) (pT 14 8) rfl rfl (take_ofW HT_.out HW_.out (by kernel_rfl)) (fun _ _ _ h => h) (Or.inl ⟨by rfl, ?_⟩) hHeld ?_ ?_
           rotate_left
           ·intro w' s0
            go_simp
            with_reducible rfl
           rotate_left
           ·simp only [Act.put, List.setIfInBounds_toArray, List.set_cons_zero, List.set_cons_succ, i64_w, i32_w]
            rfl
           iterate 5
            first
            | refine pI (v := ?_) (a' := ?_) rfl (any_of HT_.out (by kernel_rfl)) (fun _ _ _ h => h) (Or.inl ⟨by rfl, ?_⟩) ?_ ?_
              rotate_left
              ·intro w'
               go_simp
               with_reducible rfl
              rotate_left
              ·show Act.put _ (some _) _ = _
               simp only [Act.put, List.setIfInBounds_toArray, List.set_cons_zero, List.set_cons_succ, i64_w, i32_w]
               rfl
            | refine tI (v := ?_) (a' := ?_) rfl (take_ofW HT_.out HW_.out (by kernel_rfl)) (fun _ _ _ h => h) (Or.inl ⟨by rfl, ?_⟩) hHeld ?_ ?_
              rotate_left
              ·intro w' s0
               go_simp
               with_reducible rfl
              rotate_left
              ·show Act.put _ (some _) _ = _
               simp only [Act.put, List.setIfInBounds_toArray, List.set_cons_zero, List.set_cons_succ, i64_w, i32_w]
               rfl
           refine last_ (i := 13) (N := none) (pT 14 14) rfl rfl (one_of HT_.out (by kernel_rfl)) (by decide) (fun K hK => ?_)
           refine skip_ (w1 := ?_) (by rfl) rfl ?_ ?_
           rotate_left
           ·go_simp
            rfl
           refine hK.out _ _ ?_
           clear hK K
           refine done_ (done_of HT_.out (by kernel_rfl)) ?_
           try go_wp2
           go_roundg kj14
           case measure => have := HJ2.out; have := HK2.out; have := HJ14.out; omega
           case rel => exact ⟨(y391), (wrap64 (x7_2 + 1)), (x387000_2), (x387001_2), (by first | rfl | (simp; done) | (simp [*]; done)), H', ⟨by have := HJ2.out; have := HK2.out; have := HJ14.out; omega⟩, ⟨by (with_reducible repeat (first | apply Kd.R_alloc | apply Kd.R_drewN | apply Kd.R_drew)); first | exact HQ38.out | (simp only [w64m]; exact HQ38.out)⟩, ⟨by (with_reducible repeat (first | refine kN ?_ _ | refine kD ?_ | refine kA ?_ _)); refine kR ?_ (by have h_ := Kd.R_ne HO_6.out BK386.out (by decide); intro e_; exact h_ (by rw [e_]; rfl)) _; (with_reducible repeat (first | refine kN ?_ _ | refine kD ?_ | refine kA ?_ _)); exact BK386.out⟩, ⟨by repeat (first | (with_reducible first | exact HB.out | apply bA | apply bN | apply bD | refine bS ?_ GB35.out | refine bX ?_ (by assumption)) | exact HB.out)⟩⟩
         rw [if_neg c33] at H
         exact absurd H (by simp)
        rw [if_neg c32] at H
        exact absurd H (by simp)
       rw [if_neg c31] at H
       exact absurd H (by simp)
      rw [if_neg c30] at H
      exact absurd H (by simp)
    rw [if_neg c8] at H
    have c8b0 : decide (x7_2 < 8) = false := decide_eq_false c8
    clear c8
    have HC39 := Am H
    clear H
    go_upto_region 15 with (fail)
    go_cut [87] (fun v87 wc => ∃ (kq : Nat) (x87_38 : Bool), v87 = .bool x87_38 ∧ Aside0 (spec_diParse.j3 kq a0 a1 x6_2 x87_38 = some (r1, r2, r3)) ∧ Aside0 (kq ≤ k2) ∧ Aside0 (Kd.R (Kd.int .i64) 3 wc w.heap.size (fun _ => True) u6 x6_2) ∧ Aside0 (wc.heap[gb386]? = some (.cells #[.int .i64 x387000_2, .int .i64 x387001_2] 23 (0, 0))) ∧ Aside0 (Below w.heap.size w wc))
    case first =>
     have H := HC39.out
     clear HC39
     by_cases c40 : 0 < (x6_2.length : Int)
     ·rw [if_pos c40] at H
      have c40b0 : decide (0 < (x6_2.length : Int)) = true := decide_eq_true c40
      have c40b1 : decide (0 < x6_2.length) = true := decide_eq_true (by omega)
      clear c40
      (first | rw [c40b0] | (simp only [i64_w, i32_w]; rw [c40b0]) | skip)
      by_cases c41 : (rd x6_2 0) ≥ a0
      ·rw [if_pos c41] at H
       have c41b0 : decide (a0 ≤ (rd x6_2 0)) = true := decide_eq_true c41
       clear c41
       focus
        have H' := Am H
        clear H
        obtain ⟨Ao42, co42, eo42⟩ := Kd.R_slice HO_6.out
        subst eo42
        have p392 : 0 ≤ (0 : Int) := (by omega)
        have q392 : 0 < (x6_2.length : Int) := of_decide_eq_true (by first | (with_reducible assumption) | assumption)
        obtain ⟨ad392, e392, hx392_0⟩ := Kd.at_int (Kd.R_reads' HO_6.out).2.2 0 p392 q392
        cases e392
        have qi392 : (0 < x6_2.length) = True := eq_true (by omega)
        (try rw [show ((0 : Int)).toNat = 0 from rfl] at hx392_0)
        (try rw [Addr.add_zero'] at hx392_0)
        replace p392 := eq_true p392
        replace q392 := eq_true q392
        go_wp2
        go_meet
        case rel => exact ⟨_, (true), (by first | rfl | (simp; done) | (simp [*]; done)), H', ⟨by have := HJ2.out; have := HK2.out; first | omega | exact Nat.le_refl _⟩, ⟨kW HO_6⟩, kV BK386, ⟨by repeat (first | (with_reducible first | exact HB.out | apply bA | apply bN | apply bD | refine bX ?_ (by assumption)) | exact HB.out)⟩⟩
      rw [if_neg c41] at H
      have c41b0 : decide (a0 ≤ (rd x6_2 0)) = false := decide_eq_false c41
      clear c41
      by_cases c43 : 1 < (x6_2.length : Int)
      ·rw [if_pos c43] at H
       have c43b0 : decide (1 < (x6_2.length : Int)) = true := decide_eq_true c43
       have c43b1 : decide (1 < x6_2.length) = true := decide_eq_true (by omega)
       clear c43
       by_cases c44 : (rd x6_2 1) > 59
       ·rw [if_pos c44] at H
        have c44b0 : decide (59 < (rd x6_2 1)) = true := decide_eq_true c44
        clear c44
        focus
         have H' := Am H
         clear H
         obtain ⟨Ao45, co45, eo45⟩ := Kd.R_slice HO_6.out
         subst eo45
         have p392 : 0 ≤ (0 : Int) := (by omega)
         have q392 : 0 < (x6_2.length : Int) := of_decide_eq_true (by first | (with_reducible assumption) | assumption)
         obtain ⟨ad392, e392, hx392_0⟩ := Kd.at_int (Kd.R_reads' HO_6.out).2.2 0 p392 q392
         cases e392
         have qi392 : (0 < x6_2.length) = True := eq_true (by omega)
         (try rw [show ((0 : Int)).toNat = 0 from rfl] at hx392_0)
         (try rw [Addr.add_zero'] at hx392_0)
         replace p392 := eq_true p392
         replace q392 := eq_true q392
         have p393 : 0 ≤ (1 : Int) := (by omega)
         have q393 : 1 < (x6_2.length : Int) := of_decide_eq_true (by first | (with_reducible assumption) | assumption)
         obtain ⟨ad393, e393, hx393_0⟩ := Kd.at_int (Kd.R_reads' HO_6.out).2.2 1 p393 q393
         obtain rfl : ad392 = ad393 := (by injection e393)
         (try simp only [show (1 : Int).toNat = 1 from rfl, Nat.reduceMul, Nat.reduceEqDiff, Go.Addr.add, ↓reduceIte] at hx393_0)
         have qi393 : (1 < x6_2.length) = True := eq_true (by omega)
         (try rw [show ((1 : Int)).toNat = 1 from rfl] at hx393_0)
         replace p393 := eq_true p393
         replace q393 := eq_true q393
         go_wp2
         go_meet
         case rel => exact ⟨_, (true), (by first | rfl | (simp; done) | (simp [*]; done)), H', ⟨by have := HJ2.out; have := HK2.out; first | omega | exact Nat.le_refl _⟩, ⟨kW HO_6⟩, kV BK386, ⟨by repeat (first | (with_reducible first | exact HB.out | apply bA | apply bN | apply bD | refine bX ?_ (by assumption)) | exact HB.out)⟩⟩
       rw [if_neg c44] at H
       have c44b0 : decide (59 < (rd x6_2 1)) = false := decide_eq_false c44
       clear c44
       by_cases c46 : 2 < (x6_2.length : Int)
       ·rw [if_pos c46] at H
        have c46b0 : decide (2 < (x6_2.length : Int)) = true := decide_eq_true c46
        have c46b1 : decide (2 < x6_2.length) = true := decide_eq_true (by omega)
        clear c46
        focus
         have H' := Am H
         clear H
         obtain ⟨Ao47, co47, eo47⟩ := Kd.R_slice HO_6.out
         subst eo47
         have p392 : 0 ≤ (0 : Int) := (by omega)
         have q392 : 0 < (x6_2.length : Int) := of_decide_eq_true (by first | (with_reducible assumption) | assumption)
         obtain ⟨ad392, e392, hx392_0⟩ := Kd.at_int (Kd.R_reads' HO_6.out).2.2 0 p392 q392
         cases e392
         have qi392 : (0 < x6_2.length) = True := eq_true (by omega)
         (try rw [show ((0 : Int)).toNat = 0 from rfl] at hx392_0)
         (try rw [Addr.add_zero'] at hx392_0)
         replace p392 := eq_true p392
         replace q392 := eq_true q392
         have p393 : 0 ≤ (1 : Int) := (by omega)
         have q393 : 1 < (x6_2.length : Int) := of_decide_eq_true (by first | (with_reducible assumption) | assumption)
         obtain ⟨ad393, e393, hx393_0⟩ := Kd.at_int (Kd.R_reads' HO_6.out).2.2 1 p393 q393
         obtain rfl : ad392 = ad393 := (by injection e393)
         (try simp only [show (1 : Int).toNat = 1 from rfl, Nat.reduceMul, Nat.reduceEqDiff, Go.Addr.add, ↓reduceIte] at hx393_0)
         have qi393 : (1 < x6_2.length) = True := eq_true (by omega)
         (try rw [show ((1 : Int)).toNat = 1 from rfl] at hx393_0)
         replace p393 := eq_true p393
         replace q393 := eq_true q393
         have p394 : 0 ≤ (2 : Int) := (by omega)
         have q394 : 2 < (x6_2.length : Int) := of_decide_eq_true (by first | (with_reducible assumption) | assumption)
         obtain ⟨ad394, e394, hx394_0⟩ := Kd.at_int (Kd.R_reads' HO_6.out).2.2 2 p394 q394
         obtain rfl : ad392 = ad394 := (by injection e394)
         (try simp only [show (2 : Int).toNat = 2 from rfl, Nat.reduceMul, Nat.reduceEqDiff, Go.Addr.add, ↓reduceIte] at hx394_0)
         have qi394 : (2 < x6_2.length) = True := eq_true (by omega)
         (try rw [show ((2 : Int)).toNat = 2 from rfl] at hx394_0)
         replace p394 := eq_true p394
         replace q394 := eq_true q394
         go_wp2
         go_meet
         case rel => exact ⟨_, (decide ((rd x6_2 2) > 59)), (by first | rfl | (simp; done) | (simp [*]; done)), H', ⟨by have := HJ2.out; have := HK2.out; first | omega | exact Nat.le_refl _⟩, ⟨kW HO_6⟩, kV BK386, ⟨by repeat (first | (with_reducible first | exact HB.out | apply bA | apply bN | apply bD | refine bX ?_ (by assumption)) | exact HB.out)⟩⟩
       rw [if_neg c46] at H
       exact absurd H (by simp)
      rw [if_neg c43] at H
      exact absurd H (by simp)
     rw [if_neg c40] at H
     exact absurd H (by simp)
    clear HC39
    (try clear c6); (try clear c8); (try clear c8b0)
    obtain ⟨kq, x87_38, rfl, HA, HJ38, HO_6, BK386, HB⟩ := hcut
    cases kq with
    | zero => exact absurd HA.out (by simp [spec_diParse.j3])
    | succ kj38 =>
     have H := HA.out
     clear HA
     simp only [spec_diParse.j3] at H
     by_cases c48 : x87_38 = true
     ·subst c48
      have H1 : (some (0, 0, false)) = some (r1, r2, r3) := by rw [if_pos rfl] at H; exact H
      clear H
      have H := H1
      clear H1
      focus
       simp only [Option.some.injEq, Prod.mk.injEq] at H
       obtain ⟨rfl, rfl, rfl⟩ := H
       have zq49 := zc2 BK386
       go_wp2
       refine bodyPost_ret (results_ct rfl _ _ gb386 23 #[.int .i64 0, .int .i64 0] (0, 0) _ rfl (by (with_reducible repeat (first | refine kN ?_ _ | refine kD ?_ | refine kA ?_ _)); refine kP (cs := #[.int .i64 0, .int .i64 x387001_2]) ?_ 1 _ rfl; (with_reducible repeat (first | refine kN ?_ _ | refine kD ?_ | refine kA ?_ _)); refine kP (cs := #[.int .i64 x387000_2, .int .i64 x387001_2]) ?_ 0 _ rfl; (with_reducible repeat (first | refine kN ?_ _ | refine kD ?_ | refine kA ?_ _)); exact BK386.out) Tryz.underlying23 rfl (by kernel_rfl)) rfl ?_
       exact ⟨by first | rfl | (simp [errW_none, errW_some] <;> rfl) | (simp [*, errW_none, errW_some] <;> rfl), by repeat (first | (with_reducible first | exact HB.out | apply bA | apply bN | apply bD | refine bX ?_ (by assumption)) | exact HB.out)⟩
     replace c48 := Bool.eq_false_iff.mpr c48
     subst c48
     have H1 : (if (a1.size : Int) > 8 then (if 9 ≤ (a1.size : Int) then ((spec_l1Split.f kj38 (a1.extract 9 a1.size) 47).bind fun t395 => (if 8 < (a1.size : Int) then (if (bt a1 8) = 43 then (spec_diParse.j4 kj38 a0 x6_2 t395 ((t395.length : Int) != 2)) else (spec_diParse.j4 kj38 a0 x6_2 t395 true)) else (none))) else (none)) else (if 0 < (x6_2.length : Int) then (if 1 < (x6_2.length : Int) then (if 2 < (x6_2.length : Int) then ((spec_diMake.f kj38 (wrap64 ((wrap64 ((wrap64 ((wrap64 ((wrap64 ((wrap64 ((rd x6_2 0) * 60)) + (rd x6_2 1))) * 60)) + (rd x6_2 2))) * 1)) + 0)) (wrap64 ((wrap64 (a0 * 3600)) * 1))).bind fun bt413 => (some (bt413.1, bt413.2.1, bt413.2.2))) else (none)) else (none)) else (none))) = some (r1, r2, r3) := by rw [if_neg (show ¬ (false = true) by decide)] at H; exact H
     clear H
     have H := H1
     clear H1
     by_cases c50 : (a1.size : Int) > 8
     ·rw [if_pos c50] at H
      have c50b0 : decide (8 < (a1.size : Int)) = true := decide_eq_true c50
      have c50b1 : decide (8 < a1.size) = true := decide_eq_true (by omega)
      clear c50
      by_cases c51 : 9 ≤ (a1.size : Int)
      ·rw [if_pos c51] at H
       have c51b0 := eq_true c51
       have c51b1 : decide (9 ≤ (a1.size : Int)) = true := decide_eq_true c51
       clear c51
       replace H := Option.bind_eq_some_iff.mp H
       obtain ⟨t395, A520, H⟩ := H
       try dsimp only at H
       have A52 := Am A520
       clear A520
       have HC53 := Am H
       clear H
       go_upto_region 20 with (first | ((with_reducible refine gate_callee (f := 70) rfl ?_); refine gL (some 94) Tryz.func70 #[.string (a1.extract 9 a1.size), .int .u8 47] rfl ?_; (with_reducible refine (spec_l1Split.calls kj38 (a1.extract 9 a1.size) 47 t395 _ A52.out).mono ?_); rintro e w54 ⟨v396, rfl, ho0, hb⟩; refine ⟨_, rfl, ?_⟩; have n0_ := Am (Kd.R_below (kW HO_6) hb); have n1_ := Am (Kd.R_lower ho0 (bZ (by repeat (first | (with_reducible first | exact HB.out | apply bA | apply bN | apply bD | refine bX ?_ (by assumption)) | exact HB.out)))); have hp0 := pA BK386 hb; have hv := vK HB hb; have n3_ := Am (bT hv hb); clear HO_6; clear HB; have HO_6 := n0_; have HO397 := n1_; replace BK386 := hp0 BK386; have HB := n3_; clear n0_ n1_ n3_ hp0 hv; (try clear hb); (try clear ho0)))
       (try simp only [Act.put, List.setIfInBounds_toArray, List.set_cons_zero, List.set_cons_succ])
       go_cut [102] (fun v102 wc => ∃ (kq : Nat) (x102_52 : Bool), v102 = .bool x102_52 ∧ Aside0 (spec_diParse.j4 kq a0 x6_2 t395 x102_52 = some (r1, r2, r3)) ∧ Aside0 (kq ≤ kj38) ∧ Aside0 (Kd.R (Kd.int .i64) 3 wc w.heap.size (fun _ => True) u6 x6_2) ∧ Aside0 (Kd.R Kd.string 9 wc w.heap.size (fun _ => True) v396 t395) ∧ Aside0 (wc.heap[gb386]? = some (.cells #[.int .i64 x387000_2, .int .i64 x387001_2] 23 (0, 0))) ∧ Aside0 (Below w.heap.size w wc))
       case first =>
        have H := HC53.out
        clear HC53
        by_cases c55 : 8 < (a1.size : Int)
        ·rw [if_pos c55] at H
         have c55b0 : decide (8 < (a1.size : Int)) = true := decide_eq_true c55
         have c55b1 : decide (8 < a1.size) = true := decide_eq_true (by omega)
         clear c55
         (first | rw [c55b0] | (simp only [i64_w, i32_w]; rw [c55b0]) | skip)
         by_cases c57 : (bt a1 8) = 43
         ·rw [if_pos c57] at H
          have c57b0 : ((bt a1 8) == 43) = true := beq_iff_eq.mpr c57
          have c57b1 : ((bt a1 8) != 43) = false := bne_eq_false_iff_eq.mpr c57
          clear c57
          focus
           have H' := Am H
           clear H
           have p56 : 0 ≤ (8 : Int) := (by omega)
           have q56 : 8 < a1.size := (by have : (8 : Int) < (a1.size : Int) := of_decide_eq_true (by first | (with_reducible assumption) | assumption); omega)
           have hx56 : ∀ h : 8 < a1.size, ((a1[8]'h).toNat : Int) = bt a1 8 := bt_at a1 8
           clear p56
           have qi56 : (8 < (a1.size : Int)) = True := eq_true (of_decide_eq_true (by first | (with_reducible assumption) | assumption))
           replace q56 := eq_true q56
           obtain ⟨Ao58, co58, eo58⟩ := Kd.R_slice HO397.out
           subst eo58
           go_wp2
           go_meet
           case rel => exact ⟨_, (((t395.length : Int) != 2)), (by first | rfl | (simp; done) | (simp [*]; done)), H', ⟨by have := HJ2.out; have := HK2.out; have := HJ38.out; first | omega | exact Nat.le_refl _⟩, ⟨kW HO_6⟩, ⟨kW HO397⟩, kV BK386, ⟨by repeat (first | (with_reducible first | exact HB.out | apply bA | apply bN | apply bD | refine bX ?_ (by assumption)) | exact HB.out)⟩⟩
         rw [if_neg c57] at H
         have c57b0 : ((bt a1 8) == 43) = false := beq_eq_false_iff_ne.mpr c57
         have c57b1 : ((bt a1 8) != 43) = true := bne_iff_ne.mpr c57
         focus
          have H' := Am H
          clear H
          have p56 : 0 ≤ (8 : Int) := (by omega)
          have q56 : 8 < a1.size := (by have : (8 : Int) < (a1.size : Int) := of_decide_eq_true (by first | (with_reducible assumption) | assumption); omega)
          have hx56 : ∀ h : 8 < a1.size, ((a1[8]'h).toNat : Int) = bt a1 8 := bt_at a1 8
          clear p56
          have qi56 : (8 < (a1.size : Int)) = True := eq_true (of_decide_eq_true (by first | (with_reducible assumption) | assumption))
          replace q56 := eq_true q56
          go_wp2
          go_meet
          case rel => exact ⟨_, (true), (by first | rfl | (simp; done) | (simp [*]; done)), H', ⟨by have := HJ2.out; have := HK2.out; have := HJ38.out; first | omega | exact Nat.le_refl _⟩, ⟨kW HO_6⟩, ⟨kW HO397⟩, kV BK386, ⟨by repeat (first | (with_reducible first | exact HB.out | apply bA | apply bN | apply bD | refine bX ?_ (by assumption)) | exact HB.out)⟩⟩
        rw [if_neg c55] at H
        exact absurd H (by simp)
       clear HC53
       (try clear c6); (try clear c8); (try clear c8b0); (try clear c48); (try clear c50); (try clear c50b0); (try clear c50b1); (try clear c51); (try clear c51b0); (try clear c51b1)
       obtain ⟨kq, x102_52, rfl, HA, HJ52, HO_6, HO_10, BK386, HB⟩ := hcut
       cases kq with
       | zero => exact absurd HA.out (by simp [spec_diParse.j4])
       | succ kj52 =>
        have H := HA.out
        clear HA
        simp only [spec_diParse.j4] at H
        by_cases c59 : x102_52 = true
        ·subst c59
         have H1 : (some (0, 0, false)) = some (r1, r2, r3) := by rw [if_pos rfl] at H; exact H
         clear H
         have H := H1
         clear H1
         focus
          simp only [Option.some.injEq, Prod.mk.injEq] at H
          obtain ⟨rfl, rfl, rfl⟩ := H
          have zq60 := zc2 BK386
          go_wp2
          refine bodyPost_ret (results_ct rfl _ _ gb386 23 #[.int .i64 0, .int .i64 0] (0, 0) _ rfl (by (with_reducible repeat (first | refine kN ?_ _ | refine kD ?_ | refine kA ?_ _)); refine kP (cs := #[.int .i64 0, .int .i64 x387001_2]) ?_ 1 _ rfl; (with_reducible repeat (first | refine kN ?_ _ | refine kD ?_ | refine kA ?_ _)); refine kP (cs := #[.int .i64 x387000_2, .int .i64 x387001_2]) ?_ 0 _ rfl; (with_reducible repeat (first | refine kN ?_ _ | refine kD ?_ | refine kA ?_ _)); exact BK386.out) Tryz.underlying23 rfl (by kernel_rfl)) rfl ?_
          exact ⟨by first | rfl | (simp [errW_none, errW_some] <;> rfl) | (simp [*, errW_none, errW_some] <;> rfl), by repeat (first | (with_reducible first | exact HB.out | apply bA | apply bN | apply bD | refine bX ?_ (by assumption)) | exact HB.out)⟩
        replace c59 := Bool.eq_false_iff.mpr c59
        subst c59
        have H1 : (if 0 < (t395.length : Int) then ((spec_l1Read.f kj52 (rdOf ByteArray.empty t395 0)).bind fun t399 => (if 1 < (t395.length : Int) then ((spec_l1Read.f kj52 (rdOf ByteArray.empty t395 1)).bind fun t401 => (if t401 < 2 then (some (0, 0, false)) else ((spec_l1In.f t399 1 (wrap64 (t401 - 1))).bind fun t402 => (if t402 = true then ((spec_diCommon.f kj52 t399 t401).bind fun t403 => (if t403 = 1 then (if 0 < (x6_2.length : Int) then (if 1 < (x6_2.length : Int) then (if 2 < (x6_2.length : Int) then ((spec_diMake.f kj52 (wrap64 ((wrap64 ((wrap64 ((wrap64 ((wrap64 ((wrap64 ((rd x6_2 0) * 60)) + (rd x6_2 1))) * 60)) + (rd x6_2 2))) * t401)) + t399)) (wrap64 ((wrap64 (a0 * 3600)) * t401))).bind fun bt407 => (some (bt407.1, bt407.2.1, bt407.2.2))) else (none)) else (none)) else (none)) else (some (0, 0, false)))) else (some (0, 0, false)))))) else (none))) else (none)) = some (r1, r2, r3) := by rw [if_neg (show ¬ (false = true) by decide)] at H; exact H
        clear H
        have H := H1
        clear H1
        by_cases c61 : 0 < (t395.length : Int)
        ·rw [if_pos c61] at H
         have c61b0 : decide (0 < (t395.length : Int)) = true := decide_eq_true c61
         have c61b1 : decide (0 < t395.length) = true := decide_eq_true (by omega)
         clear c61
         replace H := Option.bind_eq_some_iff.mp H
         obtain ⟨t399, A620, H⟩ := H
         try dsimp only at H
         have A62 := Am A620
         clear A620
         by_cases c63 : 1 < (t395.length : Int)
         ·rw [if_pos c63] at H
          have c63b0 : decide (1 < (t395.length : Int)) = true := decide_eq_true c63
          have c63b1 : decide (1 < t395.length) = true := decide_eq_true (by omega)
          clear c63
          replace H := Option.bind_eq_some_iff.mp H
          obtain ⟨t401, A640, H⟩ := H
          try dsimp only at H
          have A64 := Am A640
          clear A640
          by_cases c65 : t401 < 2
          ·rw [if_pos c65] at H
           have c65b0 : decide (t401 < 2) = true := decide_eq_true c65
           clear c65
           focus
            simp only [Option.some.injEq, Prod.mk.injEq] at H
            obtain ⟨rfl, rfl, rfl⟩ := H
            obtain ⟨Ao66, co66, eo66⟩ := Kd.R_slice HO_10.out
            subst eo66
            have p398 : 0 ≤ (0 : Int) := (by omega)
            have q398 : 0 < (t395.length : Int) := of_decide_eq_true (by first | (with_reducible assumption) | assumption)
            obtain ⟨ad398, e398, hx398_0⟩ := Kd.at_string (Kd.R_reads' HO_10.out).2.2 0 p398 q398
            cases e398
            have qi398 : (0 < t395.length) = True := eq_true (by omega)
            (try rw [show ((0 : Int)).toNat = 0 from rfl] at hx398_0)
            (try rw [Addr.add_zero'] at hx398_0)
            replace p398 := eq_true p398
            replace q398 := eq_true q398
            go_wp2_with (first | ((with_reducible refine gate_callee (f := 71) rfl ?_); refine gL (some 107) Tryz.func71 #[.string (rdOf ByteArray.empty t395 0)] rfl ?_; (with_reducible refine (spec_l1Read.calls kj52 (rdOf ByteArray.empty t395 0) t399 _ A62.out).mono ?_); rintro e w' ⟨rfl, ⟨nd, rfl⟩⟩; refine ⟨_, rfl, ?_⟩; (try (rw [drewN_self wc]; generalize hq_ : World.drewN wc _ = wc; have n0_ : Aside0 (Kd.R Kd.string 9 wc w.heap.size (fun _ => True) (.slice (some ad398) t395.length co66) t395) := ⟨by rw [← hq_]; exact (kW HO_10)⟩; have n1_ : Aside0 (Kd.R (Kd.int .i64) 3 wc w.heap.size (fun _ => True) u6 x6_2) := ⟨by rw [← hq_]; exact (kW HO_6)⟩; have n2_ : Aside0 (wc.heap[gb386]? = some (.cells #[.int .i64 x387000_2, .int .i64 x387001_2] 23 (0, 0))) := ⟨by rw [← hq_]; exact (kU BK386)⟩; have n3_ : Aside0 (Below w.heap.size w wc) := ⟨by rw [← hq_]; exact (by repeat (first | (with_reducible first | exact HB.out | apply bA | apply bN | apply bD | refine bX ?_ (by assumption)) | exact HB.out))⟩; clear HO_10 HO_6 BK386 HB hq_; have HO_10 := n0_; have HO_6 := n1_; have BK386 := n2_; have HB := n3_; clear n0_ n1_ n2_ n3_)); have p400 : 0 ≤ (1 : Int) := (by omega); have q400 : 1 < (t395.length : Int) := of_decide_eq_true (by first | (with_reducible assumption) | assumption); obtain ⟨ad400, e400, hx400_0⟩ := Kd.at_string (Kd.R_reads' HO_10.out).2.2 1 p400 q400; obtain rfl : ad398 = ad400 := (by injection e400); (try simp only [show (1 : Int).toNat = 1 from rfl, Nat.reduceMul, Nat.reduceEqDiff, Go.Addr.add, ↓reduceIte] at hx400_0); have qi400 : (1 < t395.length) = True := eq_true (by omega); (try rw [show ((1 : Int)).toNat = 1 from rfl] at hx400_0); replace p400 := eq_true p400; replace q400 := eq_true q400) | ((with_reducible refine gate_callee (f := 71) rfl ?_); refine gL (some 111) Tryz.func71 #[.string (rdOf ByteArray.empty t395 1)] rfl ?_; (with_reducible refine (spec_l1Read.calls kj52 (rdOf ByteArray.empty t395 1) t401 _ A64.out).mono ?_); rintro e w' ⟨rfl, ⟨nd, rfl⟩⟩; refine ⟨_, rfl, ?_⟩; (try (rw [drewN_self wc]; generalize hq_ : World.drewN wc _ = wc; have n0_ : Aside0 (Kd.R Kd.string 9 wc w.heap.size (fun _ => True) (.slice (some ad398) t395.length co66) t395) := ⟨by rw [← hq_]; exact (kW HO_10)⟩; have n1_ : Aside0 (Kd.R (Kd.int .i64) 3 wc w.heap.size (fun _ => True) u6 x6_2) := ⟨by rw [← hq_]; exact (kW HO_6)⟩; have n2_ : Aside0 (wc.heap[gb386]? = some (.cells #[.int .i64 x387000_2, .int .i64 x387001_2] 23 (0, 0))) := ⟨by rw [← hq_]; exact (kU BK386)⟩; have n3_ : Aside0 (Below w.heap.size w wc) := ⟨by rw [← hq_]; exact (by repeat (first | (with_reducible first | exact HB.out | apply bA | apply bN | apply bD | refine bX ?_ (by assumption)) | exact HB.out))⟩; clear HO_10 HO_6 BK386 HB hq_; have HO_10 := n0_; have HO_6 := n1_; have BK386 := n2_; have HB := n3_; clear n0_ n1_ n2_ n3_)); have zq67 := zc2 BK386))
            refine bodyPost_ret (results_ct rfl _ _ gb386 23 #[.int .i64 0, .int .i64 0] (0, 0) _ rfl (by (with_reducible repeat (first | refine kN ?_ _ | refine kD ?_ | refine kA ?_ _)); refine kP (cs := #[.int .i64 0, .int .i64 x387001_2]) ?_ 1 _ rfl; (with_reducible repeat (first | refine kN ?_ _ | refine kD ?_ | refine kA ?_ _)); refine kP (cs := #[.int .i64 x387000_2, .int .i64 x387001_2]) ?_ 0 _ rfl; (with_reducible repeat (first | refine kN ?_ _ | refine kD ?_ | refine kA ?_ _)); exact BK386.out) Tryz.underlying23 rfl (by kernel_rfl)) rfl ?_
            exact ⟨by first | rfl | (simp [errW_none, errW_some] <;> rfl) | (simp [*, errW_none, errW_some] <;> rfl), by repeat (first | (with_reducible first | exact HB.out | apply bA | apply bN | apply bD | refine bX ?_ (by assumption)) | exact HB.out)⟩
          rw [if_neg c65] at H
          have c65b0 : decide (t401 < 2) = false := decide_eq_false c65
          clear c65
          replace H := Option.bind_eq_some_iff.mp H
          obtain ⟨t402, A680, H⟩ := H
          try dsimp only at H
          have A68 := Am A680
          clear A680
          by_cases c69 : t402 = true
          ·subst c69
           have H1 : ((spec_diCommon.f kj52 t399 t401).bind fun t403 => (if t403 = 1 then (if 0 < (x6_2.length : Int) then (if 1 < (x6_2.length : Int) then (if 2 < (x6_2.length : Int) then ((spec_diMake.f kj52 (wrap64 ((wrap64 ((wrap64 ((wrap64 ((wrap64 ((wrap64 ((rd x6_2 0) * 60)) + (rd x6_2 1))) * 60)) + (rd x6_2 2))) * t401)) + t399)) (wrap64 ((wrap64 (a0 * 3600)) * t401))).bind fun bt407 => (some (bt407.1, bt407.2.1, bt407.2.2))) else (none)) else (none)) else (none)) else (some (0, 0, false)))) = some (r1, r2, r3) := by rw [if_pos rfl] at H; exact H
           clear H
           have H := H1
           clear H1
           replace H := Option.bind_eq_some_iff.mp H
           obtain ⟨t403, A700, H⟩ := H
           try dsimp only at H
           have A70 := Am A700
           clear A700
           by_cases c71 : t403 = 1
           ·rw [if_pos c71] at H
            have c71b0 : (t403 == 1) = true := beq_iff_eq.mpr c71
            have c71b1 : (t403 != 1) = false := bne_eq_false_iff_eq.mpr c71
            clear c71
            by_cases c72 : 0 < (x6_2.length : Int)
            ·rw [if_pos c72] at H
             have c72b0 : decide (0 < (x6_2.length : Int)) = true := decide_eq_true c72
             have c72b1 : decide (0 < x6_2.length) = true := decide_eq_true (by omega)
             clear c72
             by_cases c73 : 1 < (x6_2.length : Int)
             ·rw [if_pos c73] at H
              have c73b0 : decide (1 < (x6_2.length : Int)) = true := decide_eq_true c73
              have c73b1 : decide (1 < x6_2.length) = true := decide_eq_true (by omega)
              clear c73
              by_cases c74 : 2 < (x6_2.length : Int)
              ·rw [if_pos c74] at H
               have c74b0 : decide (2 < (x6_2.length : Int)) = true := decide_eq_true c74
               have c74b1 : decide (2 < x6_2.length) = true := decide_eq_true (by omega)
               clear c74
               replace H := Option.bind_eq_some_iff.mp H
               obtain ⟨⟨t407, t408, t409⟩, A750, H⟩ := H
               try dsimp only at H
               have A75 := Am A750
               clear A750
               focus
                simp only [Option.some.injEq, Prod.mk.injEq] at H
                obtain ⟨rfl, rfl, rfl⟩ := H
                obtain ⟨Ao76, co76, eo76⟩ := Kd.R_slice HO_10.out
                subst eo76
                have p398 : 0 ≤ (0 : Int) := (by omega)
                have q398 : 0 < (t395.length : Int) := of_decide_eq_true (by first | (with_reducible assumption) | assumption)
                obtain ⟨ad398, e398, hx398_0⟩ := Kd.at_string (Kd.R_reads' HO_10.out).2.2 0 p398 q398
                cases e398
                have qi398 : (0 < t395.length) = True := eq_true (by omega)
                (try rw [show ((0 : Int)).toNat = 0 from rfl] at hx398_0)
                (try rw [Addr.add_zero'] at hx398_0)
                replace p398 := eq_true p398
                replace q398 := eq_true q398
                try go_wp2_with (first | ((with_reducible refine gate_callee (f := 71) rfl ?_); refine gL (some 107) Tryz.func71 #[.string (rdOf ByteArray.empty t395 0)] rfl ?_; (with_reducible refine (spec_l1Read.calls kj52 (rdOf ByteArray.empty t395 0) t399 _ A62.out).mono ?_); rintro e w' ⟨rfl, ⟨nd, rfl⟩⟩; refine ⟨_, rfl, ?_⟩; (try (rw [drewN_self wc]; generalize hq_ : World.drewN wc _ = wc; have n0_ : Aside0 (Kd.R Kd.string 9 wc w.heap.size (fun _ => True) (.slice (some ad398) t395.length co76) t395) := ⟨by rw [← hq_]; exact (kW HO_10)⟩; have n1_ : Aside0 (Kd.R (Kd.int .i64) 3 wc w.heap.size (fun _ => True) u6 x6_2) := ⟨by rw [← hq_]; exact (kW HO_6)⟩; have n2_ : Aside0 (wc.heap[gb386]? = some (.cells #[.int .i64 x387000_2, .int .i64 x387001_2] 23 (0, 0))) := ⟨by rw [← hq_]; exact (kU BK386)⟩; have n3_ : Aside0 (Below w.heap.size w wc) := ⟨by rw [← hq_]; exact (by repeat (first | (with_reducible first | exact HB.out | apply bA | apply bN | apply bD | refine bX ?_ (by assumption)) | exact HB.out))⟩; clear HO_10 HO_6 BK386 HB hq_; have HO_10 := n0_; have HO_6 := n1_; have BK386 := n2_; have HB := n3_; clear n0_ n1_ n2_ n3_)); have p400 : 0 ≤ (1 : Int) := (by omega); have q400 : 1 < (t395.length : Int) := of_decide_eq_true (by first | (with_reducible assumption) | assumption); obtain ⟨ad400, e400, hx400_0⟩ := Kd.at_string (Kd.R_reads' HO_10.out).2.2 1 p400 q400; obtain rfl : ad398 = ad400 := (by injection e400); (try simp only [show (1 : Int).toNat = 1 from rfl, Nat.reduceMul, Nat.reduceEqDiff, Go.Addr.add, ↓reduceIte] at hx400_0); have qi400 : (1 < t395.length) = True := eq_true (by omega); (try rw [show ((1 : Int)).toNat = 1 from rfl] at hx400_0); replace p400 := eq_true p400; replace q400 := eq_true q400) | ((with_reducible refine gate_callee (f := 71) rfl ?_); refine gL (some 111) Tryz.func71 #[.string (rdOf ByteArray.empty t395 1)] rfl ?_; (with_reducible refine (spec_l1Read.calls kj52 (rdOf ByteArray.empty t395 1) t401 _ A64.out).mono ?_); rintro e w' ⟨rfl, ⟨nd, rfl⟩⟩; refine ⟨_, rfl, ?_⟩; (try (rw [drewN_self wc]; generalize hq_ : World.drewN wc _ = wc; have n0_ : Aside0 (Kd.R Kd.string 9 wc w.heap.size (fun _ => True) (.slice (some ad398) t395.length co76) t395) := ⟨by rw [← hq_]; exact (kW HO_10)⟩; have n1_ : Aside0 (Kd.R (Kd.int .i64) 3 wc w.heap.size (fun _ => True) u6 x6_2) := ⟨by rw [← hq_]; exact (kW HO_6)⟩; have n2_ : Aside0 (wc.heap[gb386]? = some (.cells #[.int .i64 x387000_2, .int .i64 x387001_2] 23 (0, 0))) := ⟨by rw [← hq_]; exact (kU BK386)⟩; have n3_ : Aside0 (Below w.heap.size w wc) := ⟨by rw [← hq_]; exact (by repeat (first | (with_reducible first | exact HB.out | apply bA | apply bN | apply bD | refine bX ?_ (by assumption)) | exact HB.out))⟩; clear HO_10 HO_6 BK386 HB hq_; have HO_10 := n0_; have HO_6 := n1_; have BK386 := n2_; have HB := n3_; clear n0_ n1_ n2_ n3_))) | (go_at_call 52; (with_reducible refine (spec_l1In.calls t399 1 (wrap64 (t401 - 1)) true _ A68.out).mono ?_); rintro e w' ⟨rfl, ⟨nd, rfl⟩⟩; (try (rw [drewN_self wc]; generalize hq_ : World.drewN wc _ = wc; have n0_ : Aside0 (Kd.R Kd.string 9 wc w.heap.size (fun _ => True) (.slice (some ad398) t395.length co76) t395) := ⟨by rw [← hq_]; exact (kW HO_10)⟩; have n1_ : Aside0 (Kd.R (Kd.int .i64) 3 wc w.heap.size (fun _ => True) u6 x6_2) := ⟨by rw [← hq_]; exact (kW HO_6)⟩; have n2_ : Aside0 (wc.heap[gb386]? = some (.cells #[.int .i64 x387000_2, .int .i64 x387001_2] 23 (0, 0))) := ⟨by rw [← hq_]; exact (kU BK386)⟩; have n3_ : Aside0 (Below w.heap.size w wc) := ⟨by rw [← hq_]; exact (by repeat (first | (with_reducible first | exact HB.out | apply bA | apply bN | apply bD | refine bX ?_ (by assumption)) | exact HB.out))⟩; clear HO_10 HO_6 BK386 HB hq_; have HO_10 := n0_; have HO_6 := n1_; have BK386 := n2_; have HB := n3_; clear n0_ n1_ n2_ n3_))) | (go_at_call 59; (with_reducible refine (spec_diCommon.calls kj52 t399 t401 t403 _ A70.out).mono ?_); rintro e w' ⟨rfl, ⟨nd, rfl⟩⟩; (try (rw [drewN_self wc]; generalize hq_ : World.drewN wc _ = wc; have n0_ : Aside0 (Kd.R Kd.string 9 wc w.heap.size (fun _ => True) (.slice (some ad398) t395.length co76) t395) := ⟨by rw [← hq_]; exact (kW HO_10)⟩; have n1_ : Aside0 (Kd.R (Kd.int .i64) 3 wc w.heap.size (fun _ => True) u6 x6_2) := ⟨by rw [← hq_]; exact (kW HO_6)⟩; have n2_ : Aside0 (wc.heap[gb386]? = some (.cells #[.int .i64 x387000_2, .int .i64 x387001_2] 23 (0, 0))) := ⟨by rw [← hq_]; exact (kU BK386)⟩; have n3_ : Aside0 (Below w.heap.size w wc) := ⟨by rw [← hq_]; exact (by repeat (first | (with_reducible first | exact HB.out | apply bA | apply bN | apply bD | refine bX ?_ (by assumption)) | exact HB.out))⟩; clear HO_10 HO_6 BK386 HB hq_; have HO_10 := n0_; have HO_6 := n1_; have BK386 := n2_; have HB := n3_; clear n0_ n1_ n2_ n3_))))
                have n0_ := Am (Kd.R_drew HO_6.out)
                have n1_ := Am (Kd.R_drew HO_10.out)
                have n2_ := Am (kD BK386.out)
                have n3_ := Am (bD HB.out)
                clear HO_6 HO_10 BK386 HB
                have HO_6 := n0_; have HO_10 := n1_; have BK386 := n2_; have HB := n3_
                clear n0_ n1_ n2_ n3_
                obtain ⟨Ao78, co78, eo78⟩ := Kd.R_slice HO_6.out
                (first | subst eo78 | (injection eo78 with f1_ f2_ f3_; have f4_ := f1_.symm; have f5_ := f3_.symm; clear f1_ f2_ f3_; subst f4_; subst f5_))
                have p404 : 0 ≤ (0 : Int) := (by omega)
                have q404 : 0 < (x6_2.length : Int) := of_decide_eq_true (by first | (with_reducible assumption) | assumption)
                obtain ⟨ad404, e404, hx404_0⟩ := Kd.at_int (Kd.R_reads' HO_6.out).2.2 0 p404 q404
                cases e404
                have qi404 : (0 < x6_2.length) = True := eq_true (by omega)
                (try rw [show ((0 : Int)).toNat = 0 from rfl] at hx404_0)
                (try rw [Addr.add_zero'] at hx404_0)
                replace p404 := eq_true p404
                replace q404 := eq_true q404
                have p405 : 0 ≤ (1 : Int) := (by omega)
                have q405 : 1 < (x6_2.length : Int) := of_decide_eq_true (by first | (with_reducible assumption) | assumption)
                obtain ⟨ad405, e405, hx405_0⟩ := Kd.at_int (Kd.R_reads' HO_6.out).2.2 1 p405 q405
                obtain rfl : ad404 = ad405 := (by injection e405)
                (try simp only [show (1 : Int).toNat = 1 from rfl, Nat.reduceMul, Nat.reduceEqDiff, Go.Addr.add, ↓reduceIte] at hx405_0)
                have qi405 : (1 < x6_2.length) = True := eq_true (by omega)
                (try rw [show ((1 : Int)).toNat = 1 from rfl] at hx405_0)
                replace p405 := eq_true p405
                replace q405 := eq_true q405
                have p406 : 0 ≤ (2 : Int) := (by omega)
                have q406 : 2 < (x6_2.length : Int) := of_decide_eq_true (by first | (with_reducible assumption) | assumption)
                obtain ⟨ad406, e406, hx406_0⟩ := Kd.at_int (Kd.R_reads' HO_6.out).2.2 2 p406 q406
                obtain rfl : ad404 = ad406 := (by injection e406)
                (try simp only [show (2 : Int).toNat = 2 from rfl, Nat.reduceMul, Nat.reduceEqDiff, Go.Addr.add, ↓reduceIte] at hx406_0)
                have qi406 : (2 < x6_2.length) = True := eq_true (by omega)
                (try rw [show ((2 : Int)).toNat = 2 from rfl] at hx406_0)
                replace p406 := eq_true p406
                replace q406 := eq_true q406
                refine start_ (n := 26) (S := fun w' => w'.cell? ad404 = some (.int .i64 (rd x6_2 0)) ∧ w'.cell? ⟨ad404.block, ad404.off + 1, none⟩ = some (.int .i64 (rd x6_2 1)) ∧ w'.cell? ⟨ad404.block, ad404.off + 2, none⟩ = some (.int .i64 (rd x6_2 2))) (ds := []) (pT 26 0) (by kernel_rfl) rfl rfl ⟨hx404_0, hx405_0, hx406_0⟩ (fun hHeld => ?_); refine with_tabW spec_diParse.tab26 spec_diParse.bits26 (fun HT_ HW_ => ?_)
                generalize wc.drew = w77 at HO_6 HO_10 BK386 HB hx404_0 hx405_0 hx406_0 hHeld ⊢
                iterate 2
                 refine pI (v := ?_) (a' := ?_) rfl (any_of HT_.out (by kernel_rfl)) (fun _ _ _ h => h) (Or.inl ⟨by rfl, ?_⟩) ?_ ?_
                 rotate_left
                 ·intro w'
                  go_simp
                  with_reducible rfl
                 rotate_left
                 ·show Act.put _ (some _) _ = _
                  simp only [Act.put, List.setIfInBounds_toArray, List.set_cons_zero, List.set_cons_succ, i64_w, i32_w]
                  rfl
                refine pure_ (i := 4) (N := some 132) (v := ?_) (a' := ?_) #[true, true, false, false, true, false, false, false, false, false, false, false, false, false, false, false, false, false, false, false, false, false, false, false, false, false] rfl rfl (any_of HT_.out (by kernel_rfl)) (fun _ _ _ h => h) (Or.inl ⟨by rfl, ?_⟩) ?_ ?_
                rotate_left
                ·intro w'
                 go_simp
                 with_reducible rfl
                rotate_left
                ·simp only [Act.put, List.setIfInBounds_toArray, List.set_cons_zero, List.set_cons_succ, i64_w, i32_w]
                 rfl
                refine pure_ (i := 5) (N := some 133) (v := ?_) (a' := ?_) #[true, true, false, false, true, true, false, false, false, false, false, false, false, false, false, false, false, false, false, false, false, false, false, false, false, false] rfl rfl (any_of HT_.out (by kernel_rfl)) (fun _ _ _ h => h) (Or.inl ⟨by rfl, ?_⟩) ?_ ?_
                rotate_left
                ·intro w'
                 go_simp
                 with_reducible rfl
                rotate_left
                ·simp only [Act.put, List.setIfInBounds_toArray, List.set_cons_zero, List.set_cons_succ, i64_w, i32_w]
                 rfl
                refine pure_ (i := 9) (N := some 137) (v := ?_) (a' := ?_) #[true, true, false, false, true, true, false, false, false, true, false, false, false, false, false, false, false, false, false, false, false, false, false, false, false, false] rfl rfl (any_of HT_.out (by kernel_rfl)) (fun _ _ _ h => h) (Or.inl ⟨by rfl, ?_⟩) ?_ ?_
                rotate_left
                ·intro w'
                 go_simp
                 with_reducible rfl
                rotate_left
                ·simp only [Act.put, List.setIfInBounds_toArray, List.set_cons_zero, List.set_cons_succ, i64_w, i32_w]
                 rfl
                refine pure_ (i := 10) (N := some 138) (v := ?_) (a' := ?_) #[true, true, false, false, true, true, false, false, false, true, true, false, false, false, false, false, false, false, false, false, false, false, false, false, false, false] rfl rfl (any_of HT_.out (by kernel_rfl)) (fun _ _ _ h => h) (Or.inl ⟨by rfl, ?_⟩) ?_ ?_
                rotate_left
                ·intro w'
                 go_simp
                 with_reducible rfl
                rotate_left
                ·simp only [Act.put, List.setIfInBounds_toArray, List.set_cons_zero, List.set_cons_succ, i64_w, i32_w]
                 rfl
                refine pure_ (i := 13) (N := some 141) (v := ?_) (a' := ?_) #[true, true, false, false, true, true, false, false, false, true, true, false, false, true, false, false, false, false, false, false, false, false, false, false, false, false] rfl rfl (any_of HT_.out (by kernel_rfl)) (fun _ _ _ h => h) (Or.inl ⟨by rfl, ?_⟩) ?_ ?_
                rotate_left
                ·intro w'
                 go_simp
                 with_reducible rfl
                rotate_left
                ·simp only [Act.put, List.setIfInBounds_toArray, List.set_cons_zero, List.set_cons_succ, i64_w, i32_w]
                 rfl
                refine pure_ (i := 15) (N := some 143) (v := ?_) (a' := ?_) #[true, true, false, false, true, true, false, false, false, true, true, false, false, true, false, true, false, false, false, false, false, false, false, false, false, false] rfl rfl (any_of HT_.out (by kernel_rfl)) (fun _ _ _ h => h) (Or.inl ⟨by rfl, ?_⟩) ?_ ?_
                rotate_left
                ·intro w'
                 go_simp
                 with_reducible rfl
                rotate_left
                ·simp only [Act.put, List.setIfInBounds_toArray, List.set_cons_zero, List.set_cons_succ, i64_w, i32_w]
                 rfl
                refine pure_ (i := 17) (N := some 145) (v := ?_) (a' := ?_) #[true, true, false, false, true, true, false, false, false, true, true, false, false, true, false, true, false, true, false, false, false, false, false, false, false, false] rfl rfl (any_of HT_.out (by kernel_rfl)) (fun _ _ _ h => h) (Or.inl ⟨by rfl, ?_⟩) ?_ ?_
                rotate_left
                ·intro w'
                 go_simp
                 with_reducible rfl
                rotate_left
                ·simp only [Act.put, List.setIfInBounds_toArray, List.set_cons_zero, List.set_cons_succ, i64_w, i32_w]
                 rfl
                refine pure_ (i := 18) (N := some 146) (v := ?_) (a' := ?_) #[true, true, false, false, true, true, false, false, false, true, true, false, false, true, false, true, false, true, true, false, false, false, false, false, false, false] rfl rfl (any_of HT_.out (by kernel_rfl)) (fun _ _ _ h => h) (Or.inl ⟨by rfl, ?_⟩) ?_ ?_
                rotate_left
                ·intro w'
                 go_simp
                 with_reducible rfl
                rotate_left
                ·simp only [Act.put, List.setIfInBounds_toArray, List.set_cons_zero, List.set_cons_succ, i64_w, i32_w]
                 rfl
                refine pure_ (i := 19) (N := some 147) (v := ?_) (a' := ?_) #[true, true, false, false, true, true, false, false, false, true, true, false, false, true, false, true, false, true, true, true, false, false, false, false, false, false] rfl rfl (any_of HT_.out (by kernel_rfl)) (fun _ _ _ h => h) (Or.inl ⟨by rfl, ?_⟩) ?_ ?_
                rotate_left
                ·intro w'
                 go_simp
                 with_reducible rfl
                rotate_left
                ·simp only [Act.put, List.setIfInBounds_toArray, List.set_cons_zero, List.set_cons_succ, i64_w, i32_w]
                 rfl
                refine pure_ (i := 20) (N := some 148) (v := ?_) (a' := ?_) #[true, true, false, false, true, true, false, false, false, true, true, false, false, true, false, true, false, true, true, true, true, false, false, false, false, false] rfl rfl (any_of HT_.out (by kernel_rfl)) (fun _ _ _ h => h) (Or.inl ⟨by rfl, ?_⟩) ?_ ?_
                rotate_left
                ·intro w'
                 go_simp
                 with_reducible rfl
                rotate_left
                ·simp only [Act.put, List.setIfInBounds_toArray, List.set_cons_zero, List.set_cons_succ, i64_w, i32_w]
                 rfl
                refine take_ (i := 2) (N := some 130) (v := ?_) (a' := ?_) #[true, true, true, false, true, true, false, false, false, true, true, false, false, true, false, true, false, true, true, true, true, false, false, false, false, false] rfl rfl (take_ofW HT_.out HW_.out (by kernel_rfl)) (fun _ _ _ h => h) (Or.inl ⟨by rfl, ?_⟩) hHeld ?_ ?_
                rotate_left
                ·rintro w' ⟨s0, s1, s2⟩
                 go_simp
                 with_reducible rfl
                rotate_left
                ·simp only [Act.put, List.setIfInBounds_toArray, List.set_cons_zero, List.set_cons_succ, i64_w, i32_w]
                 rfl
                refine pure_ (i := 3) (N := some 131) (v := ?_) (a' := ?_) #[true, true, true, true, true, true, false, false, false, true, true, false, false, true, false, true, false, true, true, true, true, false, false, false, false, false] rfl rfl (any_of HT_.out (by kernel_rfl)) (fun _ _ _ h => h) (Or.inl ⟨by rfl, ?_⟩) ?_ ?_
                rotate_left
                ·intro w'
                 go_simp
                 with_reducible rfl
                rotate_left
                ·simp only [Act.put, List.setIfInBounds_toArray, List.set_cons_zero, List.set_cons_succ, i64_w, i32_w]
                 rfl
                refine take_ (i := 6) (N := some 134) (v := ?_) (a' := ?_) #[true, true, true, true, true, true, true, false, false, true, true, false, false, true, false, true, false, true, true, true, true, false, false, false, false, false] rfl rfl (take_ofW HT_.out HW_.out (by kernel_rfl)) (fun _ _ _ h => h) (Or.inl ⟨by rfl, ?_⟩) hHeld ?_ ?_
                rotate_left
                ·rintro w' ⟨s0, s1, s2⟩
                 go_simp
                 with_reducible rfl
                rotate_left
                ·simp only [Act.put, List.setIfInBounds_toArray, List.set_cons_zero, List.set_cons_succ, i64_w, i32_w]
                 rfl
                refine pure_ (i := 7) (N := some 135) (v := ?_) (a' := ?_) #[true, true, true, true, true, true, true, true, false, true, true, false, false, true, false, true, false, true, true, true, true, false, false, false, false, false] rfl rfl (any_of HT_.out (by kernel_rfl)) (fun _ _ _ h => h) (Or.inl ⟨by rfl, ?_⟩) ?_ ?_
                rotate_left
                ·intro w'
                 go_simp
                 with_reducible rfl
                rotate_left
                ·simp only [Act.put, List.setIfInBounds_toArray, List.set_cons_zero, List.set_cons_succ, i64_w, i32_w]
                 rfl
                refine pure_ (i := 8) (N := some 136) (v := ?_) (a' := ?_) #[true, true, true, true, true, true, true, true, true, true, true, false, false, true, false, true, false, true, true, true, true, false, false, false, false, false] rfl rfl (any_of HT_.out (by kernel_rfl)) (fun _ _ _ h => h) (Or.inl ⟨by rfl, ?_⟩) ?_ ?_
                rotate_left
                ·intro w'
                 go_simp
                 with_reducible rfl
                rotate_left
                ·simp only [Act.put, List.setIfInBounds_toArray, List.set_cons_zero, List.set_cons_succ, i64_w, i32_w]
                 rfl
                refine take_ (i := 11) (N := some 139) (v := ?_) (a' := ?_) #[true, true, true, true, true, true, true, true, true, true, true, true, false, true, false, true, false, true, true, true, true, false, false, false, false, false] rfl rfl (take_ofW HT_.out HW_.out (by kernel_rfl)) (fun _ _ _ h => h) (Or.inl ⟨by rfl, ?_⟩) hHeld ?_ ?_
                rotate_left
                ·rintro w' ⟨s0, s1, s2⟩
                 go_simp
                 with_reducible rfl
                rotate_left
                ·simp only [Act.put, List.setIfInBounds_toArray, List.set_cons_zero, List.set_cons_succ, i64_w, i32_w]
                 rfl
                refine pure_ (i := 12) (N := some 140) (v := ?_) (a' := ?_) #[true, true, true, true, true, true, true, true, true, true, true, true, true, true, false, true, false, true, true, true, true, false, false, false, false, false] rfl rfl (any_of HT_.out (by kernel_rfl)) (fun _ _ _ h => h) (Or.inl ⟨by rfl, ?_⟩) ?_ ?_
                rotate_left
                ·intro w'
                 go_simp
                 with_reducible rfl
                rotate_left
                ·simp only [Act.put, List.setIfInBounds_toArray, List.set_cons_zero, List.set_cons_succ, i64_w, i32_w]
                 rfl
                refine pure_ (i := 14) (N := some 142) (v := ?_) (a' := ?_) #[true, true, true, true, true, true, true, true, true, true, true, true, true, true, true, true, false, true, true, true, true, false, false, false, false, false] rfl rfl (any_of HT_.out (by kernel_rfl)) (fun _ _ _ h => h) (Or.inl ⟨by rfl, ?_⟩) ?_ ?_
                rotate_left
                ·intro w'
                 go_simp
                 with_reducible rfl
                rotate_left
                ·simp only [Act.put, List.setIfInBounds_toArray, List.set_cons_zero, List.set_cons_succ, i64_w, i32_w]
                 rfl
                refine pure_ (i := 16) (N := some 144) (v := ?_) (a' := ?_) (pT 26 21) rfl rfl (any_of HT_.out (by kernel_rfl)) (fun _ _ _ h => h) (Or.inl ⟨by rfl, ?_⟩) ?_ ?_
                rotate_left
                ·intro w'
                 go_simp
                 with_reducible rfl
                rotate_left
                ·simp only [Act.put, List.setIfInBounds_toArray, List.set_cons_zero, List.set_cons_succ, i64_w, i32_w]
                 rfl
                refine one_ (i := 21) (N := some 149) (pT 26 22) rfl rfl (one_of HT_.out (by kernel_rfl)) (by decide) (fun K hK => ?_)
                refine goes_ Tryz.func38 (by kernel_rfl) rfl #[.int .i64 (wrap64 ((wrap64 ((wrap64 ((wrap64 ((wrap64 ((wrap64 ((rd x6_2 0) * 60)) + (rd x6_2 1))) * 60)) + (rd x6_2 2))) * t401)) + t399)), .int .i64 (wrap64 ((wrap64 (a0 * 3600)) * t401))] (by rfl) rfl rfl (by (try simp only [List.map_toArray, List.map_cons, List.map_nil]); first | done | rfl | (simp only [List.length_drop, List.length_take]; rfl)) ?_
                with_reducible refine (spec_diMake.calls kj52 (wrap64 ((wrap64 ((wrap64 ((wrap64 ((wrap64 ((wrap64 ((rd x6_2 0) * 60)) + (rd x6_2 1))) * 60)) + (rd x6_2 2))) * t401)) + t399)) (wrap64 ((wrap64 (a0 * 3600)) * t401)) t407 t408 t409 _ A75.out).mono ?_
                rintro e w79 ⟨rfl, hb⟩
                have HS0_ := (hb.cell (World.block_lt_of_cell? _ _ (hHeld.1))).trans (hHeld.1)
                have HS1_ := (hb.cell (World.block_lt_of_cell? _ _ (hHeld.2.1))).trans (hHeld.2.1)
                have HS2_ := (hb.cell (World.block_lt_of_cell? _ _ (hHeld.2.2))).trans (hHeld.2.2)
                refine ⟨_, rfl, ?_⟩
                have n0_ := Am (Kd.R_below (kW HO_6) hb)
                have n1_ := Am (Kd.R_below (kW HO_10) hb)
                have hp0 := pA BK386 hb
                have hv := vK HB hb
                have n3_ := Am (bT hv hb)
                clear HO_6 HO_10 HB
                have HO_6 := n0_; have HO_10 := n1_
                replace BK386 := hp0 BK386
                have HB := n3_
                clear n0_ n1_ n3_ hp0 hv
                (try clear hb)
                refine hK.out _ _ ⟨HS0_, HS1_, HS2_⟩ (fun hHeld => ?_)
                clear hK K
                refine norm_ (a' := ?_) ?_ ?_
                rotate_left
                ·show Act.put _ (some 149) _ = _
                 simp only [Act.put, List.setIfInBounds_toArray, List.set_cons_zero, List.set_cons_succ, i64_w, i32_w]
                 rfl
                iterate 2
                 refine pI (v := ?_) (a' := ?_) rfl (any_of HT_.out (by kernel_rfl)) (fun _ _ _ h => h) (Or.inl ⟨by rfl, ?_⟩) ?_ ?_
                 rotate_left
                 ·intro w'
                  go_simp
                  with_reducible rfl
                 rotate_left
                 ·show Act.put _ (some _) _ = _
                  simp only [Act.put, List.setIfInBounds_toArray, List.set_cons_zero, List.set_cons_succ, i64_w, i32_w]
                  rfl
                refine one_ (i := 24) (N := none) (pT 26 25) rfl rfl (one_of HT_.out (by kernel_rfl)) (by decide) (fun K hK => ?_)
                have hs80 : w79.cell? ⟨gb386, 0, none⟩ = some (.int .i64 x387000_2) := zc20 BK386.out
                have hfs80 := kF BK386.out 0
                have hs81 : w79.cell? ⟨gb386, 1, none⟩ = some (.int .i64 x387001_2) := zc21 BK386.out
                have hfs81 := kF BK386.out 1
                refine skip_ (w1 := ?_) (by rfl) rfl ?_ ?_
                rotate_left
                ·go_simp
                 rfl
                have e0_ : ad404.block ≠ gb386 := Kd.own_blk (Kd.R_ne HO_6.out BK386.out (by decide))
                refine hK.out _ _ ⟨?_, ?_, ?_⟩ (fun hHeld => ?_)
                · exact (cell_far (p := ⟨gb386, 1, none⟩) (a := ad404) e0_ _).trans ((cell_far (p := ⟨gb386, 0, none⟩) (a := ad404) e0_ _).trans (hHeld.1))
                · exact (cell_far (p := ⟨gb386, 1, none⟩) (a := ⟨ad404.block, ad404.off + 1, none⟩) e0_ _).trans ((cell_far (p := ⟨gb386, 0, none⟩) (a := ⟨ad404.block, ad404.off + 1, none⟩) e0_ _).trans (hHeld.2.1))
                · exact (cell_far (p := ⟨gb386, 1, none⟩) (a := ⟨ad404.block, ad404.off + 2, none⟩) e0_ _).trans ((cell_far (p := ⟨gb386, 0, none⟩) (a := ⟨ad404.block, ad404.off + 2, none⟩) e0_ _).trans (hHeld.2.2))
                clear e0_
                clear hK K
                refine pI (v := ?_) (a' := ?_) rfl (any_of HT_.out (by kernel_rfl)) (fun _ _ _ h => h) (Or.inl ⟨by rfl, ?_⟩) ?_ ?_
                rotate_left
                ·intro w'
                 go_simp
                 with_reducible rfl
                rotate_left
                ·show Act.put _ (some _) _ = _
                 simp only [Act.put, List.setIfInBounds_toArray, List.set_cons_zero, List.set_cons_succ, i64_w, i32_w]
                 rfl
                refine done_ (done_of HT_.out (by kernel_rfl)) ?_
                try go_wp2
                refine bodyPost_ret (results_ct rfl _ _ gb386 23 #[.int .i64 t407, .int .i64 t408] (0, 0) _ rfl (by (with_reducible repeat (first | refine kN ?_ _ | refine kD ?_ | refine kA ?_ _)); refine kP (cs := #[.int .i64 t407, .int .i64 x387001_2]) ?_ 1 _ rfl; (with_reducible repeat (first | refine kN ?_ _ | refine kD ?_ | refine kA ?_ _)); refine kP (cs := #[.int .i64 x387000_2, .int .i64 x387001_2]) ?_ 0 _ rfl; (with_reducible repeat (first | refine kN ?_ _ | refine kD ?_ | refine kA ?_ _)); exact BK386.out) Tryz.underlying23 rfl (by kernel_rfl)) rfl ?_
                exact ⟨by first | rfl | (simp [errW_none, errW_some] <;> rfl) | (simp [*, errW_none, errW_some] <;> rfl), by repeat (first | (with_reducible first | exact HB.out | apply bA | apply bN | apply bD | refine bX ?_ (by assumption)) | exact HB.out)⟩
              rw [if_neg c74] at H
              exact absurd H (by simp)
             rw [if_neg c73] at H
             exact absurd H (by simp)
            rw [if_neg c72] at H
            exact absurd H (by simp)
           rw [if_neg c71] at H
           have c71b0 : (t403 == 1) = false := beq_eq_false_iff_ne.mpr c71
           have c71b1 : (t403 != 1) = true := bne_iff_ne.mpr c71
           focus
            simp only [Option.some.injEq, Prod.mk.injEq] at H
            obtain ⟨rfl, rfl, rfl⟩ := H
            obtain ⟨Ao82, co82, eo82⟩ := Kd.R_slice HO_10.out
            subst eo82
            have p398 : 0 ≤ (0 : Int) := (by omega)
            have q398 : 0 < (t395.length : Int) := of_decide_eq_true (by first | (with_reducible assumption) | assumption)
            obtain ⟨ad398, e398, hx398_0⟩ := Kd.at_string (Kd.R_reads' HO_10.out).2.2 0 p398 q398
            cases e398
            have qi398 : (0 < t395.length) = True := eq_true (by omega)
            (try rw [show ((0 : Int)).toNat = 0 from rfl] at hx398_0)
            (try rw [Addr.add_zero'] at hx398_0)
            replace p398 := eq_true p398
            replace q398 := eq_true q398
            go_wp2_with (first | ((with_reducible refine gate_callee (f := 71) rfl ?_); refine gL (some 107) Tryz.func71 #[.string (rdOf ByteArray.empty t395 0)] rfl ?_; (with_reducible refine (spec_l1Read.calls kj52 (rdOf ByteArray.empty t395 0) t399 _ A62.out).mono ?_); rintro e w' ⟨rfl, ⟨nd, rfl⟩⟩; refine ⟨_, rfl, ?_⟩; (try (rw [drewN_self wc]; generalize hq_ : World.drewN wc _ = wc; have n0_ : Aside0 (Kd.R Kd.string 9 wc w.heap.size (fun _ => True) (.slice (some ad398) t395.length co82) t395) := ⟨by rw [← hq_]; exact (kW HO_10)⟩; have n1_ : Aside0 (Kd.R (Kd.int .i64) 3 wc w.heap.size (fun _ => True) u6 x6_2) := ⟨by rw [← hq_]; exact (kW HO_6)⟩; have n2_ : Aside0 (wc.heap[gb386]? = some (.cells #[.int .i64 x387000_2, .int .i64 x387001_2] 23 (0, 0))) := ⟨by rw [← hq_]; exact (kU BK386)⟩; have n3_ : Aside0 (Below w.heap.size w wc) := ⟨by rw [← hq_]; exact (by repeat (first | (with_reducible first | exact HB.out | apply bA | apply bN | apply bD | refine bX ?_ (by assumption)) | exact HB.out))⟩; clear HO_10 HO_6 BK386 HB hq_; have HO_10 := n0_; have HO_6 := n1_; have BK386 := n2_; have HB := n3_; clear n0_ n1_ n2_ n3_)); have p400 : 0 ≤ (1 : Int) := (by omega); have q400 : 1 < (t395.length : Int) := of_decide_eq_true (by first | (with_reducible assumption) | assumption); obtain ⟨ad400, e400, hx400_0⟩ := Kd.at_string (Kd.R_reads' HO_10.out).2.2 1 p400 q400; obtain rfl : ad398 = ad400 := (by injection e400); (try simp only [show (1 : Int).toNat = 1 from rfl, Nat.reduceMul, Nat.reduceEqDiff, Go.Addr.add, ↓reduceIte] at hx400_0); have qi400 : (1 < t395.length) = True := eq_true (by omega); (try rw [show ((1 : Int)).toNat = 1 from rfl] at hx400_0); replace p400 := eq_true p400; replace q400 := eq_true q400) | ((with_reducible refine gate_callee (f := 71) rfl ?_); refine gL (some 111) Tryz.func71 #[.string (rdOf ByteArray.empty t395 1)] rfl ?_; (with_reducible refine (spec_l1Read.calls kj52 (rdOf ByteArray.empty t395 1) t401 _ A64.out).mono ?_); rintro e w' ⟨rfl, ⟨nd, rfl⟩⟩; refine ⟨_, rfl, ?_⟩; (try (rw [drewN_self wc]; generalize hq_ : World.drewN wc _ = wc; have n0_ : Aside0 (Kd.R Kd.string 9 wc w.heap.size (fun _ => True) (.slice (some ad398) t395.length co82) t395) := ⟨by rw [← hq_]; exact (kW HO_10)⟩; have n1_ : Aside0 (Kd.R (Kd.int .i64) 3 wc w.heap.size (fun _ => True) u6 x6_2) := ⟨by rw [← hq_]; exact (kW HO_6)⟩; have n2_ : Aside0 (wc.heap[gb386]? = some (.cells #[.int .i64 x387000_2, .int .i64 x387001_2] 23 (0, 0))) := ⟨by rw [← hq_]; exact (kU BK386)⟩; have n3_ : Aside0 (Below w.heap.size w wc) := ⟨by rw [← hq_]; exact (by repeat (first | (with_reducible first | exact HB.out | apply bA | apply bN | apply bD | refine bX ?_ (by assumption)) | exact HB.out))⟩; clear HO_10 HO_6 BK386 HB hq_; have HO_10 := n0_; have HO_6 := n1_; have BK386 := n2_; have HB := n3_; clear n0_ n1_ n2_ n3_))) | (go_at_call 52; (with_reducible refine (spec_l1In.calls t399 1 (wrap64 (t401 - 1)) true _ A68.out).mono ?_); rintro e w' ⟨rfl, ⟨nd, rfl⟩⟩; (try (rw [drewN_self wc]; generalize hq_ : World.drewN wc _ = wc; have n0_ : Aside0 (Kd.R Kd.string 9 wc w.heap.size (fun _ => True) (.slice (some ad398) t395.length co82) t395) := ⟨by rw [← hq_]; exact (kW HO_10)⟩; have n1_ : Aside0 (Kd.R (Kd.int .i64) 3 wc w.heap.size (fun _ => True) u6 x6_2) := ⟨by rw [← hq_]; exact (kW HO_6)⟩; have n2_ : Aside0 (wc.heap[gb386]? = some (.cells #[.int .i64 x387000_2, .int .i64 x387001_2] 23 (0, 0))) := ⟨by rw [← hq_]; exact (kU BK386)⟩; have n3_ : Aside0 (Below w.heap.size w wc) := ⟨by rw [← hq_]; exact (by repeat (first | (with_reducible first | exact HB.out | apply bA | apply bN | apply bD | refine bX ?_ (by assumption)) | exact HB.out))⟩; clear HO_10 HO_6 BK386 HB hq_; have HO_10 := n0_; have HO_6 := n1_; have BK386 := n2_; have HB := n3_; clear n0_ n1_ n2_ n3_))) | (go_at_call 59; (with_reducible refine (spec_diCommon.calls kj52 t399 t401 t403 _ A70.out).mono ?_); rintro e w' ⟨rfl, ⟨nd, rfl⟩⟩; (try (rw [drewN_self wc]; generalize hq_ : World.drewN wc _ = wc; have n0_ : Aside0 (Kd.R Kd.string 9 wc w.heap.size (fun _ => True) (.slice (some ad398) t395.length co82) t395) := ⟨by rw [← hq_]; exact (kW HO_10)⟩; have n1_ : Aside0 (Kd.R (Kd.int .i64) 3 wc w.heap.size (fun _ => True) u6 x6_2) := ⟨by rw [← hq_]; exact (kW HO_6)⟩; have n2_ : Aside0 (wc.heap[gb386]? = some (.cells #[.int .i64 x387000_2, .int .i64 x387001_2] 23 (0, 0))) := ⟨by rw [← hq_]; exact (kU BK386)⟩; have n3_ : Aside0 (Below w.heap.size w wc) := ⟨by rw [← hq_]; exact (by repeat (first | (with_reducible first | exact HB.out | apply bA | apply bN | apply bD | refine bX ?_ (by assumption)) | exact HB.out))⟩; clear HO_10 HO_6 BK386 HB hq_; have HO_10 := n0_; have HO_6 := n1_; have BK386 := n2_; have HB := n3_; clear n0_ n1_ n2_ n3_)); have zq83 := zc2 BK386))
            refine bodyPost_ret (results_ct rfl _ _ gb386 23 #[.int .i64 0, .int .i64 0] (0, 0) _ rfl (by (with_reducible repeat (first | refine kN ?_ _ | refine kD ?_ | refine kA ?_ _)); refine kP (cs := #[.int .i64 0, .int .i64 x387001_2]) ?_ 1 _ rfl; (with_reducible repeat (first | refine kN ?_ _ | refine kD ?_ | refine kA ?_ _)); refine kP (cs := #[.int .i64 x387000_2, .int .i64 x387001_2]) ?_ 0 _ rfl; (with_reducible repeat (first | refine kN ?_ _ | refine kD ?_ | refine kA ?_ _)); exact BK386.out) Tryz.underlying23 rfl (by kernel_rfl)) rfl ?_
            exact ⟨by first | rfl | (simp [errW_none, errW_some] <;> rfl) | (simp [*, errW_none, errW_some] <;> rfl), by repeat (first | (with_reducible first | exact HB.out | apply bA | apply bN | apply bD | refine bX ?_ (by assumption)) | exact HB.out)⟩
          replace c69 := Bool.eq_false_iff.mpr c69
          subst c69
          have H1 : (some (0, 0, false)) = some (r1, r2, r3) := by rw [if_neg (show ¬ (false = true) by decide)] at H; exact H
          clear H
          have H := H1
          clear H1
          focus
           simp only [Option.some.injEq, Prod.mk.injEq] at H
           obtain ⟨rfl, rfl, rfl⟩ := H
           obtain ⟨Ao84, co84, eo84⟩ := Kd.R_slice HO_10.out
           subst eo84
           have p398 : 0 ≤ (0 : Int) := (by omega)
           have q398 : 0 < (t395.length : Int) := of_decide_eq_true (by first | (with_reducible assumption) | assumption)
           obtain ⟨ad398, e398, hx398_0⟩ := Kd.at_string (Kd.R_reads' HO_10.out).2.2 0 p398 q398
           cases e398
           have qi398 : (0 < t395.length) = True := eq_true (by omega)
           (try rw [show ((0 : Int)).toNat = 0 from rfl] at hx398_0)
           (try rw [Addr.add_zero'] at hx398_0)
           replace p398 := eq_true p398
           replace q398 := eq_true q398
           go_wp2_with (first | ((with_reducible refine gate_callee (f := 71) rfl ?_); refine gL (some 107) Tryz.func71 #[.string (rdOf ByteArray.empty t395 0)] rfl ?_; (with_reducible refine (spec_l1Read.calls kj52 (rdOf ByteArray.empty t395 0) t399 _ A62.out).mono ?_); rintro e w' ⟨rfl, ⟨nd, rfl⟩⟩; refine ⟨_, rfl, ?_⟩; (try (rw [drewN_self wc]; generalize hq_ : World.drewN wc _ = wc; have n0_ : Aside0 (Kd.R Kd.string 9 wc w.heap.size (fun _ => True) (.slice (some ad398) t395.length co84) t395) := ⟨by rw [← hq_]; exact (kW HO_10)⟩; have n1_ : Aside0 (Kd.R (Kd.int .i64) 3 wc w.heap.size (fun _ => True) u6 x6_2) := ⟨by rw [← hq_]; exact (kW HO_6)⟩; have n2_ : Aside0 (wc.heap[gb386]? = some (.cells #[.int .i64 x387000_2, .int .i64 x387001_2] 23 (0, 0))) := ⟨by rw [← hq_]; exact (kU BK386)⟩; have n3_ : Aside0 (Below w.heap.size w wc) := ⟨by rw [← hq_]; exact (by repeat (first | (with_reducible first | exact HB.out | apply bA | apply bN | apply bD | refine bX ?_ (by assumption)) | exact HB.out))⟩; clear HO_10 HO_6 BK386 HB hq_; have HO_10 := n0_; have HO_6 := n1_; have BK386 := n2_; have HB := n3_; clear n0_ n1_ n2_ n3_)); have p400 : 0 ≤ (1 : Int) := (by omega); have q400 : 1 < (t395.length : Int) := of_decide_eq_true (by first | (with_reducible assumption) | assumption); obtain ⟨ad400, e400, hx400_0⟩ := Kd.at_string (Kd.R_reads' HO_10.out).2.2 1 p400 q400; obtain rfl : ad398 = ad400 := (by injection e400); (try simp only [show (1 : Int).toNat = 1 from rfl, Nat.reduceMul, Nat.reduceEqDiff, Go.Addr.add, ↓reduceIte] at hx400_0); have qi400 : (1 < t395.length) = True := eq_true (by omega); (try rw [show ((1 : Int)).toNat = 1 from rfl] at hx400_0); replace p400 := eq_true p400; replace q400 := eq_true q400) | ((with_reducible refine gate_callee (f := 71) rfl ?_); refine gL (some 111) Tryz.func71 #[.string (rdOf ByteArray.empty t395 1)] rfl ?_; (with_reducible refine (spec_l1Read.calls kj52 (rdOf ByteArray.empty t395 1) t401 _ A64.out).mono ?_); rintro e w' ⟨rfl, ⟨nd, rfl⟩⟩; refine ⟨_, rfl, ?_⟩; (try (rw [drewN_self wc]; generalize hq_ : World.drewN wc _ = wc; have n0_ : Aside0 (Kd.R Kd.string 9 wc w.heap.size (fun _ => True) (.slice (some ad398) t395.length co84) t395) := ⟨by rw [← hq_]; exact (kW HO_10)⟩; have n1_ : Aside0 (Kd.R (Kd.int .i64) 3 wc w.heap.size (fun _ => True) u6 x6_2) := ⟨by rw [← hq_]; exact (kW HO_6)⟩; have n2_ : Aside0 (wc.heap[gb386]? = some (.cells #[.int .i64 x387000_2, .int .i64 x387001_2] 23 (0, 0))) := ⟨by rw [← hq_]; exact (kU BK386)⟩; have n3_ : Aside0 (Below w.heap.size w wc) := ⟨by rw [← hq_]; exact (by repeat (first | (with_reducible first | exact HB.out | apply bA | apply bN | apply bD | refine bX ?_ (by assumption)) | exact HB.out))⟩; clear HO_10 HO_6 BK386 HB hq_; have HO_10 := n0_; have HO_6 := n1_; have BK386 := n2_; have HB := n3_; clear n0_ n1_ n2_ n3_))) | (go_at_call 52; (with_reducible refine (spec_l1In.calls t399 1 (wrap64 (t401 - 1)) false _ A68.out).mono ?_); rintro e w' ⟨rfl, ⟨nd, rfl⟩⟩; (try (rw [drewN_self wc]; generalize hq_ : World.drewN wc _ = wc; have n0_ : Aside0 (Kd.R Kd.string 9 wc w.heap.size (fun _ => True) (.slice (some ad398) t395.length co84) t395) := ⟨by rw [← hq_]; exact (kW HO_10)⟩; have n1_ : Aside0 (Kd.R (Kd.int .i64) 3 wc w.heap.size (fun _ => True) u6 x6_2) := ⟨by rw [← hq_]; exact (kW HO_6)⟩; have n2_ : Aside0 (wc.heap[gb386]? = some (.cells #[.int .i64 x387000_2, .int .i64 x387001_2] 23 (0, 0))) := ⟨by rw [← hq_]; exact (kU BK386)⟩; have n3_ : Aside0 (Below w.heap.size w wc) := ⟨by rw [← hq_]; exact (by repeat (first | (with_reducible first | exact HB.out | apply bA | apply bN | apply bD | refine bX ?_ (by assumption)) | exact HB.out))⟩; clear HO_10 HO_6 BK386 HB hq_; have HO_10 := n0_; have HO_6 := n1_; have BK386 := n2_; have HB := n3_; clear n0_ n1_ n2_ n3_)); have zq85 := zc2 BK386))
           refine bodyPost_ret (results_ct rfl _ _ gb386 23 #[.int .i64 0, .int .i64 0] (0, 0) _ rfl (by (with_reducible repeat (first | refine kN ?_ _ | refine kD ?_ | refine kA ?_ _)); refine kP (cs := #[.int .i64 0, .int .i64 x387001_2]) ?_ 1 _ rfl; (with_reducible repeat (first | refine kN ?_ _ | refine kD ?_ | refine kA ?_ _)); refine kP (cs := #[.int .i64 x387000_2, .int .i64 x387001_2]) ?_ 0 _ rfl; (with_reducible repeat (first | refine kN ?_ _ | refine kD ?_ | refine kA ?_ _)); exact BK386.out) Tryz.underlying23 rfl (by kernel_rfl)) rfl ?_
           exact ⟨by first | rfl | (simp [errW_none, errW_some] <;> rfl) | (simp [*, errW_none, errW_some] <;> rfl), by repeat (first | (with_reducible first | exact HB.out | apply bA | apply bN | apply bD | refine bX ?_ (by assumption)) | exact HB.out)⟩
         rw [if_neg c63] at H
         exact absurd H (by simp)
        rw [if_neg c61] at H
        exact absurd H (by simp)
      rw [if_neg c51] at H
      exact absurd H (by simp)
     rw [if_neg c50] at H
     have c50b0 : decide (8 < (a1.size : Int)) = false := decide_eq_false c50
     have c50b1 : decide (8 < a1.size) = false := decide_eq_false (by omega)
     clear c50
     by_cases c86 : 0 < (x6_2.length : Int)
     ·rw [if_pos c86] at H
      have c86b0 : decide (0 < (x6_2.length : Int)) = true := decide_eq_true c86
      have c86b1 : decide (0 < x6_2.length) = true := decide_eq_true (by omega)
      clear c86
      by_cases c87 : 1 < (x6_2.length : Int)
      ·rw [if_pos c87] at H
       have c87b0 : decide (1 < (x6_2.length : Int)) = true := decide_eq_true c87
       have c87b1 : decide (1 < x6_2.length) = true := decide_eq_true (by omega)
       clear c87
       by_cases c88 : 2 < (x6_2.length : Int)
       ·rw [if_pos c88] at H
        have c88b0 : decide (2 < (x6_2.length : Int)) = true := decide_eq_true c88
        have c88b1 : decide (2 < x6_2.length) = true := decide_eq_true (by omega)
        clear c88
        replace H := Option.bind_eq_some_iff.mp H
        obtain ⟨⟨t413, t414, t415⟩, A890, H⟩ := H
        try dsimp only at H
        have A89 := Am A890
        clear A890
        focus
         simp only [Option.some.injEq, Prod.mk.injEq] at H
         obtain ⟨rfl, rfl, rfl⟩ := H
         try go_wp2
         have n0_ := Am (Kd.R_drew HO_6.out)
         have n1_ := Am (kD BK386.out)
         have n2_ := Am (bD HB.out)
         clear HO_6 BK386 HB
         have HO_6 := n0_; have BK386 := n1_; have HB := n2_
         clear n0_ n1_ n2_
         obtain ⟨Ao91, co91, eo91⟩ := Kd.R_slice HO_6.out
         (first | subst eo91 | (injection eo91 with f1_ f2_ f3_; have f4_ := f1_.symm; have f5_ := f3_.symm; clear f1_ f2_ f3_; subst f4_; subst f5_))
         have p410 : 0 ≤ (0 : Int) := (by omega)
         have q410 : 0 < (x6_2.length : Int) := of_decide_eq_true (by first | (with_reducible assumption) | assumption)
         obtain ⟨ad410, e410, hx410_0⟩ := Kd.at_int (Kd.R_reads' HO_6.out).2.2 0 p410 q410
         cases e410
         have qi410 : (0 < x6_2.length) = True := eq_true (by omega)
         (try rw [show ((0 : Int)).toNat = 0 from rfl] at hx410_0)
         (try rw [Addr.add_zero'] at hx410_0)
         replace p410 := eq_true p410
         replace q410 := eq_true q410
         have p411 : 0 ≤ (1 : Int) := (by omega)
         have q411 : 1 < (x6_2.length : Int) := of_decide_eq_true (by first | (with_reducible assumption) | assumption)
         obtain ⟨ad411, e411, hx411_0⟩ := Kd.at_int (Kd.R_reads' HO_6.out).2.2 1 p411 q411
         obtain rfl : ad410 = ad411 := (by injection e411)
         (try simp only [show (1 : Int).toNat = 1 from rfl, Nat.reduceMul, Nat.reduceEqDiff, Go.Addr.add, ↓reduceIte] at hx411_0)
         have qi411 : (1 < x6_2.length) = True := eq_true (by omega)
         (try rw [show ((1 : Int)).toNat = 1 from rfl] at hx411_0)
         replace p411 := eq_true p411
         replace q411 := eq_true q411
         have p412 : 0 ≤ (2 : Int) := (by omega)
         have q412 : 2 < (x6_2.length : Int) := of_decide_eq_true (by first | (with_reducible assumption) | assumption)
         obtain ⟨ad412, e412, hx412_0⟩ := Kd.at_int (Kd.R_reads' HO_6.out).2.2 2 p412 q412
         obtain rfl : ad410 = ad412 := (by injection e412)
         (try simp only [show (2 : Int).toNat = 2 from rfl, Nat.reduceMul, Nat.reduceEqDiff, Go.Addr.add, ↓reduceIte] at hx412_0)
         have qi412 : (2 < x6_2.length) = True := eq_true (by omega)
         (try rw [show ((2 : Int)).toNat = 2 from rfl] at hx412_0)
         replace p412 := eq_true p412
         replace q412 := eq_true q412
         refine start_ (n := 26) (S := fun w' => w'.cell? ad410 = some (.int .i64 (rd x6_2 0)) ∧ w'.cell? ⟨ad410.block, ad410.off + 1, none⟩ = some (.int .i64 (rd x6_2 1)) ∧ w'.cell? ⟨ad410.block, ad410.off + 2, none⟩ = some (.int .i64 (rd x6_2 2))) (ds := []) (pT 26 0) (by kernel_rfl) rfl rfl ⟨hx410_0, hx411_0, hx412_0⟩ (fun hHeld => ?_); refine with_tabW spec_diParse.tab26 spec_diParse.bits26 (fun HT_ HW_ => ?_)
         generalize wc.drew = w90 at HO_6 BK386 HB hx410_0 hx411_0 hx412_0 hHeld ⊢
         iterate 2
          refine pI (v := ?_) (a' := ?_) rfl (any_of HT_.out (by kernel_rfl)) (fun _ _ _ h => h) (Or.inl ⟨by rfl, ?_⟩) ?_ ?_
          rotate_left
          ·intro w'
           go_simp
           with_reducible rfl
          rotate_left
          ·show Act.put _ (some _) _ = _
           simp only [Act.put, List.setIfInBounds_toArray, List.set_cons_zero, List.set_cons_succ, i64_w, i32_w]
           rfl
         refine pure_ (i := 4) (N := some 132) (v := ?_) (a' := ?_) #[true, true, false, false, true, false, false, false, false, false, false, false, false, false, false, false, false, false, false, false, false, false, false, false, false, false] rfl rfl (any_of HT_.out (by kernel_rfl)) (fun _ _ _ h => h) (Or.inl ⟨by rfl, ?_⟩) ?_ ?_
         rotate_left
         ·intro w'
          go_simp
          with_reducible rfl
         rotate_left
         ·simp only [Act.put, List.setIfInBounds_toArray, List.set_cons_zero, List.set_cons_succ, i64_w, i32_w]
          rfl
         refine pure_ (i := 5) (N := some 133) (v := ?_) (a' := ?_) #[true, true, false, false, true, true, false, false, false, false, false, false, false, false, false, false, false, false, false, false, false, false, false, false, false, false] rfl rfl (any_of HT_.out (by kernel_rfl)) (fun _ _ _ h => h) (Or.inl ⟨by rfl, ?_⟩) ?_ ?_
         rotate_left
         ·intro w'
          go_simp
          with_reducible rfl
         rotate_left
         ·simp only [Act.put, List.setIfInBounds_toArray, List.set_cons_zero, List.set_cons_succ, i64_w, i32_w]
          rfl
         refine pure_ (i := 9) (N := some 137) (v := ?_) (a' := ?_) #[true, true, false, false, true, true, false, false, false, true, false, false, false, false, false, false, false, false, false, false, false, false, false, false, false, false] rfl rfl (any_of HT_.out (by kernel_rfl)) (fun _ _ _ h => h) (Or.inl ⟨by rfl, ?_⟩) ?_ ?_
         rotate_left
         ·intro w'
          go_simp
          with_reducible rfl
         rotate_left
         ·simp only [Act.put, List.setIfInBounds_toArray, List.set_cons_zero, List.set_cons_succ, i64_w, i32_w]
          rfl
         refine pure_ (i := 10) (N := some 138) (v := ?_) (a' := ?_) #[true, true, false, false, true, true, false, false, false, true, true, false, false, false, false, false, false, false, false, false, false, false, false, false, false, false] rfl rfl (any_of HT_.out (by kernel_rfl)) (fun _ _ _ h => h) (Or.inl ⟨by rfl, ?_⟩) ?_ ?_
         rotate_left
         ·intro w'
          go_simp
          with_reducible rfl
         rotate_left
         ·simp only [Act.put, List.setIfInBounds_toArray, List.set_cons_zero, List.set_cons_succ, i64_w, i32_w]
          rfl
         refine pure_ (i := 13) (N := some 141) (v := ?_) (a' := ?_) #[true, true, false, false, true, true, false, false, false, true, true, false, false, true, false, false, false, false, false, false, false, false, false, false, false, false] rfl rfl (any_of HT_.out (by kernel_rfl)) (fun _ _ _ h => h) (Or.inl ⟨by rfl, ?_⟩) ?_ ?_
         rotate_left
         ·intro w'
          go_simp
          with_reducible rfl
         rotate_left
         ·simp only [Act.put, List.setIfInBounds_toArray, List.set_cons_zero, List.set_cons_succ, i64_w, i32_w]
          rfl
         refine pure_ (i := 15) (N := some 143) (v := ?_) (a' := ?_) #[true, true, false, false, true, true, false, false, false, true, true, false, false, true, false, true, false, false, false, false, false, false, false, false, false, false] rfl rfl (any_of HT_.out (by kernel_rfl)) (fun _ _ _ h => h) (Or.inl ⟨by rfl, ?_⟩) ?_ ?_
         rotate_left
         ·intro w'
          go_simp
          with_reducible rfl
         rotate_left
         ·simp only [Act.put, List.setIfInBounds_toArray, List.set_cons_zero, List.set_cons_succ, i64_w, i32_w]
          rfl
         refine pure_ (i := 17) (N := some 145) (v := ?_) (a' := ?_) #[true, true, false, false, true, true, false, false, false, true, true, false, false, true, false, true, false, true, false, false, false, false, false, false, false, false] rfl rfl (any_of HT_.out (by kernel_rfl)) (fun _ _ _ h => h) (Or.inl ⟨by rfl, ?_⟩) ?_ ?_
         rotate_left
         ·intro w'
          go_simp
          with_reducible rfl
         rotate_left
         ·simp only [Act.put, List.setIfInBounds_toArray, List.set_cons_zero, List.set_cons_succ, i64_w, i32_w]
          rfl
         refine pure_ (i := 18) (N := some 146) (v := ?_) (a' := ?_) #[true, true, false, false, true, true, false, false, false, true, true, false, false, true, false, true, false, true, true, false, false, false, false, false, false, false] rfl rfl (any_of HT_.out (by kernel_rfl)) (fun _ _ _ h => h) (Or.inl ⟨by rfl, ?_⟩) ?_ ?_
         rotate_left
         ·intro w'
          go_simp
          with_reducible rfl
         rotate_left
         ·simp only [Act.put, List.setIfInBounds_toArray, List.set_cons_zero, List.set_cons_succ, i64_w, i32_w]
          rfl
         refine pure_ (i := 19) (N := some 147) (v := ?_) (a' := ?_) #[true, true, false, false, true, true, false, false, false, true, true, false, false, true, false, true, false, true, true, true, false, false, false, false, false, false] rfl rfl (any_of HT_.out (by kernel_rfl)) (fun _ _ _ h => h) (Or.inl ⟨by rfl, ?_⟩) ?_ ?_
         rotate_left
         ·intro w'
          go_simp
          with_reducible rfl
         rotate_left
         ·simp only [Act.put, List.setIfInBounds_toArray, List.set_cons_zero, List.set_cons_succ, i64_w, i32_w]
          rfl
         refine pure_ (i := 20) (N := some 148) (v := ?_) (a' := ?_) #[true, true, false, false, true, true, false, false, false, true, true, false, false, true, false, true, false, true, true, true, true, false, false, false, false, false] rfl rfl (any_of HT_.out (by kernel_rfl)) (fun _ _ _ h => h) (Or.inl ⟨by rfl, ?_⟩) ?_ ?_
         rotate_left
         ·intro w'
          go_simp
          with_reducible rfl
         rotate_left
         ·simp only [Act.put, List.setIfInBounds_toArray, List.set_cons_zero, List.set_cons_succ, i64_w, i32_w]
          rfl
         refine take_ (i := 2) (N := some 130) (v := ?_) (a' := ?_) #[true, true, true, false, true, true, false, false, false, true, true, false, false, true, false, true, false, true, true, true, true, false, false, false, false, false] rfl rfl (take_ofW HT_.out HW_.out (by kernel_rfl)) (fun _ _ _ h => h) (Or.inl ⟨by rfl, ?_⟩) hHeld ?_ ?_
         rotate_left
         ·rintro w' ⟨s0, s1, s2⟩
          go_simp
          with_reducible rfl
         rotate_left
         ·simp only [Act.put, List.setIfInBounds_toArray, List.set_cons_zero, List.set_cons_succ, i64_w, i32_w]
          rfl
         refine pure_ (i := 3) (N := some 131) (v := ?_) (a' := ?_) #[true, true, true, true, true, true, false, false, false, true, true, false, false, true, false, true, false, true, true, true, true, false, false, false, false, false] rfl rfl (any_of HT_.out (by kernel_rfl)) (fun _ _ _ h => h) (Or.inl ⟨by rfl, ?_⟩) ?_ ?_
         rotate_left
         ·intro w'
          go_simp
          with_reducible rfl
         rotate_left
         ·simp only [Act.put, List.setIfInBounds_toArray, List.set_cons_zero, List.set_cons_succ, i64_w, i32_w]
          rfl
         refine take_ (i := 6) (N := some 134) (v := ?_) (a' := ?_) #[true, true, true, true, true, true, true, false, false, true, true, false, false, true, false, true, false, true, true, true, true, false, false, false, false, false] rfl rfl (take_ofW HT_.out HW_.out (by kernel_rfl)) (fun _ _ _ h => h) (Or.inl ⟨by rfl, ?_⟩) hHeld ?_ ?_
         rotate_left
         ·rintro w' ⟨s0, s1, s2⟩
          go_simp
          with_reducible rfl
         rotate_left
         ·simp only [Act.put, List.setIfInBounds_toArray, List.set_cons_zero, List.set_cons_succ, i64_w, i32_w]
          rfl
         refine pure_ (i := 7) (N := some 135) (v := ?_) (a' := ?_) #[true, true, true, true, true, true, true, true, false, true, true, false, false, true, false, true, false, true, true, true, true, false, false, false, false, false] rfl rfl (any_of HT_.out (by kernel_rfl)) (fun _ _ _ h => h) (Or.inl ⟨by rfl, ?_⟩) ?_ ?_
         rotate_left
         ·intro w'
          go_simp
          with_reducible rfl
         rotate_left
         ·simp only [Act.put, List.setIfInBounds_toArray, List.set_cons_zero, List.set_cons_succ, i64_w, i32_w]
          rfl
         refine pure_ (i := 8) (N := some 136) (v := ?_) (a' := ?_) #[true, true, true, true, true, true, true, true, true, true, true, false, false, true, false, true, false, true, true, true, true, false, false, false, false, false] rfl rfl (any_of HT_.out (by kernel_rfl)) (fun _ _ _ h => h) (Or.inl ⟨by rfl, ?_⟩) ?_ ?_
         rotate_left
         ·intro w'
          go_simp
          with_reducible rfl
         rotate_left
         ·simp only [Act.put, List.setIfInBounds_toArray, List.set_cons_zero, List.set_cons_succ, i64_w, i32_w]
          rfl
         refine take_ (i := 11) (N := some 139) (v := ?_) (a' := ?_) #[true, true, true, true, true, true, true, true, true, true, true, true, false, true, false, true, false, true, true, true, true, false, false, false, false, false] rfl rfl (take_ofW HT_.out HW_.out (by kernel_rfl)) (fun _ _ _ h => h) (Or.inl ⟨by rfl, ?_⟩) hHeld ?_ ?_
         rotate_left
         ·rintro w' ⟨s0, s1, s2⟩
          go_simp
          with_reducible rfl
         rotate_left
         ·simp only [Act.put, List.setIfInBounds_toArray, List.set_cons_zero, List.set_cons_succ, i64_w, i32_w]
          rfl
         refine pure_ (i := 12) (N := some 140) (v := ?_) (a' := ?_) #[true, true, true, true, true, true, true, true, true, true, true, true, true, true, false, true, false, true, true, true, true, false, false, false, false, false] rfl rfl (any_of HT_.out (by kernel_rfl)) (fun _ _ _ h => h) (Or.inl ⟨by rfl, ?_⟩) ?_ ?_
         rotate_left
         ·intro w'
          go_simp
          with_reducible rfl
         rotate_left
         ·simp only [Act.put, List.setIfInBounds_toArray, List.set_cons_zero, List.set_cons_succ, i64_w, i32_w]
          rfl
         refine pure_ (i := 14) (N := some 142) (v := ?_) (a' := ?_) #[true, true, true, true, true, true, true, true, true, true, true, true, true, true, true, true, false, true, true, true, true, false, false, false, false, false] rfl rfl (any_of HT_.out (by kernel_rfl)) (fun _ _ _ h => h) (Or.inl ⟨by rfl, ?_⟩) ?_ ?_
         rotate_left
         ·intro w'
          go_simp
          with_reducible rfl
         rotate_left
         ·simp only [Act.put, List.setIfInBounds_toArray, List.set_cons_zero, List.set_cons_succ, i64_w, i32_w]
          rfl
         refine pure_ (i := 16) (N := some 144) (v := ?_) (a' := ?_) (pT 26 21) rfl rfl (any_of HT_.out (by kernel_rfl)) (fun _ _ _ h => h) (Or.inl ⟨by rfl, ?_⟩) ?_ ?_
         rotate_left
         ·intro w'
          go_simp
          with_reducible rfl
         rotate_left
         ·simp only [Act.put, List.setIfInBounds_toArray, List.set_cons_zero, List.set_cons_succ, i64_w, i32_w]
          rfl
         refine one_ (i := 21) (N := some 149) (pT 26 22) rfl rfl (one_of HT_.out (by kernel_rfl)) (by decide) (fun K hK => ?_)
         refine goes_ Tryz.func38 (by kernel_rfl) rfl #[.int .i64 (wrap64 ((wrap64 ((wrap64 ((wrap64 ((wrap64 ((wrap64 ((rd x6_2 0) * 60)) + (rd x6_2 1))) * 60)) + (rd x6_2 2))) * 1)) + 0)), .int .i64 (wrap64 ((wrap64 (a0 * 3600)) * 1))] (by rfl) rfl rfl (by (try simp only [List.map_toArray, List.map_cons, List.map_nil]); first | done | rfl | (simp only [Int.mul_one, Int.add_zero]; done) | (simp only [Int.mul_one, Int.add_zero]; rfl) | (simp only [List.length_drop, List.length_take]; rfl)) ?_
         with_reducible refine (spec_diMake.calls kj38 (wrap64 ((wrap64 ((wrap64 ((wrap64 ((wrap64 ((wrap64 ((rd x6_2 0) * 60)) + (rd x6_2 1))) * 60)) + (rd x6_2 2))) * 1)) + 0)) (wrap64 ((wrap64 (a0 * 3600)) * 1)) t413 t414 t415 _ A89.out).mono ?_
         rintro e w92 ⟨rfl, hb⟩
         have HS0_ := (hb.cell (World.block_lt_of_cell? _ _ (hHeld.1))).trans (hHeld.1)
         have HS1_ := (hb.cell (World.block_lt_of_cell? _ _ (hHeld.2.1))).trans (hHeld.2.1)
         have HS2_ := (hb.cell (World.block_lt_of_cell? _ _ (hHeld.2.2))).trans (hHeld.2.2)
         refine ⟨_, rfl, ?_⟩
         have n0_ := Am (Kd.R_below (kW HO_6) hb)
         have hp0 := pA BK386 hb
         have hv := vK HB hb
         have n2_ := Am (bT hv hb)
         clear HO_6 HB
         have HO_6 := n0_
         replace BK386 := hp0 BK386
         have HB := n2_
         clear n0_ n2_ hp0 hv
         (try clear hb)
         refine hK.out _ _ ⟨HS0_, HS1_, HS2_⟩ (fun hHeld => ?_)
         clear hK K
         refine norm_ (a' := ?_) ?_ ?_
         rotate_left
         ·show Act.put _ (some 149) _ = _
          simp only [Act.put, List.setIfInBounds_toArray, List.set_cons_zero, List.set_cons_succ, i64_w, i32_w]
          rfl
         iterate 2
          refine pI (v := ?_) (a' := ?_) rfl (any_of HT_.out (by kernel_rfl)) (fun _ _ _ h => h) (Or.inl ⟨by rfl, ?_⟩) ?_ ?_
          rotate_left
          ·intro w'
           go_simp
           with_reducible rfl
          rotate_left
          ·show Act.put _ (some _) _ = _
           simp only [Act.put, List.setIfInBounds_toArray, List.set_cons_zero, List.set_cons_succ, i64_w, i32_w]
           rfl
         refine one_ (i := 24) (N := none) (pT 26 25) rfl rfl (one_of HT_.out (by kernel_rfl)) (by decide) (fun K hK => ?_)
         have hs93 : w92.cell? ⟨gb386, 0, none⟩ = some (.int .i64 x387000_2) := zc20 BK386.out
         have hfs93 := kF BK386.out 0
         have hs94 : w92.cell? ⟨gb386, 1, none⟩ = some (.int .i64 x387001_2) := zc21 BK386.out
         have hfs94 := kF BK386.out 1
         refine skip_ (w1 := ?_) (by rfl) rfl ?_ ?_
         rotate_left
         ·go_simp
          rfl
         have e0_ : ad410.block ≠ gb386 := Kd.own_blk (Kd.R_ne HO_6.out BK386.out (by decide))
         refine hK.out _ _ ⟨?_, ?_, ?_⟩ (fun hHeld => ?_)
         · exact (cell_far (p := ⟨gb386, 1, none⟩) (a := ad410) e0_ _).trans ((cell_far (p := ⟨gb386, 0, none⟩) (a := ad410) e0_ _).trans (hHeld.1))
         · exact (cell_far (p := ⟨gb386, 1, none⟩) (a := ⟨ad410.block, ad410.off + 1, none⟩) e0_ _).trans ((cell_far (p := ⟨gb386, 0, none⟩) (a := ⟨ad410.block, ad410.off + 1, none⟩) e0_ _).trans (hHeld.2.1))
         · exact (cell_far (p := ⟨gb386, 1, none⟩) (a := ⟨ad410.block, ad410.off + 2, none⟩) e0_ _).trans ((cell_far (p := ⟨gb386, 0, none⟩) (a := ⟨ad410.block, ad410.off + 2, none⟩) e0_ _).trans (hHeld.2.2))
         clear e0_
         clear hK K
         refine pI (v := ?_) (a' := ?_) rfl (any_of HT_.out (by kernel_rfl)) (fun _ _ _ h => h) (Or.inl ⟨by rfl, ?_⟩) ?_ ?_
         rotate_left
         ·intro w'
          go_simp
          with_reducible rfl
         rotate_left
         ·show Act.put _ (some _) _ = _
          simp only [Act.put, List.setIfInBounds_toArray, List.set_cons_zero, List.set_cons_succ, i64_w, i32_w]
          rfl
         refine done_ (done_of HT_.out (by kernel_rfl)) ?_
         try go_wp2
         refine bodyPost_ret (results_ct rfl _ _ gb386 23 #[.int .i64 t413, .int .i64 t414] (0, 0) _ rfl (by (with_reducible repeat (first | refine kN ?_ _ | refine kD ?_ | refine kA ?_ _)); refine kP (cs := #[.int .i64 t413, .int .i64 x387001_2]) ?_ 1 _ rfl; (with_reducible repeat (first | refine kN ?_ _ | refine kD ?_ | refine kA ?_ _)); refine kP (cs := #[.int .i64 x387000_2, .int .i64 x387001_2]) ?_ 0 _ rfl; (with_reducible repeat (first | refine kN ?_ _ | refine kD ?_ | refine kA ?_ _)); exact BK386.out) Tryz.underlying23 rfl (by kernel_rfl)) rfl ?_
         exact ⟨by first | rfl | (simp [errW_none, errW_some] <;> rfl) | (simp [*, errW_none, errW_some] <;> rfl), by repeat (first | (with_reducible first | exact HB.out | apply bA | apply bN | apply bD | refine bX ?_ (by assumption)) | exact HB.out)⟩
       rw [if_neg c88] at H
       exact absurd H (by simp)
      rw [if_neg c87] at H
      exact absurd H (by simp)
     rw [if_neg c86] at H
     exact absurd H (by simp)
end Go.Proofs.YtchglfpiicaedaaGreatDoor.PFnHandsStandOfAll
