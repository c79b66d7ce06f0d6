-- WRITTEN BY A PROGRAM OF THIS SESSION (wip/tools): its own text, not the kit's printed one.
import Derived.Test.YtioggbokjfdoaaaPFnExactNextMeetx0
import Derived.Test.YtioggbokjfdoaaaPFnExactNextMeetx2
import Derived.Test.YtioggbokjfdoaaaPFnExactNextMeetx6
namespace Go.Proofs.Ytioggbokjfdoaaa.PFnExactNextMeet
open Go.RowKit Go.Proofs.YtioggbokjfdoaaaW.PrintWords Go.Proofs.YtioggbokjfdoaaaW.PrintLast Go.Proofs.YtioggbokjfdoaaaW.PrintMore
attribute [local go_sem] max2_int min2_int max_two min_two max_three min_three max_four min_four   -- for this text's walks alone
set_option linter.unusedVariables false
set_option linter.unusedSimpArgs false

/-! ### laws_FnExactNextMeet: function 3 -/
def laws_FnExactNextMeet.f (k : Nat) (a0_0 : Int) (a0_1 : Int) (a0_2 : Int) (a1_0 : Int) (a1_1 : Int) (a1_2 : Int) (a2_0 : Int) (a2_1 : Int) : Option (Bool) := (laws_toHand.f a0_0 a0_1 a0_2).bind fun bt300 => ((laws_toHand.f a1_0 a1_1 a1_2).bind fun bt303 => ((laws_toTurn.f a2_0 a2_1).bind fun bt306 => ((spec_NextMeet.f k bt300.1 bt300.2.1 bt300.2.2 bt303.1 bt303.2.1 bt303.2.2 bt306.1 bt306.2).bind fun bt308 => ((laws_toHand.f a0_0 a0_1 a0_2).bind fun bt312 => ((laws_toHand.f a1_0 a1_1 a1_2).bind fun bt315 => ((laws_toTurn.f a2_0 a2_1).bind fun bt318 => ((impl_NextMeet.f k bt312.1 bt312.2.1 bt312.2.2 bt315.1 bt315.2.1 bt315.2.2 bt318.1 bt318.2).bind fun bt320 => ((laws_eqTurn.f bt320.1 bt320.2.1 bt308.1 bt308.2.1).bind fun t324 => (if t324 = true then (if (bt320.2.2 != bt308.2.2) = true then (some false) else (some true)) else (some false))))))))))
theorem laws_FnExactNextMeet.mono : ∀ a0 a1 a2 a3 a4 a5 a6 a7 k, LeO (laws_FnExactNextMeet.f k a0 a1 a2 a3 a4 a5 a6 a7) (laws_FnExactNextMeet.f (k + 1) a0 a1 a2 a3 a4 a5 a6 a7) := by
 intro a0 a1 a2 a3 a4 a5 a6 a7 k
 unfold laws_FnExactNextMeet.f
 repeat' first
   | (with_reducible exact impl_NextMeet.mono _ _ _ _ _ _ _ _ _)
   | (with_reducible exact spec_NextMeet.mono _ _ _ _ _ _ _ _ _)
   | (with_reducible exact LeO.refl _)
   | (with_reducible exact LeO.none _)
   | (with_reducible refine LeO.ite ?_ ?_)
   | (with_reducible refine LeO.bind ?_ (fun _ => ?_))
   | exact impl_NextMeet.mono _ _ _ _ _ _ _ _ _
   | exact spec_NextMeet.mono _ _ _ _ _ _ _ _ _
   | exact LeO.none _
   | refine LeO.ite ?_ ?_
   | refine LeO.bind ?_ (fun _ => ?_)
def laws_FnExactNextMeet.T1 : Bool × List (List Nat × List Nat) := (true, [([], []), ([0], [0]), ([], []), ([2, 1], [2]), ([], []), ([4, 3], [4]), ([1, 3, 5, 5], [1, 3, 5]), ([6], [6]), ([7], [7]), ([7], [7]), ([], []), ([10, 8, 6, 0, 1, 2, 3, 4, 5, 6, 7, 8, 10], [8, 10]), ([9, 11, 0, 1, 2, 3, 4, 5, 6, 7, 8, 9, 10, 11], [9])])
def laws_FnExactNextMeet.B1 : List Nat := [0, 1, 0, 7, 0, 31, 63, 127, 255, 255, 0, 1535, 4095]
theorem laws_FnExactNextMeet.tab1 : rtab .any (opsOf Try.f3 1) = laws_FnExactNextMeet.T1 := by kernel_rfl
theorem laws_FnExactNextMeet.bits1 : waitsOk laws_FnExactNextMeet.T1.2 laws_FnExactNextMeet.B1 = true := by kernel_rfl
def laws_FnExactNextMeet.T2 : Bool × List (List Nat × List Nat) := (true, [([], []), ([0], [0]), ([], []), ([2, 1], [2]), ([], []), ([4, 3], [4]), ([1, 3, 5, 5], [1, 3, 5]), ([6], [6]), ([7], [7]), ([7], [7]), ([], []), ([10, 8, 6, 0, 1, 2, 3, 4, 5, 6, 7, 8, 10], [8, 10]), ([9, 11, 0, 1, 2, 3, 4, 5, 6, 7, 8, 9, 10, 11], [9])])
def laws_FnExactNextMeet.B2 : List Nat := [0, 1, 0, 7, 0, 31, 63, 127, 255, 255, 0, 1535, 4095]
theorem laws_FnExactNextMeet.tab2 : rtab .any (opsOf Try.f3 2) = laws_FnExactNextMeet.T2 := by kernel_rfl
theorem laws_FnExactNextMeet.bits2 : waitsOk laws_FnExactNextMeet.T2.2 laws_FnExactNextMeet.B2 = true := by kernel_rfl
set_option maxHeartbeats 8000000 in
set_option maxRecDepth 100000 in
theorem laws_FnExactNextMeet.calls (k : Nat) (a0_0 : Int) (a0_1 : Int) (a0_2 : Int) (a1_0 : Int) (a1_1 : Int) (a1_2 : Int) (a2_0 : Int) (a2_1 : Int) (r : Bool) (w : World) (hlaw : Aside0 (r = true)) (h : laws_FnExactNextMeet.f k a0_0 a0_1 a0_2 a1_0 a1_1 a1_2 a2_0 a2_1 = some r) :
  Calls Try.prog 3 #[.agg #[.int .i64 a0_0, .int .i64 a0_1, .int .i64 a0_2], .agg #[.int .i64 a1_0, .int .i64 a1_1, .int .i64 a1_2], .agg #[.int .i64 a2_0, .int .i64 a2_1]] w fun e w' => e = .returned (.bool r) ∧ Below w.heap.size w w' := by
 have hu25 := Try.underlying25
 have hu23 := Try.underlying23
 have hu26 := Try.underlying26
 have HB := Am (Below.refl w.heap.size w)
 have H : ((laws_toHand.f a0_0 a0_1 a0_2).bind fun bt300 => ((laws_toHand.f a1_0 a1_1 a1_2).bind fun bt303 => ((laws_toTurn.f a2_0 a2_1).bind fun bt306 => ((spec_NextMeet.f k bt300.1 bt300.2.1 bt300.2.2 bt303.1 bt303.2.1 bt303.2.2 bt306.1 bt306.2).bind fun bt308 => ((laws_toHand.f a0_0 a0_1 a0_2).bind fun bt312 => ((laws_toHand.f a1_0 a1_1 a1_2).bind fun bt315 => ((laws_toTurn.f a2_0 a2_1).bind fun bt318 => ((impl_NextMeet.f k bt312.1 bt312.2.1 bt312.2.2 bt315.1 bt315.2.1 bt315.2.2 bt318.1 bt318.2).bind fun bt320 => ((laws_eqTurn.f bt320.1 bt320.2.1 bt308.1 bt308.2.1).bind fun t324 => (if t324 = true then (if (bt320.2.2 != bt308.2.2) = true then (some false) else (some true)) else (some false))))))))))) = some r := h
 clear h
 replace H := Option.bind_eq_some_iff.mp H
 obtain ⟨⟨t300, t301, t302⟩, A40, H⟩ := H
 replace H : ((laws_toHand.f a1_0 a1_1 a1_2).bind fun bt303 => ((laws_toTurn.f a2_0 a2_1).bind fun bt306 => ((spec_NextMeet.f k t300 t301 t302 bt303.1 bt303.2.1 bt303.2.2 bt306.1 bt306.2).bind fun bt308 => ((laws_toHand.f a0_0 a0_1 a0_2).bind fun bt312 => ((laws_toHand.f a1_0 a1_1 a1_2).bind fun bt315 => ((laws_toTurn.f a2_0 a2_1).bind fun bt318 => ((impl_NextMeet.f k bt312.1 bt312.2.1 bt312.2.2 bt315.1 bt315.2.1 bt315.2.2 bt318.1 bt318.2).bind fun bt320 => ((laws_eqTurn.f bt320.1 bt320.2.1 bt308.1 bt308.2.1).bind fun t324 => (if t324 = true then (if (bt320.2.2 != bt308.2.2) = true then (some false) else (some true)) else (some false)))))))))) = some r := H
 have A4 := Am A40
 clear A40
 replace H := Option.bind_eq_some_iff.mp H
 obtain ⟨⟨t303, t304, t305⟩, A50, H⟩ := H
 replace H : ((laws_toTurn.f a2_0 a2_1).bind fun bt306 => ((spec_NextMeet.f k t300 t301 t302 t303 t304 t305 bt306.1 bt306.2).bind fun bt308 => ((laws_toHand.f a0_0 a0_1 a0_2).bind fun bt312 => ((laws_toHand.f a1_0 a1_1 a1_2).bind fun bt315 => ((laws_toTurn.f a2_0 a2_1).bind fun bt318 => ((impl_NextMeet.f k bt312.1 bt312.2.1 bt312.2.2 bt315.1 bt315.2.1 bt315.2.2 bt318.1 bt318.2).bind fun bt320 => ((laws_eqTurn.f bt320.1 bt320.2.1 bt308.1 bt308.2.1).bind fun t324 => (if t324 = true then (if (bt320.2.2 != bt308.2.2) = true then (some false) else (some true)) else (some false))))))))) = some r := H
 have A5 := Am A50
 clear A50
 replace H := Option.bind_eq_some_iff.mp H
 obtain ⟨⟨t306, t307⟩, A60, H⟩ := H
 replace H : ((spec_NextMeet.f k t300 t301 t302 t303 t304 t305 t306 t307).bind fun bt308 => ((laws_toHand.f a0_0 a0_1 a0_2).bind fun bt312 => ((laws_toHand.f a1_0 a1_1 a1_2).bind fun bt315 => ((laws_toTurn.f a2_0 a2_1).bind fun bt318 => ((impl_NextMeet.f k bt312.1 bt312.2.1 bt312.2.2 bt315.1 bt315.2.1 bt315.2.2 bt318.1 bt318.2).bind fun bt320 => ((laws_eqTurn.f bt320.1 bt320.2.1 bt308.1 bt308.2.1).bind fun t324 => (if t324 = true then (if (bt320.2.2 != bt308.2.2) = true then (some false) else (some true)) else (some false)))))))) = some r := H
 have A6 := Am A60
 clear A60
 replace H := Option.bind_eq_some_iff.mp H
 obtain ⟨⟨t308, t309, t310⟩, A70, H⟩ := H
 replace H : ((laws_toHand.f a0_0 a0_1 a0_2).bind fun bt312 => ((laws_toHand.f a1_0 a1_1 a1_2).bind fun bt315 => ((laws_toTurn.f a2_0 a2_1).bind fun bt318 => ((impl_NextMeet.f k bt312.1 bt312.2.1 bt312.2.2 bt315.1 bt315.2.1 bt315.2.2 bt318.1 bt318.2).bind fun bt320 => ((laws_eqTurn.f bt320.1 bt320.2.1 t308 t309).bind fun t324 => (if t324 = true then (if (bt320.2.2 != t310) = true then (some false) else (some true)) else (some false))))))) = some r := H
 have A7 := Am A70
 clear A70
 replace H := Option.bind_eq_some_iff.mp H
 obtain ⟨⟨t312, t313, t314⟩, A80, H⟩ := H
 replace H : ((laws_toHand.f a1_0 a1_1 a1_2).bind fun bt315 => ((laws_toTurn.f a2_0 a2_1).bind fun bt318 => ((impl_NextMeet.f k t312 t313 t314 bt315.1 bt315.2.1 bt315.2.2 bt318.1 bt318.2).bind fun bt320 => ((laws_eqTurn.f bt320.1 bt320.2.1 t308 t309).bind fun t324 => (if t324 = true then (if (bt320.2.2 != t310) = true then (some false) else (some true)) else (some false)))))) = some r := H
 have A8 := Am A80
 clear A80
 replace H := Option.bind_eq_some_iff.mp H
 obtain ⟨⟨t315, t316, t317⟩, A90, H⟩ := H
 replace H : ((laws_toTurn.f a2_0 a2_1).bind fun bt318 => ((impl_NextMeet.f k t312 t313 t314 t315 t316 t317 bt318.1 bt318.2).bind fun bt320 => ((laws_eqTurn.f bt320.1 bt320.2.1 t308 t309).bind fun t324 => (if t324 = true then (if (bt320.2.2 != t310) = true then (some false) else (some true)) else (some false))))) = some r := H
 have A9 := Am A90
 clear A90
 replace H := Option.bind_eq_some_iff.mp H
 obtain ⟨⟨t318, t319⟩, A100, H⟩ := H
 replace H : ((impl_NextMeet.f k t312 t313 t314 t315 t316 t317 t318 t319).bind fun bt320 => ((laws_eqTurn.f bt320.1 bt320.2.1 t308 t309).bind fun t324 => (if t324 = true then (if (bt320.2.2 != t310) = true then (some false) else (some true)) else (some false)))) = some r := H
 have A10 := Am A100
 clear A100
 replace H := Option.bind_eq_some_iff.mp H
 obtain ⟨⟨t320, t321, t322⟩, A110, H⟩ := H
 replace H : ((laws_eqTurn.f t320 t321 t308 t309).bind fun t324 => (if t324 = true then (if (t322 != t310) = true then (some false) else (some true)) else (some false))) = some r := H
 have A11 := Am A110
 clear A110
 replace H := Option.bind_eq_some_iff.mp H
 obtain ⟨t324, A120, H⟩ := H
 replace H : (if t324 = true then (if (t322 != t310) = true then (some false) else (some true)) else (some false)) = some r := H
 have A12 := Am A120
 clear A120
 by_cases c13 : t324 = true
 ·subst c13
  have H1 : (if (t322 != t310) = true then (some false) else (some true)) = some r := by rw [if_pos rfl] at H; exact H
  clear H
  have H := H1
  clear H1
  by_cases c14 : (t322 != t310) = true
  ·rw [if_pos c14] at H
   have c14b0 : (t322 != t310) = true := c14
   (try (have c14b1 : decide (t322 = t310) = false := by simpa using c14))
   (try (have c14b2 : (t322 == t310) = false := by simpa using c14))
   (try (have c14b3 : ¬ (t322 = t310) := by simpa using c14))
   clear c14
   exact absurd ((Option.some.inj H).trans hlaw.out) (by decide)
  ·rw [if_neg c14] at H
   have c14b0 : (t322 != t310) = false := by simpa using c14
   (try (have c14b1 : decide (t322 = t310) = true := by simpa using c14))
   (try (have c14b2 : (t322 == t310) = true := by simpa using c14))
   clear c14
   obtain rfl := Option.some.inj H
   go_enter Try.func3, Try.ntmps3
   try go_wp2_with (first | ((with_reducible refine gate_dst (N := 3) rfl ?_); refine box_event ?hg (N := 3) ?hd (cs := #[.int .i64 a0_0, .int .i64 a0_1, .int .i64 a0_2]) (t := 25) ?hr ?_; (case hd => rfl); (case hg => rfl); (case hr => first | (go_simp; done) | (go_simp; rfl)); intro gb297 hg w15 hbox hb; have n0_ := Am (bT (by repeat (first | (with_reducible first | exact HB.out | apply bA | apply bN | apply bD) | exact HB.out)) hb); have n1_ := Am (hbox); have n2_ := Am ((by rw [hg]; exact (bZ (by repeat (first | (with_reducible first | exact HB.out | apply bA | apply bN | apply bD) | exact HB.out))) : w.heap.size ≤ gb297)); have n3_ := Am ((by rw [hg]; exact (bZ (by repeat (first | (with_reducible first | exact HB.out | apply bA | apply bN | apply bD) | exact HB.out))) : w.heap.size ≤ gb297)); clear HB; have HB := n0_; have BK297 := n1_; have GW297 := n2_; have GE297 := n3_; clear n0_ n1_ n2_ n3_; clear hb hbox hg) | ((with_reducible refine gate_dst (N := 4) rfl ?_); refine box_event ?hg (N := 4) ?hd (cs := #[.int .i64 a1_0, .int .i64 a1_1, .int .i64 a1_2]) (t := 25) ?hr ?_; (case hd => rfl); (case hg => rfl); (case hr => first | (go_simp; done) | (go_simp; rfl)); intro gb298 hg w16 hbox hb; have n0_ := Am (kB (g := gb297) (o := .cells #[.int .i64 a0_0, .int .i64 a0_1, .int .i64 a0_2] 25 (0, 0)) (by (with_reducible repeat (first | refine kN ?_ _ | refine kD ?_ | refine kA ?_ _)); exact BK297.out) hb); have n1_ := Am (bT (by repeat (first | (with_reducible first | exact HB.out | apply bA | apply bN | apply bD | refine bS ?_ GE297.out) | exact HB.out)) hb); have n2_ := Am (hbox); have n3_ := Am ((by rw [hg]; exact (bZ (by repeat (first | (with_reducible first | exact HB.out | apply bA | apply bN | apply bD | refine bS ?_ GE297.out) | exact HB.out))) : w.heap.size ≤ gb298)); have n4_ := Am ((by rw [hg]; exact (bZ (by repeat (first | (with_reducible first | exact HB.out | apply bA | apply bN | apply bD | refine bS ?_ GE297.out) | exact HB.out))) : w.heap.size ≤ gb298)); have n5_ := Am ((by rw [hg]; exact Nat.ne_of_lt (kL (g := gb297) (o := .cells #[.int .i64 a0_0, .int .i64 a0_1, .int .i64 a0_2] 25 (0, 0)) (by (with_reducible repeat (first | refine kN ?_ _ | refine kD ?_ | refine kA ?_ _)); exact BK297.out)) : gb297 ≠ gb298)); have n6_ := Am ((by rw [hg]; exact Nat.ne_of_gt (kL (g := gb297) (o := .cells #[.int .i64 a0_0, .int .i64 a0_1, .int .i64 a0_2] 25 (0, 0)) (by (with_reducible repeat (first | refine kN ?_ _ | refine kD ?_ | refine kA ?_ _)); exact BK297.out)) : gb298 ≠ gb297)); clear BK297; clear HB; have BK297 := n0_; have HB := n1_; have BK298 := n2_; have GW298 := n3_; have GE298 := n4_; have NB297_298 := n5_; have NB298_297 := n6_; clear n0_ n1_ n2_ n3_ n4_ n5_ n6_; clear hb hbox hg) | ((with_reducible refine gate_dst (N := 5) rfl ?_); refine box_event ?hg (N := 5) ?hd (cs := #[.int .i64 a2_0, .int .i64 a2_1]) (t := 23) ?hr ?_; (case hd => rfl); (case hg => rfl); (case hr => first | (go_simp; done) | (go_simp; rfl)); intro gb299 hg w17 hbox hb; have n0_ := Am (kB (g := gb297) (o := .cells #[.int .i64 a0_0, .int .i64 a0_1, .int .i64 a0_2] 25 (0, 0)) (by (with_reducible repeat (first | refine kN ?_ _ | refine kD ?_ | refine kA ?_ _)); exact BK297.out) hb); have n1_ := Am (kB (g := gb298) (o := .cells #[.int .i64 a1_0, .int .i64 a1_1, .int .i64 a1_2] 25 (0, 0)) (by (with_reducible repeat (first | refine kN ?_ _ | refine kD ?_ | refine kA ?_ _)); exact BK298.out) hb); have n2_ := Am (bT (by repeat (first | (with_reducible first | exact HB.out | apply bA | apply bN | apply bD | refine bS ?_ GE297.out | refine bS ?_ GE298.out) | exact HB.out)) hb); have n3_ := Am (hbox); have n4_ := Am ((by rw [hg]; exact (bZ (by repeat (first | (with_reducible first | exact HB.out | apply bA | apply bN | apply bD | refine bS ?_ GE297.out | refine bS ?_ GE298.out) | exact HB.out))) : w.heap.size ≤ gb299)); have n5_ := Am ((by rw [hg]; exact (bZ (by repeat (first | (with_reducible first | exact HB.out | apply bA | apply bN | apply bD | refine bS ?_ GE297.out | refine bS ?_ GE298.out) | exact HB.out))) : w.heap.size ≤ gb299)); have n6_ := Am ((by rw [hg]; exact Nat.ne_of_lt (kL (g := gb297) (o := .cells #[.int .i64 a0_0, .int .i64 a0_1, .int .i64 a0_2] 25 (0, 0)) (by (with_reducible repeat (first | refine kN ?_ _ | refine kD ?_ | refine kA ?_ _)); exact BK297.out)) : gb297 ≠ gb299)); have n7_ := Am ((by rw [hg]; exact Nat.ne_of_gt (kL (g := gb297) (o := .cells #[.int .i64 a0_0, .int .i64 a0_1, .int .i64 a0_2] 25 (0, 0)) (by (with_reducible repeat (first | refine kN ?_ _ | refine kD ?_ | refine kA ?_ _)); exact BK297.out)) : gb299 ≠ gb297)); have n8_ := Am ((by rw [hg]; exact Nat.ne_of_lt (kL (g := gb298) (o := .cells #[.int .i64 a1_0, .int .i64 a1_1, .int .i64 a1_2] 25 (0, 0)) (by (with_reducible repeat (first | refine kN ?_ _ | refine kD ?_ | refine kA ?_ _)); exact BK298.out)) : gb298 ≠ gb299)); have n9_ := Am ((by rw [hg]; exact Nat.ne_of_gt (kL (g := gb298) (o := .cells #[.int .i64 a1_0, .int .i64 a1_1, .int .i64 a1_2] 25 (0, 0)) (by (with_reducible repeat (first | refine kN ?_ _ | refine kD ?_ | refine kA ?_ _)); exact BK298.out)) : gb299 ≠ gb298)); clear BK297; clear BK298; clear HB; have BK297 := n0_; have BK298 := n1_; have HB := n2_; have BK299 := n3_; have GW299 := n4_; have GE299 := n5_; have NB297_299 := n6_; have NB299_297 := n7_; have NB298_299 := n8_; have NB299_298 := n9_; clear n0_ n1_ n2_ n3_ n4_ n5_ n6_ n7_ n8_ n9_; clear hb hbox hg))
   have n0_ := Am (kD BK297.out)
   have n1_ := Am (kD BK298.out)
   have n2_ := Am (kD BK299.out)
   have n3_ := Am (bD HB.out)
   clear BK297
   clear BK298
   clear BK299
   clear HB
   have BK297 := n0_
   have BK298 := n1_
   have BK299 := n2_
   have HB := n3_
   clear n0_ n1_ n2_ n3_
   refine start_ (n := 13) (S := fun w' => w'.cell? ⟨gb297, 0, none⟩ = some (.int .i64 a0_0) ∧ w'.cell? ⟨gb297, 1, none⟩ = some (.int .i64 a0_1) ∧ w'.cell? ⟨gb297, 2, none⟩ = some (.int .i64 a0_2) ∧ w'.cell? ⟨gb298, 0, none⟩ = some (.int .i64 a1_0) ∧ w'.cell? ⟨gb298, 1, none⟩ = some (.int .i64 a1_1) ∧ w'.cell? ⟨gb298, 2, none⟩ = some (.int .i64 a1_2) ∧ w'.cell? ⟨gb299, 0, none⟩ = some (.int .i64 a2_0) ∧ w'.cell? ⟨gb299, 1, none⟩ = some (.int .i64 a2_1)) (ds := []) #[false, false, false, false, false, false, false, false, false, false, false, false, false] (by kernel_rfl) rfl rfl ⟨(kC BK297.out 0).trans rfl, (kC BK297.out 1).trans rfl, (kC BK297.out 2).trans rfl, (kC BK298.out 0).trans rfl, (kC BK298.out 1).trans rfl, (kC BK298.out 2).trans rfl, (kC BK299.out 0).trans rfl, (kC BK299.out 1).trans rfl⟩ (fun hHeld => ?_); refine with_tabW laws_FnExactNextMeet.tab1 laws_FnExactNextMeet.bits1 (fun HT_ HW_ => ?_)
   generalize w17.drew = w18 at BK297 BK298 BK299 HB hHeld ⊢
   refine take_ (i := 0) (N := some 12) (v := ?_) (a' := ?_) #[true, false, false, false, false, false, false, false, false, false, false, false, false] rfl rfl (take_ofW HT_.out HW_.out (by kernel_rfl)) (fun _ _ _ h => h) (Or.inl ⟨by rfl, ?_⟩) hHeld ?_ ?_
   rotate_left
   ·rintro w' ⟨s0, s1, s2, s3, s4, s5, s6, s7⟩
    go_simp
    with_reducible rfl
   rotate_left
   ·simp only [Act.put, List.setIfInBounds_toArray, List.set_cons_zero, List.set_cons_succ, i64_w, i32_w]
    rfl
   refine take_ (i := 2) (N := some 14) (v := ?_) (a' := ?_) #[true, false, true, false, false, false, false, false, false, false, false, false, false] rfl rfl (take_ofW HT_.out HW_.out (by kernel_rfl)) (fun _ _ _ h => h) (Or.inl ⟨by rfl, ?_⟩) hHeld ?_ ?_
   rotate_left
   ·rintro w' ⟨s0, s1, s2, s3, s4, s5, s6, s7⟩
    go_simp
    with_reducible rfl
   rotate_left
   ·simp only [Act.put, List.setIfInBounds_toArray, List.set_cons_zero, List.set_cons_succ, i64_w, i32_w]
    rfl
   refine take_ (i := 4) (N := some 16) (v := ?_) (a' := ?_) #[true, false, true, false, true, false, false, false, false, false, false, false, false] rfl rfl (take_ofW HT_.out HW_.out (by kernel_rfl)) (fun _ _ _ h => h) (Or.inl ⟨by rfl, ?_⟩) hHeld ?_ ?_
   rotate_left
   ·rintro w' ⟨s0, s1, s2, s3, s4, s5, s6, s7⟩
    go_simp
    with_reducible rfl
   rotate_left
   ·simp only [Act.put, List.setIfInBounds_toArray, List.set_cons_zero, List.set_cons_succ, i64_w, i32_w]
    rfl
   refine join_ (σ := Nat) 2 #[true, true, true, true, true, true, true, true, true, true, true, false, false] (fun s_ => [(13, .agg #[.int .i64 t300, .int .i64 t301, .int .i64 t302]), (15, .agg #[.int .i64 t303, .int .i64 t304, .int .i64 t305]), (17, .agg #[.int .i64 t306, .int .i64 t307]), (18, .tuple #[.agg #[.int .i64 t308, .int .i64 t309], .bool t310]), (7, .pointer (some ⟨s_, 0, none⟩)), (11, .tuple #[.agg #[.int .i64 t308, .int .i64 t309], .bool t310]), (19, .agg #[.int .i64 t308, .int .i64 t309]), (20, .bool t310)]) (fun s_ w' => (w'.cell? ⟨gb297, 0, none⟩ = some (.int .i64 a0_0) ∧ w'.cell? ⟨gb297, 1, none⟩ = some (.int .i64 a0_1) ∧ w'.cell? ⟨gb297, 2, none⟩ = some (.int .i64 a0_2) ∧ w'.cell? ⟨gb298, 0, none⟩ = some (.int .i64 a1_0) ∧ w'.cell? ⟨gb298, 1, none⟩ = some (.int .i64 a1_1) ∧ w'.cell? ⟨gb298, 2, none⟩ = some (.int .i64 a1_2) ∧ w'.cell? ⟨gb299, 0, none⟩ = some (.int .i64 a2_0) ∧ w'.cell? ⟨gb299, 1, none⟩ = some (.int .i64 a2_1)) ∧ (w'.heap[gb297]? = some (.cells #[.int .i64 a0_0, .int .i64 a0_1, .int .i64 a0_2] 25 (0, 0))) ∧ (w'.heap[gb298]? = some (.cells #[.int .i64 a1_0, .int .i64 a1_1, .int .i64 a1_2] 25 (0, 0))) ∧ (w'.heap[gb299]? = some (.cells #[.int .i64 a2_0, .int .i64 a2_1] 23 (0, 0))) ∧ (w'.heap[s_]? = some (.cells #[.int .i64 0, .int .i64 0] 26 (0, 0))) ∧ (w.heap.size ≤ s_) ∧ (w.heap.size ≤ s_) ∧ (gb297 ≠ s_) ∧ (s_ ≠ gb297) ∧ (gb298 ≠ s_) ∧ (s_ ≠ gb298) ∧ (gb299 ≠ s_) ∧ (s_ ≠ gb299) ∧ (Below w.heap.size w w')) ?_ ?_
   rotate_left
   ·intro hJ1_3_5_6_10
    refine join_ (σ := Unit) 3 #[true, true, true, true, true, true, true, true, true, true, false, false, false] (fun s_ => [(13, .agg #[.int .i64 t300, .int .i64 t301, .int .i64 t302]), (15, .agg #[.int .i64 t303, .int .i64 t304, .int .i64 t305]), (17, .agg #[.int .i64 t306, .int .i64 t307]), (18, .tuple #[.agg #[.int .i64 t308, .int .i64 t309], .bool t310]), (11, .tuple #[.agg #[.int .i64 t308, .int .i64 t309], .bool t310]), (19, .agg #[.int .i64 t308, .int .i64 t309]), (20, .bool t310)]) (fun s_ w' => (w'.cell? ⟨gb297, 0, none⟩ = some (.int .i64 a0_0) ∧ w'.cell? ⟨gb297, 1, none⟩ = some (.int .i64 a0_1) ∧ w'.cell? ⟨gb297, 2, none⟩ = some (.int .i64 a0_2) ∧ w'.cell? ⟨gb298, 0, none⟩ = some (.int .i64 a1_0) ∧ w'.cell? ⟨gb298, 1, none⟩ = some (.int .i64 a1_1) ∧ w'.cell? ⟨gb298, 2, none⟩ = some (.int .i64 a1_2) ∧ w'.cell? ⟨gb299, 0, none⟩ = some (.int .i64 a2_0) ∧ w'.cell? ⟨gb299, 1, none⟩ = some (.int .i64 a2_1)) ∧ (w'.heap[gb297]? = some (.cells #[.int .i64 a0_0, .int .i64 a0_1, .int .i64 a0_2] 25 (0, 0))) ∧ (w'.heap[gb298]? = some (.cells #[.int .i64 a1_0, .int .i64 a1_1, .int .i64 a1_2] 25 (0, 0))) ∧ (w'.heap[gb299]? = some (.cells #[.int .i64 a2_0, .int .i64 a2_1] 23 (0, 0))) ∧ (Below w.heap.size w w')) ?_ ?_
    rotate_left
    ·intro hJ1_3_5_6
     refine join_ (σ := Nat) 6 #[true, true, true, true, true, true, false, false, false, false, true, false, false] (fun s_ => [(13, .agg #[.int .i64 t300, .int .i64 t301, .int .i64 t302]), (15, .agg #[.int .i64 t303, .int .i64 t304, .int .i64 t305]), (17, .agg #[.int .i64 t306, .int .i64 t307]), (7, .pointer (some ⟨s_, 0, none⟩))]) (fun s_ w' => (w'.cell? ⟨gb297, 0, none⟩ = some (.int .i64 a0_0) ∧ w'.cell? ⟨gb297, 1, none⟩ = some (.int .i64 a0_1) ∧ w'.cell? ⟨gb297, 2, none⟩ = some (.int .i64 a0_2) ∧ w'.cell? ⟨gb298, 0, none⟩ = some (.int .i64 a1_0) ∧ w'.cell? ⟨gb298, 1, none⟩ = some (.int .i64 a1_1) ∧ w'.cell? ⟨gb298, 2, none⟩ = some (.int .i64 a1_2) ∧ w'.cell? ⟨gb299, 0, none⟩ = some (.int .i64 a2_0) ∧ w'.cell? ⟨gb299, 1, none⟩ = some (.int .i64 a2_1)) ∧ (w'.heap[gb297]? = some (.cells #[.int .i64 a0_0, .int .i64 a0_1, .int .i64 a0_2] 25 (0, 0))) ∧ (w'.heap[gb298]? = some (.cells #[.int .i64 a1_0, .int .i64 a1_1, .int .i64 a1_2] 25 (0, 0))) ∧ (w'.heap[gb299]? = some (.cells #[.int .i64 a2_0, .int .i64 a2_1] 23 (0, 0))) ∧ (w'.heap[s_]? = some (.cells #[.int .i64 0, .int .i64 0] 26 (0, 0))) ∧ (w.heap.size ≤ s_) ∧ (w.heap.size ≤ s_) ∧ (gb297 ≠ s_) ∧ (s_ ≠ gb297) ∧ (gb298 ≠ s_) ∧ (s_ ≠ gb298) ∧ (gb299 ≠ s_) ∧ (s_ ≠ gb299) ∧ (Below w.heap.size w w')) ?_ ?_
     rotate_left
     ·intro hJ1_3_5_10
      refine join_ (σ := Unit) 7 #[true, true, true, true, true, true, false, false, false, false, false, false, false] (fun s_ => [(13, .agg #[.int .i64 t300, .int .i64 t301, .int .i64 t302]), (15, .agg #[.int .i64 t303, .int .i64 t304, .int .i64 t305]), (17, .agg #[.int .i64 t306, .int .i64 t307])]) (fun s_ w' => (w'.cell? ⟨gb297, 0, none⟩ = some (.int .i64 a0_0) ∧ w'.cell? ⟨gb297, 1, none⟩ = some (.int .i64 a0_1) ∧ w'.cell? ⟨gb297, 2, none⟩ = some (.int .i64 a0_2) ∧ w'.cell? ⟨gb298, 0, none⟩ = some (.int .i64 a1_0) ∧ w'.cell? ⟨gb298, 1, none⟩ = some (.int .i64 a1_1) ∧ w'.cell? ⟨gb298, 2, none⟩ = some (.int .i64 a1_2) ∧ w'.cell? ⟨gb299, 0, none⟩ = some (.int .i64 a2_0) ∧ w'.cell? ⟨gb299, 1, none⟩ = some (.int .i64 a2_1)) ∧ (w'.heap[gb297]? = some (.cells #[.int .i64 a0_0, .int .i64 a0_1, .int .i64 a0_2] 25 (0, 0))) ∧ (w'.heap[gb298]? = some (.cells #[.int .i64 a1_0, .int .i64 a1_1, .int .i64 a1_2] 25 (0, 0))) ∧ (w'.heap[gb299]? = some (.cells #[.int .i64 a2_0, .int .i64 a2_1] 23 (0, 0))) ∧ (Below w.heap.size w w')) ?_ ?_
      rotate_left
      ·intro hJ1_3_5
       refine join_ (σ := Nat) 7 #[true, true, true, true, true, false, false, false, false, false, true, false, false] (fun s_ => [(13, .agg #[.int .i64 t300, .int .i64 t301, .int .i64 t302]), (15, .agg #[.int .i64 t303, .int .i64 t304, .int .i64 t305]), (7, .pointer (some ⟨s_, 0, none⟩))]) (fun s_ w' => (w'.cell? ⟨gb297, 0, none⟩ = some (.int .i64 a0_0) ∧ w'.cell? ⟨gb297, 1, none⟩ = some (.int .i64 a0_1) ∧ w'.cell? ⟨gb297, 2, none⟩ = some (.int .i64 a0_2) ∧ w'.cell? ⟨gb298, 0, none⟩ = some (.int .i64 a1_0) ∧ w'.cell? ⟨gb298, 1, none⟩ = some (.int .i64 a1_1) ∧ w'.cell? ⟨gb298, 2, none⟩ = some (.int .i64 a1_2) ∧ w'.cell? ⟨gb299, 0, none⟩ = some (.int .i64 a2_0) ∧ w'.cell? ⟨gb299, 1, none⟩ = some (.int .i64 a2_1)) ∧ (w'.heap[gb297]? = some (.cells #[.int .i64 a0_0, .int .i64 a0_1, .int .i64 a0_2] 25 (0, 0))) ∧ (w'.heap[gb298]? = some (.cells #[.int .i64 a1_0, .int .i64 a1_1, .int .i64 a1_2] 25 (0, 0))) ∧ (w'.heap[gb299]? = some (.cells #[.int .i64 a2_0, .int .i64 a2_1] 23 (0, 0))) ∧ (w'.heap[s_]? = some (.cells #[.int .i64 0, .int .i64 0] 26 (0, 0))) ∧ (w.heap.size ≤ s_) ∧ (w.heap.size ≤ s_) ∧ (gb297 ≠ s_) ∧ (s_ ≠ gb297) ∧ (gb298 ≠ s_) ∧ (s_ ≠ gb298) ∧ (gb299 ≠ s_) ∧ (s_ ≠ gb299) ∧ (Below w.heap.size w w')) ?_ ?_
       rotate_left
       ·intro hJ1_3_10
        refine join_ (σ := Unit) 8 #[true, true, true, true, true, false, false, false, false, false, false, false, false] (fun s_ => [(13, .agg #[.int .i64 t300, .int .i64 t301, .int .i64 t302]), (15, .agg #[.int .i64 t303, .int .i64 t304, .int .i64 t305])]) (fun s_ w' => (w'.cell? ⟨gb297, 0, none⟩ = some (.int .i64 a0_0) ∧ w'.cell? ⟨gb297, 1, none⟩ = some (.int .i64 a0_1) ∧ w'.cell? ⟨gb297, 2, none⟩ = some (.int .i64 a0_2) ∧ w'.cell? ⟨gb298, 0, none⟩ = some (.int .i64 a1_0) ∧ w'.cell? ⟨gb298, 1, none⟩ = some (.int .i64 a1_1) ∧ w'.cell? ⟨gb298, 2, none⟩ = some (.int .i64 a1_2) ∧ w'.cell? ⟨gb299, 0, none⟩ = some (.int .i64 a2_0) ∧ w'.cell? ⟨gb299, 1, none⟩ = some (.int .i64 a2_1)) ∧ (w'.heap[gb297]? = some (.cells #[.int .i64 a0_0, .int .i64 a0_1, .int .i64 a0_2] 25 (0, 0))) ∧ (w'.heap[gb298]? = some (.cells #[.int .i64 a1_0, .int .i64 a1_1, .int .i64 a1_2] 25 (0, 0))) ∧ (w'.heap[gb299]? = some (.cells #[.int .i64 a2_0, .int .i64 a2_1] 23 (0, 0))) ∧ (Below w.heap.size w w')) ?_ ?_
        rotate_left
        ·intro hJ1_3
         refine join_ (σ := Nat) 8 #[true, true, true, false, true, false, false, false, false, false, true, false, false] (fun s_ => [(13, .agg #[.int .i64 t300, .int .i64 t301, .int .i64 t302]), (7, .pointer (some ⟨s_, 0, none⟩))]) (fun s_ w' => (w'.cell? ⟨gb297, 0, none⟩ = some (.int .i64 a0_0) ∧ w'.cell? ⟨gb297, 1, none⟩ = some (.int .i64 a0_1) ∧ w'.cell? ⟨gb297, 2, none⟩ = some (.int .i64 a0_2) ∧ w'.cell? ⟨gb298, 0, none⟩ = some (.int .i64 a1_0) ∧ w'.cell? ⟨gb298, 1, none⟩ = some (.int .i64 a1_1) ∧ w'.cell? ⟨gb298, 2, none⟩ = some (.int .i64 a1_2) ∧ w'.cell? ⟨gb299, 0, none⟩ = some (.int .i64 a2_0) ∧ w'.cell? ⟨gb299, 1, none⟩ = some (.int .i64 a2_1)) ∧ (w'.heap[gb297]? = some (.cells #[.int .i64 a0_0, .int .i64 a0_1, .int .i64 a0_2] 25 (0, 0))) ∧ (w'.heap[gb298]? = some (.cells #[.int .i64 a1_0, .int .i64 a1_1, .int .i64 a1_2] 25 (0, 0))) ∧ (w'.heap[gb299]? = some (.cells #[.int .i64 a2_0, .int .i64 a2_1] 23 (0, 0))) ∧ (w'.heap[s_]? = some (.cells #[.int .i64 0, .int .i64 0] 26 (0, 0))) ∧ (w.heap.size ≤ s_) ∧ (w.heap.size ≤ s_) ∧ (gb297 ≠ s_) ∧ (s_ ≠ gb297) ∧ (gb298 ≠ s_) ∧ (s_ ≠ gb298) ∧ (gb299 ≠ s_) ∧ (s_ ≠ gb299) ∧ (Below w.heap.size w w')) ?_ ?_
         rotate_left
         ·intro hJ1_10
          refine join_ (σ := Unit) 9 #[true, true, true, false, true, false, false, false, false, false, false, false, false] (fun s_ => [(13, .agg #[.int .i64 t300, .int .i64 t301, .int .i64 t302])]) (fun s_ w' => (w'.cell? ⟨gb297, 0, none⟩ = some (.int .i64 a0_0) ∧ w'.cell? ⟨gb297, 1, none⟩ = some (.int .i64 a0_1) ∧ w'.cell? ⟨gb297, 2, none⟩ = some (.int .i64 a0_2) ∧ w'.cell? ⟨gb298, 0, none⟩ = some (.int .i64 a1_0) ∧ w'.cell? ⟨gb298, 1, none⟩ = some (.int .i64 a1_1) ∧ w'.cell? ⟨gb298, 2, none⟩ = some (.int .i64 a1_2) ∧ w'.cell? ⟨gb299, 0, none⟩ = some (.int .i64 a2_0) ∧ w'.cell? ⟨gb299, 1, none⟩ = some (.int .i64 a2_1)) ∧ (w'.heap[gb297]? = some (.cells #[.int .i64 a0_0, .int .i64 a0_1, .int .i64 a0_2] 25 (0, 0))) ∧ (w'.heap[gb298]? = some (.cells #[.int .i64 a1_0, .int .i64 a1_1, .int .i64 a1_2] 25 (0, 0))) ∧ (w'.heap[gb299]? = some (.cells #[.int .i64 a2_0, .int .i64 a2_1] 23 (0, 0))) ∧ (Below w.heap.size w w')) ?_ ?_
          rotate_left
          ·intro hJ1
           refine join_ (σ := Nat) 9 #[true, false, true, false, true, false, false, false, false, false, true, false, false] (fun s_ => [(7, .pointer (some ⟨s_, 0, none⟩))]) (fun s_ w' => (w'.cell? ⟨gb297, 0, none⟩ = some (.int .i64 a0_0) ∧ w'.cell? ⟨gb297, 1, none⟩ = some (.int .i64 a0_1) ∧ w'.cell? ⟨gb297, 2, none⟩ = some (.int .i64 a0_2) ∧ w'.cell? ⟨gb298, 0, none⟩ = some (.int .i64 a1_0) ∧ w'.cell? ⟨gb298, 1, none⟩ = some (.int .i64 a1_1) ∧ w'.cell? ⟨gb298, 2, none⟩ = some (.int .i64 a1_2) ∧ w'.cell? ⟨gb299, 0, none⟩ = some (.int .i64 a2_0) ∧ w'.cell? ⟨gb299, 1, none⟩ = some (.int .i64 a2_1)) ∧ (w'.heap[gb297]? = some (.cells #[.int .i64 a0_0, .int .i64 a0_1, .int .i64 a0_2] 25 (0, 0))) ∧ (w'.heap[gb298]? = some (.cells #[.int .i64 a1_0, .int .i64 a1_1, .int .i64 a1_2] 25 (0, 0))) ∧ (w'.heap[gb299]? = some (.cells #[.int .i64 a2_0, .int .i64 a2_1] 23 (0, 0))) ∧ (w'.heap[s_]? = some (.cells #[.int .i64 0, .int .i64 0] 26 (0, 0))) ∧ (w.heap.size ≤ s_) ∧ (w.heap.size ≤ s_) ∧ (gb297 ≠ s_) ∧ (s_ ≠ gb297) ∧ (gb298 ≠ s_) ∧ (s_ ≠ gb298) ∧ (gb299 ≠ s_) ∧ (s_ ≠ gb299) ∧ (Below w.heap.size w w')) ?_ ?_
           rotate_left
           ·intro hJ10
            refine two_ (i := 1) (j := 10) (Ni := some 13) (Nj := some 7) #[true, true, true, false, true, false, false, false, false, false, false, false, false] #[true, false, true, false, true, false, false, false, false, false, true, false, false] rfl rfl rfl rfl (two_of HT_.out (by kernel_rfl)) (by decide) (by decide) (fun K hK => ?_) (fun K hK => ?_)
            ·skip
             refine goes_ Try.func11 (by kernel_rfl) rfl #[.agg #[.int .i64 a0_0, .int .i64 a0_1, .int .i64 a0_2]] (by rfl) rfl rfl (by (try simp only [List.map_toArray, List.map_cons, List.map_nil]); first | done | rfl | (simp only [List.length_drop, List.length_take]; rfl)) ?_
             with_reducible refine (laws_toHand.calls a0_0 a0_1 a0_2 t300 t301 t302 _ A4.out).mono ?_
             rintro e w19 ⟨rfl, hb⟩
             refine ⟨_, rfl, ?_⟩
             have n0_ := Am (kB (g := gb297) (o := .cells #[.int .i64 a0_0, .int .i64 a0_1, .int .i64 a0_2] 25 (0, 0)) (by (with_reducible repeat (first | refine kN ?_ _ | refine kD ?_ | refine kA ?_ _)); exact BK297.out) hb)
             have n1_ := Am (kB (g := gb298) (o := .cells #[.int .i64 a1_0, .int .i64 a1_1, .int .i64 a1_2] 25 (0, 0)) (by (with_reducible repeat (first | refine kN ?_ _ | refine kD ?_ | refine kA ?_ _)); exact BK298.out) hb)
             have n2_ := Am (kB (g := gb299) (o := .cells #[.int .i64 a2_0, .int .i64 a2_1] 23 (0, 0)) (by (with_reducible repeat (first | refine kN ?_ _ | refine kD ?_ | refine kA ?_ _)); exact BK299.out) hb)
             have n3_ := Am (bT (by repeat (first | (with_reducible first | exact HB.out | apply bA | apply bN | apply bD | refine bS ?_ GE297.out | refine bS ?_ GE298.out | refine bS ?_ GE299.out) | exact HB.out)) hb)
             clear BK297
             clear BK298
             clear BK299
             clear HB
             have BK297 := n0_
             have BK298 := n1_
             have BK299 := n2_
             have HB := n3_
             clear n0_ n1_ n2_ n3_
             (try clear hb)
             (try clear hb2)
             (try clear hk)
             (try clear hi)
             refine hK.out _ _ ⟨(kC BK297.out 0).trans rfl, (kC BK297.out 1).trans rfl, (kC BK297.out 2).trans rfl, (kC BK298.out 0).trans rfl, (kC BK298.out 1).trans rfl, (kC BK298.out 2).trans rfl, (kC BK299.out 0).trans rfl, (kC BK299.out 1).trans rfl⟩ (fun hHeld => ?_)
             clear hK K
             refine norm_ (a' := ?_) ?_ ?_
             rotate_left
             ·show Act.put _ (some 13) _ = _
              simp only [Act.put, List.setIfInBounds_toArray, List.set_cons_zero, List.set_cons_succ, i64_w, i32_w]
              rfl
             exact norm_ (by first | (simp only [putAll, Act.put, List.setIfInBounds_toArray, List.set_cons_zero, List.set_cons_succ]; done) | (simp only [putAll, Act.put, List.setIfInBounds_toArray, List.set_cons_zero, List.set_cons_succ]; rfl)) (hJ1 () _ ⟨hHeld, (by (with_reducible repeat (first | refine kN ?_ _ | refine kD ?_ | refine kA ?_ _)); exact BK297.out), (by (with_reducible repeat (first | refine kN ?_ _ | refine kD ?_ | refine kA ?_ _)); exact BK298.out), (by (with_reducible repeat (first | refine kN ?_ _ | refine kD ?_ | refine kA ?_ _)); exact BK299.out), (by repeat (first | (with_reducible first | exact HB.out | apply bA | apply bN | apply bD | refine bS ?_ GE297.out | refine bS ?_ GE298.out | refine bS ?_ GE299.out) | exact HB.out))⟩)
            ·skip
             refine box_step ?hg (N := 7) ?hd (cs := #[.int .i64 0, .int .i64 0]) (t := 26) ?hr ?_; (case hd => rfl); (case hg => rfl); (case hr => first | (go_simp; done) | (go_simp; rfl))
             intro gb311 hg w19 hbox hb
             have n0_ := Am (kB (g := gb297) (o := .cells #[.int .i64 a0_0, .int .i64 a0_1, .int .i64 a0_2] 25 (0, 0)) (by (with_reducible repeat (first | refine kN ?_ _ | refine kD ?_ | refine kA ?_ _)); exact BK297.out) hb)
             have n1_ := Am (kB (g := gb298) (o := .cells #[.int .i64 a1_0, .int .i64 a1_1, .int .i64 a1_2] 25 (0, 0)) (by (with_reducible repeat (first | refine kN ?_ _ | refine kD ?_ | refine kA ?_ _)); exact BK298.out) hb)
             have n2_ := Am (kB (g := gb299) (o := .cells #[.int .i64 a2_0, .int .i64 a2_1] 23 (0, 0)) (by (with_reducible repeat (first | refine kN ?_ _ | refine kD ?_ | refine kA ?_ _)); exact BK299.out) hb)
             have n3_ := Am (bT (by repeat (first | (with_reducible first | exact HB.out | apply bA | apply bN | apply bD | refine bS ?_ GE297.out | refine bS ?_ GE298.out | refine bS ?_ GE299.out) | exact HB.out)) hb)
             have n4_ := Am (hbox)
             have n5_ := Am ((by rw [hg]; exact (bZ (by repeat (first | (with_reducible first | exact HB.out | apply bA | apply bN | apply bD | refine bS ?_ GE297.out | refine bS ?_ GE298.out | refine bS ?_ GE299.out) | exact HB.out))) : w.heap.size ≤ gb311))
             have n6_ := Am ((by rw [hg]; exact (bZ (by repeat (first | (with_reducible first | exact HB.out | apply bA | apply bN | apply bD | refine bS ?_ GE297.out | refine bS ?_ GE298.out | refine bS ?_ GE299.out) | exact HB.out))) : w.heap.size ≤ gb311))
             have n7_ := Am ((by rw [hg]; exact Nat.ne_of_lt (kL (g := gb297) (o := .cells #[.int .i64 a0_0, .int .i64 a0_1, .int .i64 a0_2] 25 (0, 0)) (by (with_reducible repeat (first | refine kN ?_ _ | refine kD ?_ | refine kA ?_ _)); exact BK297.out)) : gb297 ≠ gb311))
             have n8_ := Am ((by rw [hg]; exact Nat.ne_of_gt (kL (g := gb297) (o := .cells #[.int .i64 a0_0, .int .i64 a0_1, .int .i64 a0_2] 25 (0, 0)) (by (with_reducible repeat (first | refine kN ?_ _ | refine kD ?_ | refine kA ?_ _)); exact BK297.out)) : gb311 ≠ gb297))
             have n9_ := Am ((by rw [hg]; exact Nat.ne_of_lt (kL (g := gb298) (o := .cells #[.int .i64 a1_0, .int .i64 a1_1, .int .i64 a1_2] 25 (0, 0)) (by (with_reducible repeat (first | refine kN ?_ _ | refine kD ?_ | refine kA ?_ _)); exact BK298.out)) : gb298 ≠ gb311))
             have n10_ := Am ((by rw [hg]; exact Nat.ne_of_gt (kL (g := gb298) (o := .cells #[.int .i64 a1_0, .int .i64 a1_1, .int .i64 a1_2] 25 (0, 0)) (by (with_reducible repeat (first | refine kN ?_ _ | refine kD ?_ | refine kA ?_ _)); exact BK298.out)) : gb311 ≠ gb298))
             have n11_ := Am ((by rw [hg]; exact Nat.ne_of_lt (kL (g := gb299) (o := .cells #[.int .i64 a2_0, .int .i64 a2_1] 23 (0, 0)) (by (with_reducible repeat (first | refine kN ?_ _ | refine kD ?_ | refine kA ?_ _)); exact BK299.out)) : gb299 ≠ gb311))
             have n12_ := Am ((by rw [hg]; exact Nat.ne_of_gt (kL (g := gb299) (o := .cells #[.int .i64 a2_0, .int .i64 a2_1] 23 (0, 0)) (by (with_reducible repeat (first | refine kN ?_ _ | refine kD ?_ | refine kA ?_ _)); exact BK299.out)) : gb311 ≠ gb299))
             clear BK297
             clear BK298
             clear BK299
             clear HB
             have BK297 := n0_
             have BK298 := n1_
             have BK299 := n2_
             have HB := n3_
             have BK311 := n4_
             have GW311 := n5_
             have GE311 := n6_
             have NB297_311 := n7_
             have NB311_297 := n8_
             have NB298_311 := n9_
             have NB311_298 := n10_
             have NB299_311 := n11_
             have NB311_299 := n12_
             clear n0_ n1_ n2_ n3_ n4_ n5_ n6_ n7_ n8_ n9_ n10_ n11_ n12_
             clear hb hbox hg
             refine hK.out _ _ ⟨(kC BK297.out 0).trans rfl, (kC BK297.out 1).trans rfl, (kC BK297.out 2).trans rfl, (kC BK298.out 0).trans rfl, (kC BK298.out 1).trans rfl, (kC BK298.out 2).trans rfl, (kC BK299.out 0).trans rfl, (kC BK299.out 1).trans rfl⟩ (fun hHeld => ?_)
             clear hK K
             refine norm_ (a' := ?_) ?_ ?_
             rotate_left
             ·show Act.put _ (some 7) _ = _
              simp only [Act.put, List.setIfInBounds_toArray, List.set_cons_zero, List.set_cons_succ, i64_w, i32_w]
              rfl
             exact norm_ (by first | (simp only [putAll, Act.put, List.setIfInBounds_toArray, List.set_cons_zero, List.set_cons_succ]; done) | (simp only [putAll, Act.put, List.setIfInBounds_toArray, List.set_cons_zero, List.set_cons_succ]; rfl)) (hJ10 (gb311) _ ⟨hHeld, (by (with_reducible repeat (first | refine kN ?_ _ | refine kD ?_ | refine kA ?_ _)); exact BK297.out), (by (with_reducible repeat (first | refine kN ?_ _ | refine kD ?_ | refine kA ?_ _)); exact BK298.out), (by (with_reducible repeat (first | refine kN ?_ _ | refine kD ?_ | refine kA ?_ _)); exact BK299.out), (by (with_reducible repeat (first | refine kN ?_ _ | refine kD ?_ | refine kA ?_ _)); exact BK311.out), GW311.out, GE311.out, NB297_311.out, NB311_297.out, NB298_311.out, NB311_298.out, NB299_311.out, NB311_299.out, (by repeat (first | (with_reducible first | exact HB.out | apply bA | apply bN | apply bD | refine bS ?_ GE297.out | refine bS ?_ GE298.out | refine bS ?_ GE299.out | refine bS ?_ GE311.out) | exact HB.out))⟩)
           ·skip
            rintro gb311 w20 ⟨hS_, h0_, h1_, h2_, h3_, h4_, h5_, h6_, h7_, h8_, h9_, h10_, h11_, h12_⟩
            have n0_ : Aside0 (w20.heap[gb297]? = some (.cells #[.int .i64 a0_0, .int .i64 a0_1, .int .i64 a0_2] 25 (0, 0))) := ⟨h0_⟩
            have n1_ : Aside0 (w20.heap[gb298]? = some (.cells #[.int .i64 a1_0, .int .i64 a1_1, .int .i64 a1_2] 25 (0, 0))) := ⟨h1_⟩
            have n2_ : Aside0 (w20.heap[gb299]? = some (.cells #[.int .i64 a2_0, .int .i64 a2_1] 23 (0, 0))) := ⟨h2_⟩
            have n3_ : Aside0 (w20.heap[gb311]? = some (.cells #[.int .i64 0, .int .i64 0] 26 (0, 0))) := ⟨h3_⟩
            have n4_ : Aside0 (w.heap.size ≤ gb311) := ⟨h4_⟩
            have n5_ : Aside0 (w.heap.size ≤ gb311) := ⟨h5_⟩
            have n6_ : Aside0 (gb297 ≠ gb311) := ⟨h6_⟩
            have n7_ : Aside0 (gb311 ≠ gb297) := ⟨h7_⟩
            have n8_ : Aside0 (gb298 ≠ gb311) := ⟨h8_⟩
            have n9_ : Aside0 (gb311 ≠ gb298) := ⟨h9_⟩
            have n10_ : Aside0 (gb299 ≠ gb311) := ⟨h10_⟩
            have n11_ : Aside0 (gb311 ≠ gb299) := ⟨h11_⟩
            have n12_ : Aside0 (Below w.heap.size w w20) := ⟨h12_⟩
            clear BK297
            clear BK298
            clear BK299
            clear HB
            clear h0_ h1_ h2_ h3_ h4_ h5_ h6_ h7_ h8_ h9_ h10_ h11_ h12_
            have BK297 := n0_
            have BK298 := n1_
            have BK299 := n2_
            have BK311 := n3_
            have GW311 := n4_
            have GE311 := n5_
            have NB297_311 := n6_
            have NB311_297 := n7_
            have NB298_311 := n8_
            have NB311_298 := n9_
            have NB299_311 := n10_
            have NB311_299 := n11_
            have HB := n12_
            clear n0_ n1_ n2_ n3_ n4_ n5_ n6_ n7_ n8_ n9_ n10_ n11_ n12_
            have hHeld : w20.cell? ⟨gb297, 0, none⟩ = some (.int .i64 a0_0) ∧ w20.cell? ⟨gb297, 1, none⟩ = some (.int .i64 a0_1) ∧ w20.cell? ⟨gb297, 2, none⟩ = some (.int .i64 a0_2) ∧ w20.cell? ⟨gb298, 0, none⟩ = some (.int .i64 a1_0) ∧ w20.cell? ⟨gb298, 1, none⟩ = some (.int .i64 a1_1) ∧ w20.cell? ⟨gb298, 2, none⟩ = some (.int .i64 a1_2) ∧ w20.cell? ⟨gb299, 0, none⟩ = some (.int .i64 a2_0) ∧ w20.cell? ⟨gb299, 1, none⟩ = some (.int .i64 a2_1) := hS_
            refine norm_ (a' := ?_) ?_ ?_
            rotate_left
            ·simp only [putAll, Act.put, List.setIfInBounds_toArray, List.set_cons_zero, List.set_cons_succ]
             rfl
            refine one_ (i := 1) (N := some 13) #[true, true, true, false, true, false, false, false, false, false, true, false, false] rfl rfl (one_of HT_.out (by kernel_rfl)) (by decide) (fun K hK => ?_)
            refine goes_ Try.func11 (by kernel_rfl) rfl #[.agg #[.int .i64 a0_0, .int .i64 a0_1, .int .i64 a0_2]] (by rfl) rfl rfl (by (try simp only [List.map_toArray, List.map_cons, List.map_nil]); first | done | rfl | (simp only [List.length_drop, List.length_take]; rfl)) ?_
            with_reducible refine (laws_toHand.calls a0_0 a0_1 a0_2 t300 t301 t302 _ A4.out).mono ?_
            rintro e w21 ⟨rfl, hb⟩
            refine ⟨_, rfl, ?_⟩
            have n0_ := Am (kB (g := gb297) (o := .cells #[.int .i64 a0_0, .int .i64 a0_1, .int .i64 a0_2] 25 (0, 0)) (by (with_reducible repeat (first | refine kN ?_ _ | refine kD ?_ | refine kA ?_ _)); exact BK297.out) hb)
            have n1_ := Am (kB (g := gb298) (o := .cells #[.int .i64 a1_0, .int .i64 a1_1, .int .i64 a1_2] 25 (0, 0)) (by (with_reducible repeat (first | refine kN ?_ _ | refine kD ?_ | refine kA ?_ _)); exact BK298.out) hb)
            have n2_ := Am (kB (g := gb299) (o := .cells #[.int .i64 a2_0, .int .i64 a2_1] 23 (0, 0)) (by (with_reducible repeat (first | refine kN ?_ _ | refine kD ?_ | refine kA ?_ _)); exact BK299.out) hb)
            have n3_ := Am (kB (g := gb311) (o := .cells #[.int .i64 0, .int .i64 0] 26 (0, 0)) (by (with_reducible repeat (first | refine kN ?_ _ | refine kD ?_ | refine kA ?_ _)); exact BK311.out) hb)
            have n4_ := Am (bT (by repeat (first | (with_reducible first | exact HB.out | apply bA | apply bN | apply bD | refine bS ?_ GE297.out | refine bS ?_ GE298.out | refine bS ?_ GE299.out | refine bS ?_ GE311.out) | exact HB.out)) hb)
            clear BK297
            clear BK298
            clear BK299
            clear BK311
            clear HB
            have BK297 := n0_
            have BK298 := n1_
            have BK299 := n2_
            have BK311 := n3_
            have HB := n4_
            clear n0_ n1_ n2_ n3_ n4_
            (try clear hb)
            (try clear hb2)
            (try clear hk)
            (try clear hi)
            refine hK.out _ _ ⟨(kC BK297.out 0).trans rfl, (kC BK297.out 1).trans rfl, (kC BK297.out 2).trans rfl, (kC BK298.out 0).trans rfl, (kC BK298.out 1).trans rfl, (kC BK298.out 2).trans rfl, (kC BK299.out 0).trans rfl, (kC BK299.out 1).trans rfl⟩ (fun hHeld => ?_)
            clear hK K
            refine norm_ (a' := ?_) ?_ ?_
            rotate_left
            ·show Act.put _ (some 13) _ = _
             simp only [Act.put, List.setIfInBounds_toArray, List.set_cons_zero, List.set_cons_succ, i64_w, i32_w]
             rfl
            exact norm_ (by first | (simp only [putAll, Act.put, List.setIfInBounds_toArray, List.set_cons_zero, List.set_cons_succ]; done) | (simp only [putAll, Act.put, List.setIfInBounds_toArray, List.set_cons_zero, List.set_cons_succ]; rfl)) (hJ1_10 (gb311) _ ⟨hHeld, (by (with_reducible repeat (first | refine kN ?_ _ | refine kD ?_ | refine kA ?_ _)); exact BK297.out), (by (with_reducible repeat (first | refine kN ?_ _ | refine kD ?_ | refine kA ?_ _)); exact BK298.out), (by (with_reducible repeat (first | refine kN ?_ _ | refine kD ?_ | refine kA ?_ _)); exact BK299.out), (by (with_reducible repeat (first | refine kN ?_ _ | refine kD ?_ | refine kA ?_ _)); exact BK311.out), GW311.out, GE311.out, NB297_311.out, NB311_297.out, NB298_311.out, NB311_298.out, NB299_311.out, NB311_299.out, (by repeat (first | (with_reducible first | exact HB.out | apply bA | apply bN | apply bD | refine bS ?_ GE297.out | refine bS ?_ GE298.out | refine bS ?_ GE299.out | refine bS ?_ GE311.out) | exact HB.out))⟩)
          ·skip
           rintro _ w20 ⟨hS_, h0_, h1_, h2_, h3_⟩
           have n0_ : Aside0 (w20.heap[gb297]? = some (.cells #[.int .i64 a0_0, .int .i64 a0_1, .int .i64 a0_2] 25 (0, 0))) := ⟨h0_⟩
           have n1_ : Aside0 (w20.heap[gb298]? = some (.cells #[.int .i64 a1_0, .int .i64 a1_1, .int .i64 a1_2] 25 (0, 0))) := ⟨h1_⟩
           have n2_ : Aside0 (w20.heap[gb299]? = some (.cells #[.int .i64 a2_0, .int .i64 a2_1] 23 (0, 0))) := ⟨h2_⟩
           have n3_ : Aside0 (Below w.heap.size w w20) := ⟨h3_⟩
           clear BK297
           clear BK298
           clear BK299
           clear HB
           clear h0_ h1_ h2_ h3_
           have BK297 := n0_
           have BK298 := n1_
           have BK299 := n2_
           have HB := n3_
           clear n0_ n1_ n2_ n3_
           have hHeld : w20.cell? ⟨gb297, 0, none⟩ = some (.int .i64 a0_0) ∧ w20.cell? ⟨gb297, 1, none⟩ = some (.int .i64 a0_1) ∧ w20.cell? ⟨gb297, 2, none⟩ = some (.int .i64 a0_2) ∧ w20.cell? ⟨gb298, 0, none⟩ = some (.int .i64 a1_0) ∧ w20.cell? ⟨gb298, 1, none⟩ = some (.int .i64 a1_1) ∧ w20.cell? ⟨gb298, 2, none⟩ = some (.int .i64 a1_2) ∧ w20.cell? ⟨gb299, 0, none⟩ = some (.int .i64 a2_0) ∧ w20.cell? ⟨gb299, 1, none⟩ = some (.int .i64 a2_1) := hS_
           refine norm_ (a' := ?_) ?_ ?_
           rotate_left
           ·simp only [putAll, Act.put, List.setIfInBounds_toArray, List.set_cons_zero, List.set_cons_succ]
            rfl
           refine two_ (i := 3) (j := 10) (Ni := some 15) (Nj := some 7) #[true, true, true, true, true, false, false, false, false, false, false, false, false] #[true, true, true, false, true, false, false, false, false, false, true, false, false] rfl rfl rfl rfl (two_of HT_.out (by kernel_rfl)) (by decide) (by decide) (fun K hK => ?_) (fun K hK => ?_)
           ·skip
            refine goes_ Try.func11 (by kernel_rfl) rfl #[.agg #[.int .i64 a1_0, .int .i64 a1_1, .int .i64 a1_2]] (by rfl) rfl rfl (by (try simp only [List.map_toArray, List.map_cons, List.map_nil]); first | done | rfl | (simp only [List.length_drop, List.length_take]; rfl)) ?_
            with_reducible refine (laws_toHand.calls a1_0 a1_1 a1_2 t303 t304 t305 _ A5.out).mono ?_
            rintro e w21 ⟨rfl, hb⟩
            refine ⟨_, rfl, ?_⟩
            have n0_ := Am (kB (g := gb297) (o := .cells #[.int .i64 a0_0, .int .i64 a0_1, .int .i64 a0_2] 25 (0, 0)) (by (with_reducible repeat (first | refine kN ?_ _ | refine kD ?_ | refine kA ?_ _)); exact BK297.out) hb)
            have n1_ := Am (kB (g := gb298) (o := .cells #[.int .i64 a1_0, .int .i64 a1_1, .int .i64 a1_2] 25 (0, 0)) (by (with_reducible repeat (first | refine kN ?_ _ | refine kD ?_ | refine kA ?_ _)); exact BK298.out) hb)
            have n2_ := Am (kB (g := gb299) (o := .cells #[.int .i64 a2_0, .int .i64 a2_1] 23 (0, 0)) (by (with_reducible repeat (first | refine kN ?_ _ | refine kD ?_ | refine kA ?_ _)); exact BK299.out) hb)
            have n3_ := Am (bT (by repeat (first | (with_reducible first | exact HB.out | apply bA | apply bN | apply bD | refine bS ?_ GE297.out | refine bS ?_ GE298.out | refine bS ?_ GE299.out) | exact HB.out)) hb)
            clear BK297
            clear BK298
            clear BK299
            clear HB
            have BK297 := n0_
            have BK298 := n1_
            have BK299 := n2_
            have HB := n3_
            clear n0_ n1_ n2_ n3_
            (try clear hb)
            (try clear hb2)
            (try clear hk)
            (try clear hi)
            refine hK.out _ _ ⟨(kC BK297.out 0).trans rfl, (kC BK297.out 1).trans rfl, (kC BK297.out 2).trans rfl, (kC BK298.out 0).trans rfl, (kC BK298.out 1).trans rfl, (kC BK298.out 2).trans rfl, (kC BK299.out 0).trans rfl, (kC BK299.out 1).trans rfl⟩ (fun hHeld => ?_)
            clear hK K
            refine norm_ (a' := ?_) ?_ ?_
            rotate_left
            ·show Act.put _ (some 15) _ = _
             simp only [Act.put, List.setIfInBounds_toArray, List.set_cons_zero, List.set_cons_succ, i64_w, i32_w]
             rfl
            exact norm_ (by first | (simp only [putAll, Act.put, List.setIfInBounds_toArray, List.set_cons_zero, List.set_cons_succ]; done) | (simp only [putAll, Act.put, List.setIfInBounds_toArray, List.set_cons_zero, List.set_cons_succ]; rfl)) (hJ1_3 () _ ⟨hHeld, (by (with_reducible repeat (first | refine kN ?_ _ | refine kD ?_ | refine kA ?_ _)); exact BK297.out), (by (with_reducible repeat (first | refine kN ?_ _ | refine kD ?_ | refine kA ?_ _)); exact BK298.out), (by (with_reducible repeat (first | refine kN ?_ _ | refine kD ?_ | refine kA ?_ _)); exact BK299.out), (by repeat (first | (with_reducible first | exact HB.out | apply bA | apply bN | apply bD | refine bS ?_ GE297.out | refine bS ?_ GE298.out | refine bS ?_ GE299.out) | exact HB.out))⟩)
           ·skip
            refine box_step ?hg (N := 7) ?hd (cs := #[.int .i64 0, .int .i64 0]) (t := 26) ?hr ?_; (case hd => rfl); (case hg => rfl); (case hr => first | (go_simp; done) | (go_simp; rfl))
            intro gb311 hg w21 hbox hb
            have n0_ := Am (kB (g := gb297) (o := .cells #[.int .i64 a0_0, .int .i64 a0_1, .int .i64 a0_2] 25 (0, 0)) (by (with_reducible repeat (first | refine kN ?_ _ | refine kD ?_ | refine kA ?_ _)); exact BK297.out) hb)
            have n1_ := Am (kB (g := gb298) (o := .cells #[.int .i64 a1_0, .int .i64 a1_1, .int .i64 a1_2] 25 (0, 0)) (by (with_reducible repeat (first | refine kN ?_ _ | refine kD ?_ | refine kA ?_ _)); exact BK298.out) hb)
            have n2_ := Am (kB (g := gb299) (o := .cells #[.int .i64 a2_0, .int .i64 a2_1] 23 (0, 0)) (by (with_reducible repeat (first | refine kN ?_ _ | refine kD ?_ | refine kA ?_ _)); exact BK299.out) hb)
            have n3_ := Am (bT (by repeat (first | (with_reducible first | exact HB.out | apply bA | apply bN | apply bD | refine bS ?_ GE297.out | refine bS ?_ GE298.out | refine bS ?_ GE299.out) | exact HB.out)) hb)
            have n4_ := Am (hbox)
            have n5_ := Am ((by rw [hg]; exact (bZ (by repeat (first | (with_reducible first | exact HB.out | apply bA | apply bN | apply bD | refine bS ?_ GE297.out | refine bS ?_ GE298.out | refine bS ?_ GE299.out) | exact HB.out))) : w.heap.size ≤ gb311))
            have n6_ := Am ((by rw [hg]; exact (bZ (by repeat (first | (with_reducible first | exact HB.out | apply bA | apply bN | apply bD | refine bS ?_ GE297.out | refine bS ?_ GE298.out | refine bS ?_ GE299.out) | exact HB.out))) : w.heap.size ≤ gb311))
            have n7_ := Am ((by rw [hg]; exact Nat.ne_of_lt (kL (g := gb297) (o := .cells #[.int .i64 a0_0, .int .i64 a0_1, .int .i64 a0_2] 25 (0, 0)) (by (with_reducible repeat (first | refine kN ?_ _ | refine kD ?_ | refine kA ?_ _)); exact BK297.out)) : gb297 ≠ gb311))
            have n8_ := Am ((by rw [hg]; exact Nat.ne_of_gt (kL (g := gb297) (o := .cells #[.int .i64 a0_0, .int .i64 a0_1, .int .i64 a0_2] 25 (0, 0)) (by (with_reducible repeat (first | refine kN ?_ _ | refine kD ?_ | refine kA ?_ _)); exact BK297.out)) : gb311 ≠ gb297))
            have n9_ := Am ((by rw [hg]; exact Nat.ne_of_lt (kL (g := gb298) (o := .cells #[.int .i64 a1_0, .int .i64 a1_1, .int .i64 a1_2] 25 (0, 0)) (by (with_reducible repeat (first | refine kN ?_ _ | refine kD ?_ | refine kA ?_ _)); exact BK298.out)) : gb298 ≠ gb311))
            have n10_ := Am ((by rw [hg]; exact Nat.ne_of_gt (kL (g := gb298) (o := .cells #[.int .i64 a1_0, .int .i64 a1_1, .int .i64 a1_2] 25 (0, 0)) (by (with_reducible repeat (first | refine kN ?_ _ | refine kD ?_ | refine kA ?_ _)); exact BK298.out)) : gb311 ≠ gb298))
            have n11_ := Am ((by rw [hg]; exact Nat.ne_of_lt (kL (g := gb299) (o := .cells #[.int .i64 a2_0, .int .i64 a2_1] 23 (0, 0)) (by (with_reducible repeat (first | refine kN ?_ _ | refine kD ?_ | refine kA ?_ _)); exact BK299.out)) : gb299 ≠ gb311))
            have n12_ := Am ((by rw [hg]; exact Nat.ne_of_gt (kL (g := gb299) (o := .cells #[.int .i64 a2_0, .int .i64 a2_1] 23 (0, 0)) (by (with_reducible repeat (first | refine kN ?_ _ | refine kD ?_ | refine kA ?_ _)); exact BK299.out)) : gb311 ≠ gb299))
            clear BK297
            clear BK298
            clear BK299
            clear HB
            have BK297 := n0_
            have BK298 := n1_
            have BK299 := n2_
            have HB := n3_
            have BK311 := n4_
            have GW311 := n5_
            have GE311 := n6_
            have NB297_311 := n7_
            have NB311_297 := n8_
            have NB298_311 := n9_
            have NB311_298 := n10_
            have NB299_311 := n11_
            have NB311_299 := n12_
            clear n0_ n1_ n2_ n3_ n4_ n5_ n6_ n7_ n8_ n9_ n10_ n11_ n12_
            clear hb hbox hg
            refine hK.out _ _ ⟨(kC BK297.out 0).trans rfl, (kC BK297.out 1).trans rfl, (kC BK297.out 2).trans rfl, (kC BK298.out 0).trans rfl, (kC BK298.out 1).trans rfl, (kC BK298.out 2).trans rfl, (kC BK299.out 0).trans rfl, (kC BK299.out 1).trans rfl⟩ (fun hHeld => ?_)
            clear hK K
            refine norm_ (a' := ?_) ?_ ?_
            rotate_left
            ·show Act.put _ (some 7) _ = _
             simp only [Act.put, List.setIfInBounds_toArray, List.set_cons_zero, List.set_cons_succ, i64_w, i32_w]
             rfl
            exact norm_ (by first | (simp only [putAll, Act.put, List.setIfInBounds_toArray, List.set_cons_zero, List.set_cons_succ]; done) | (simp only [putAll, Act.put, List.setIfInBounds_toArray, List.set_cons_zero, List.set_cons_succ]; rfl)) (hJ1_10 (gb311) _ ⟨hHeld, (by (with_reducible repeat (first | refine kN ?_ _ | refine kD ?_ | refine kA ?_ _)); exact BK297.out), (by (with_reducible repeat (first | refine kN ?_ _ | refine kD ?_ | refine kA ?_ _)); exact BK298.out), (by (with_reducible repeat (first | refine kN ?_ _ | refine kD ?_ | refine kA ?_ _)); exact BK299.out), (by (with_reducible repeat (first | refine kN ?_ _ | refine kD ?_ | refine kA ?_ _)); exact BK311.out), GW311.out, GE311.out, NB297_311.out, NB311_297.out, NB298_311.out, NB311_298.out, NB299_311.out, NB311_299.out, (by repeat (first | (with_reducible first | exact HB.out | apply bA | apply bN | apply bD | refine bS ?_ GE297.out | refine bS ?_ GE298.out | refine bS ?_ GE299.out | refine bS ?_ GE311.out) | exact HB.out))⟩)
         ·skip
          rintro gb311 w21 ⟨hS_, h0_, h1_, h2_, h3_, h4_, h5_, h6_, h7_, h8_, h9_, h10_, h11_, h12_⟩
          have n0_ : Aside0 (w21.heap[gb297]? = some (.cells #[.int .i64 a0_0, .int .i64 a0_1, .int .i64 a0_2] 25 (0, 0))) := ⟨h0_⟩
          have n1_ : Aside0 (w21.heap[gb298]? = some (.cells #[.int .i64 a1_0, .int .i64 a1_1, .int .i64 a1_2] 25 (0, 0))) := ⟨h1_⟩
          have n2_ : Aside0 (w21.heap[gb299]? = some (.cells #[.int .i64 a2_0, .int .i64 a2_1] 23 (0, 0))) := ⟨h2_⟩
          have n3_ : Aside0 (w21.heap[gb311]? = some (.cells #[.int .i64 0, .int .i64 0] 26 (0, 0))) := ⟨h3_⟩
          have n4_ : Aside0 (w.heap.size ≤ gb311) := ⟨h4_⟩
          have n5_ : Aside0 (w.heap.size ≤ gb311) := ⟨h5_⟩
          have n6_ : Aside0 (gb297 ≠ gb311) := ⟨h6_⟩
          have n7_ : Aside0 (gb311 ≠ gb297) := ⟨h7_⟩
          have n8_ : Aside0 (gb298 ≠ gb311) := ⟨h8_⟩
          have n9_ : Aside0 (gb311 ≠ gb298) := ⟨h9_⟩
          have n10_ : Aside0 (gb299 ≠ gb311) := ⟨h10_⟩
          have n11_ : Aside0 (gb311 ≠ gb299) := ⟨h11_⟩
          have n12_ : Aside0 (Below w.heap.size w w21) := ⟨h12_⟩
          clear BK297
          clear BK298
          clear BK299
          clear HB
          clear h0_ h1_ h2_ h3_ h4_ h5_ h6_ h7_ h8_ h9_ h10_ h11_ h12_
          have BK297 := n0_
          have BK298 := n1_
          have BK299 := n2_
          have BK311 := n3_
          have GW311 := n4_
          have GE311 := n5_
          have NB297_311 := n6_
          have NB311_297 := n7_
          have NB298_311 := n8_
          have NB311_298 := n9_
          have NB299_311 := n10_
          have NB311_299 := n11_
          have HB := n12_
          clear n0_ n1_ n2_ n3_ n4_ n5_ n6_ n7_ n8_ n9_ n10_ n11_ n12_
          have hHeld : w21.cell? ⟨gb297, 0, none⟩ = some (.int .i64 a0_0) ∧ w21.cell? ⟨gb297, 1, none⟩ = some (.int .i64 a0_1) ∧ w21.cell? ⟨gb297, 2, none⟩ = some (.int .i64 a0_2) ∧ w21.cell? ⟨gb298, 0, none⟩ = some (.int .i64 a1_0) ∧ w21.cell? ⟨gb298, 1, none⟩ = some (.int .i64 a1_1) ∧ w21.cell? ⟨gb298, 2, none⟩ = some (.int .i64 a1_2) ∧ w21.cell? ⟨gb299, 0, none⟩ = some (.int .i64 a2_0) ∧ w21.cell? ⟨gb299, 1, none⟩ = some (.int .i64 a2_1) := hS_
          refine norm_ (a' := ?_) ?_ ?_
          rotate_left
          ·simp only [putAll, Act.put, List.setIfInBounds_toArray, List.set_cons_zero, List.set_cons_succ]
           rfl
          refine one_ (i := 3) (N := some 15) #[true, true, true, true, true, false, false, false, false, false, true, false, false] rfl rfl (one_of HT_.out (by kernel_rfl)) (by decide) (fun K hK => ?_)
          refine goes_ Try.func11 (by kernel_rfl) rfl #[.agg #[.int .i64 a1_0, .int .i64 a1_1, .int .i64 a1_2]] (by rfl) rfl rfl (by (try simp only [List.map_toArray, List.map_cons, List.map_nil]); first | done | rfl | (simp only [List.length_drop, List.length_take]; rfl)) ?_
          with_reducible refine (laws_toHand.calls a1_0 a1_1 a1_2 t303 t304 t305 _ A5.out).mono ?_
          rintro e w22 ⟨rfl, hb⟩
          refine ⟨_, rfl, ?_⟩
          have n0_ := Am (kB (g := gb297) (o := .cells #[.int .i64 a0_0, .int .i64 a0_1, .int .i64 a0_2] 25 (0, 0)) (by (with_reducible repeat (first | refine kN ?_ _ | refine kD ?_ | refine kA ?_ _)); exact BK297.out) hb)
          have n1_ := Am (kB (g := gb298) (o := .cells #[.int .i64 a1_0, .int .i64 a1_1, .int .i64 a1_2] 25 (0, 0)) (by (with_reducible repeat (first | refine kN ?_ _ | refine kD ?_ | refine kA ?_ _)); exact BK298.out) hb)
          have n2_ := Am (kB (g := gb299) (o := .cells #[.int .i64 a2_0, .int .i64 a2_1] 23 (0, 0)) (by (with_reducible repeat (first | refine kN ?_ _ | refine kD ?_ | refine kA ?_ _)); exact BK299.out) hb)
          have n3_ := Am (kB (g := gb311) (o := .cells #[.int .i64 0, .int .i64 0] 26 (0, 0)) (by (with_reducible repeat (first | refine kN ?_ _ | refine kD ?_ | refine kA ?_ _)); exact BK311.out) hb)
          have n4_ := Am (bT (by repeat (first | (with_reducible first | exact HB.out | apply bA | apply bN | apply bD | refine bS ?_ GE297.out | refine bS ?_ GE298.out | refine bS ?_ GE299.out | refine bS ?_ GE311.out) | exact HB.out)) hb)
          clear BK297
          clear BK298
          clear BK299
          clear BK311
          clear HB
          have BK297 := n0_
          have BK298 := n1_
          have BK299 := n2_
          have BK311 := n3_
          have HB := n4_
          clear n0_ n1_ n2_ n3_ n4_
          (try clear hb)
          (try clear hb2)
          (try clear hk)
          (try clear hi)
          refine hK.out _ _ ⟨(kC BK297.out 0).trans rfl, (kC BK297.out 1).trans rfl, (kC BK297.out 2).trans rfl, (kC BK298.out 0).trans rfl, (kC BK298.out 1).trans rfl, (kC BK298.out 2).trans rfl, (kC BK299.out 0).trans rfl, (kC BK299.out 1).trans rfl⟩ (fun hHeld => ?_)
          clear hK K
          refine norm_ (a' := ?_) ?_ ?_
          rotate_left
          ·show Act.put _ (some 15) _ = _
           simp only [Act.put, List.setIfInBounds_toArray, List.set_cons_zero, List.set_cons_succ, i64_w, i32_w]
           rfl
          exact norm_ (by first | (simp only [putAll, Act.put, List.setIfInBounds_toArray, List.set_cons_zero, List.set_cons_succ]; done) | (simp only [putAll, Act.put, List.setIfInBounds_toArray, List.set_cons_zero, List.set_cons_succ]; rfl)) (hJ1_3_10 (gb311) _ ⟨hHeld, (by (with_reducible repeat (first | refine kN ?_ _ | refine kD ?_ | refine kA ?_ _)); exact BK297.out), (by (with_reducible repeat (first | refine kN ?_ _ | refine kD ?_ | refine kA ?_ _)); exact BK298.out), (by (with_reducible repeat (first | refine kN ?_ _ | refine kD ?_ | refine kA ?_ _)); exact BK299.out), (by (with_reducible repeat (first | refine kN ?_ _ | refine kD ?_ | refine kA ?_ _)); exact BK311.out), GW311.out, GE311.out, NB297_311.out, NB311_297.out, NB298_311.out, NB311_298.out, NB299_311.out, NB311_299.out, (by repeat (first | (with_reducible first | exact HB.out | apply bA | apply bN | apply bD | refine bS ?_ GE297.out | refine bS ?_ GE298.out | refine bS ?_ GE299.out | refine bS ?_ GE311.out) | exact HB.out))⟩)
        ·skip
         rintro _ w21 ⟨hS_, h0_, h1_, h2_, h3_⟩
         have n0_ : Aside0 (w21.heap[gb297]? = some (.cells #[.int .i64 a0_0, .int .i64 a0_1, .int .i64 a0_2] 25 (0, 0))) := ⟨h0_⟩
         have n1_ : Aside0 (w21.heap[gb298]? = some (.cells #[.int .i64 a1_0, .int .i64 a1_1, .int .i64 a1_2] 25 (0, 0))) := ⟨h1_⟩
         have n2_ : Aside0 (w21.heap[gb299]? = some (.cells #[.int .i64 a2_0, .int .i64 a2_1] 23 (0, 0))) := ⟨h2_⟩
         have n3_ : Aside0 (Below w.heap.size w w21) := ⟨h3_⟩
         clear BK297
         clear BK298
         clear BK299
         clear HB
         clear h0_ h1_ h2_ h3_
         have BK297 := n0_
         have BK298 := n1_
         have BK299 := n2_
         have HB := n3_
         clear n0_ n1_ n2_ n3_
         have hHeld : w21.cell? ⟨gb297, 0, none⟩ = some (.int .i64 a0_0) ∧ w21.cell? ⟨gb297, 1, none⟩ = some (.int .i64 a0_1) ∧ w21.cell? ⟨gb297, 2, none⟩ = some (.int .i64 a0_2) ∧ w21.cell? ⟨gb298, 0, none⟩ = some (.int .i64 a1_0) ∧ w21.cell? ⟨gb298, 1, none⟩ = some (.int .i64 a1_1) ∧ w21.cell? ⟨gb298, 2, none⟩ = some (.int .i64 a1_2) ∧ w21.cell? ⟨gb299, 0, none⟩ = some (.int .i64 a2_0) ∧ w21.cell? ⟨gb299, 1, none⟩ = some (.int .i64 a2_1) := hS_
         refine norm_ (a' := ?_) ?_ ?_
         rotate_left
         ·simp only [putAll, Act.put, List.setIfInBounds_toArray, List.set_cons_zero, List.set_cons_succ]
          rfl
         refine two_ (i := 5) (j := 10) (Ni := some 17) (Nj := some 7) #[true, true, true, true, true, true, false, false, false, false, false, false, false] #[true, true, true, true, true, false, false, false, false, false, true, false, false] rfl rfl rfl rfl (two_of HT_.out (by kernel_rfl)) (by decide) (by decide) (fun K hK => ?_) (fun K hK => ?_)
         ·skip
          refine goes_ Try.func12 (by kernel_rfl) rfl #[.agg #[.int .i64 a2_0, .int .i64 a2_1]] (by rfl) rfl rfl (by (try simp only [List.map_toArray, List.map_cons, List.map_nil]); first | done | rfl | (simp only [List.length_drop, List.length_take]; rfl)) ?_
          with_reducible refine (laws_toTurn.calls a2_0 a2_1 t306 t307 _ A6.out).mono ?_
          rintro e w22 ⟨rfl, hb⟩
          refine ⟨_, rfl, ?_⟩
          have n0_ := Am (kB (g := gb297) (o := .cells #[.int .i64 a0_0, .int .i64 a0_1, .int .i64 a0_2] 25 (0, 0)) (by (with_reducible repeat (first | refine kN ?_ _ | refine kD ?_ | refine kA ?_ _)); exact BK297.out) hb)
          have n1_ := Am (kB (g := gb298) (o := .cells #[.int .i64 a1_0, .int .i64 a1_1, .int .i64 a1_2] 25 (0, 0)) (by (with_reducible repeat (first | refine kN ?_ _ | refine kD ?_ | refine kA ?_ _)); exact BK298.out) hb)
          have n2_ := Am (kB (g := gb299) (o := .cells #[.int .i64 a2_0, .int .i64 a2_1] 23 (0, 0)) (by (with_reducible repeat (first | refine kN ?_ _ | refine kD ?_ | refine kA ?_ _)); exact BK299.out) hb)
          have n3_ := Am (bT (by repeat (first | (with_reducible first | exact HB.out | apply bA | apply bN | apply bD | refine bS ?_ GE297.out | refine bS ?_ GE298.out | refine bS ?_ GE299.out) | exact HB.out)) hb)
          clear BK297
          clear BK298
          clear BK299
          clear HB
          have BK297 := n0_
          have BK298 := n1_
          have BK299 := n2_
          have HB := n3_
          clear n0_ n1_ n2_ n3_
          (try clear hb)
          (try clear hb2)
          (try clear hk)
          (try clear hi)
          refine hK.out _ _ ⟨(kC BK297.out 0).trans rfl, (kC BK297.out 1).trans rfl, (kC BK297.out 2).trans rfl, (kC BK298.out 0).trans rfl, (kC BK298.out 1).trans rfl, (kC BK298.out 2).trans rfl, (kC BK299.out 0).trans rfl, (kC BK299.out 1).trans rfl⟩ (fun hHeld => ?_)
          clear hK K
          refine norm_ (a' := ?_) ?_ ?_
          rotate_left
          ·show Act.put _ (some 17) _ = _
           simp only [Act.put, List.setIfInBounds_toArray, List.set_cons_zero, List.set_cons_succ, i64_w, i32_w]
           rfl
          exact norm_ (by first | (simp only [putAll, Act.put, List.setIfInBounds_toArray, List.set_cons_zero, List.set_cons_succ]; done) | (simp only [putAll, Act.put, List.setIfInBounds_toArray, List.set_cons_zero, List.set_cons_succ]; rfl)) (hJ1_3_5 () _ ⟨hHeld, (by (with_reducible repeat (first | refine kN ?_ _ | refine kD ?_ | refine kA ?_ _)); exact BK297.out), (by (with_reducible repeat (first | refine kN ?_ _ | refine kD ?_ | refine kA ?_ _)); exact BK298.out), (by (with_reducible repeat (first | refine kN ?_ _ | refine kD ?_ | refine kA ?_ _)); exact BK299.out), (by repeat (first | (with_reducible first | exact HB.out | apply bA | apply bN | apply bD | refine bS ?_ GE297.out | refine bS ?_ GE298.out | refine bS ?_ GE299.out) | exact HB.out))⟩)
         ·skip
          refine box_step ?hg (N := 7) ?hd (cs := #[.int .i64 0, .int .i64 0]) (t := 26) ?hr ?_; (case hd => rfl); (case hg => rfl); (case hr => first | (go_simp; done) | (go_simp; rfl))
          intro gb311 hg w22 hbox hb
          have n0_ := Am (kB (g := gb297) (o := .cells #[.int .i64 a0_0, .int .i64 a0_1, .int .i64 a0_2] 25 (0, 0)) (by (with_reducible repeat (first | refine kN ?_ _ | refine kD ?_ | refine kA ?_ _)); exact BK297.out) hb)
          have n1_ := Am (kB (g := gb298) (o := .cells #[.int .i64 a1_0, .int .i64 a1_1, .int .i64 a1_2] 25 (0, 0)) (by (with_reducible repeat (first | refine kN ?_ _ | refine kD ?_ | refine kA ?_ _)); exact BK298.out) hb)
          have n2_ := Am (kB (g := gb299) (o := .cells #[.int .i64 a2_0, .int .i64 a2_1] 23 (0, 0)) (by (with_reducible repeat (first | refine kN ?_ _ | refine kD ?_ | refine kA ?_ _)); exact BK299.out) hb)
          have n3_ := Am (bT (by repeat (first | (with_reducible first | exact HB.out | apply bA | apply bN | apply bD | refine bS ?_ GE297.out | refine bS ?_ GE298.out | refine bS ?_ GE299.out) | exact HB.out)) hb)
          have n4_ := Am (hbox)
          have n5_ := Am ((by rw [hg]; exact (bZ (by repeat (first | (with_reducible first | exact HB.out | apply bA | apply bN | apply bD | refine bS ?_ GE297.out | refine bS ?_ GE298.out | refine bS ?_ GE299.out) | exact HB.out))) : w.heap.size ≤ gb311))
          have n6_ := Am ((by rw [hg]; exact (bZ (by repeat (first | (with_reducible first | exact HB.out | apply bA | apply bN | apply bD | refine bS ?_ GE297.out | refine bS ?_ GE298.out | refine bS ?_ GE299.out) | exact HB.out))) : w.heap.size ≤ gb311))
          have n7_ := Am ((by rw [hg]; exact Nat.ne_of_lt (kL (g := gb297) (o := .cells #[.int .i64 a0_0, .int .i64 a0_1, .int .i64 a0_2] 25 (0, 0)) (by (with_reducible repeat (first | refine kN ?_ _ | refine kD ?_ | refine kA ?_ _)); exact BK297.out)) : gb297 ≠ gb311))
          have n8_ := Am ((by rw [hg]; exact Nat.ne_of_gt (kL (g := gb297) (o := .cells #[.int .i64 a0_0, .int .i64 a0_1, .int .i64 a0_2] 25 (0, 0)) (by (with_reducible repeat (first | refine kN ?_ _ | refine kD ?_ | refine kA ?_ _)); exact BK297.out)) : gb311 ≠ gb297))
          have n9_ := Am ((by rw [hg]; exact Nat.ne_of_lt (kL (g := gb298) (o := .cells #[.int .i64 a1_0, .int .i64 a1_1, .int .i64 a1_2] 25 (0, 0)) (by (with_reducible repeat (first | refine kN ?_ _ | refine kD ?_ | refine kA ?_ _)); exact BK298.out)) : gb298 ≠ gb311))
          have n10_ := Am ((by rw [hg]; exact Nat.ne_of_gt (kL (g := gb298) (o := .cells #[.int .i64 a1_0, .int .i64 a1_1, .int .i64 a1_2] 25 (0, 0)) (by (with_reducible repeat (first | refine kN ?_ _ | refine kD ?_ | refine kA ?_ _)); exact BK298.out)) : gb311 ≠ gb298))
          have n11_ := Am ((by rw [hg]; exact Nat.ne_of_lt (kL (g := gb299) (o := .cells #[.int .i64 a2_0, .int .i64 a2_1] 23 (0, 0)) (by (with_reducible repeat (first | refine kN ?_ _ | refine kD ?_ | refine kA ?_ _)); exact BK299.out)) : gb299 ≠ gb311))
          have n12_ := Am ((by rw [hg]; exact Nat.ne_of_gt (kL (g := gb299) (o := .cells #[.int .i64 a2_0, .int .i64 a2_1] 23 (0, 0)) (by (with_reducible repeat (first | refine kN ?_ _ | refine kD ?_ | refine kA ?_ _)); exact BK299.out)) : gb311 ≠ gb299))
          clear BK297
          clear BK298
          clear BK299
          clear HB
          have BK297 := n0_
          have BK298 := n1_
          have BK299 := n2_
          have HB := n3_
          have BK311 := n4_
          have GW311 := n5_
          have GE311 := n6_
          have NB297_311 := n7_
          have NB311_297 := n8_
          have NB298_311 := n9_
          have NB311_298 := n10_
          have NB299_311 := n11_
          have NB311_299 := n12_
          clear n0_ n1_ n2_ n3_ n4_ n5_ n6_ n7_ n8_ n9_ n10_ n11_ n12_
          clear hb hbox hg
          refine hK.out _ _ ⟨(kC BK297.out 0).trans rfl, (kC BK297.out 1).trans rfl, (kC BK297.out 2).trans rfl, (kC BK298.out 0).trans rfl, (kC BK298.out 1).trans rfl, (kC BK298.out 2).trans rfl, (kC BK299.out 0).trans rfl, (kC BK299.out 1).trans rfl⟩ (fun hHeld => ?_)
          clear hK K
          refine norm_ (a' := ?_) ?_ ?_
          rotate_left
          ·show Act.put _ (some 7) _ = _
           simp only [Act.put, List.setIfInBounds_toArray, List.set_cons_zero, List.set_cons_succ, i64_w, i32_w]
           rfl
          exact norm_ (by first | (simp only [putAll, Act.put, List.setIfInBounds_toArray, List.set_cons_zero, List.set_cons_succ]; done) | (simp only [putAll, Act.put, List.setIfInBounds_toArray, List.set_cons_zero, List.set_cons_succ]; rfl)) (hJ1_3_10 (gb311) _ ⟨hHeld, (by (with_reducible repeat (first | refine kN ?_ _ | refine kD ?_ | refine kA ?_ _)); exact BK297.out), (by (with_reducible repeat (first | refine kN ?_ _ | refine kD ?_ | refine kA ?_ _)); exact BK298.out), (by (with_reducible repeat (first | refine kN ?_ _ | refine kD ?_ | refine kA ?_ _)); exact BK299.out), (by (with_reducible repeat (first | refine kN ?_ _ | refine kD ?_ | refine kA ?_ _)); exact BK311.out), GW311.out, GE311.out, NB297_311.out, NB311_297.out, NB298_311.out, NB311_298.out, NB299_311.out, NB311_299.out, (by repeat (first | (with_reducible first | exact HB.out | apply bA | apply bN | apply bD | refine bS ?_ GE297.out | refine bS ?_ GE298.out | refine bS ?_ GE299.out | refine bS ?_ GE311.out) | exact HB.out))⟩)
       ·skip
        rintro gb311 w22 ⟨hS_, h0_, h1_, h2_, h3_, h4_, h5_, h6_, h7_, h8_, h9_, h10_, h11_, h12_⟩
        have n0_ : Aside0 (w22.heap[gb297]? = some (.cells #[.int .i64 a0_0, .int .i64 a0_1, .int .i64 a0_2] 25 (0, 0))) := ⟨h0_⟩
        have n1_ : Aside0 (w22.heap[gb298]? = some (.cells #[.int .i64 a1_0, .int .i64 a1_1, .int .i64 a1_2] 25 (0, 0))) := ⟨h1_⟩
        have n2_ : Aside0 (w22.heap[gb299]? = some (.cells #[.int .i64 a2_0, .int .i64 a2_1] 23 (0, 0))) := ⟨h2_⟩
        have n3_ : Aside0 (w22.heap[gb311]? = some (.cells #[.int .i64 0, .int .i64 0] 26 (0, 0))) := ⟨h3_⟩
        have n4_ : Aside0 (w.heap.size ≤ gb311) := ⟨h4_⟩
        have n5_ : Aside0 (w.heap.size ≤ gb311) := ⟨h5_⟩
        have n6_ : Aside0 (gb297 ≠ gb311) := ⟨h6_⟩
        have n7_ : Aside0 (gb311 ≠ gb297) := ⟨h7_⟩
        have n8_ : Aside0 (gb298 ≠ gb311) := ⟨h8_⟩
        have n9_ : Aside0 (gb311 ≠ gb298) := ⟨h9_⟩
        have n10_ : Aside0 (gb299 ≠ gb311) := ⟨h10_⟩
        have n11_ : Aside0 (gb311 ≠ gb299) := ⟨h11_⟩
        have n12_ : Aside0 (Below w.heap.size w w22) := ⟨h12_⟩
        clear BK297
        clear BK298
        clear BK299
        clear HB
        clear h0_ h1_ h2_ h3_ h4_ h5_ h6_ h7_ h8_ h9_ h10_ h11_ h12_
        have BK297 := n0_
        have BK298 := n1_
        have BK299 := n2_
        have BK311 := n3_
        have GW311 := n4_
        have GE311 := n5_
        have NB297_311 := n6_
        have NB311_297 := n7_
        have NB298_311 := n8_
        have NB311_298 := n9_
        have NB299_311 := n10_
        have NB311_299 := n11_
        have HB := n12_
        clear n0_ n1_ n2_ n3_ n4_ n5_ n6_ n7_ n8_ n9_ n10_ n11_ n12_
        have hHeld : w22.cell? ⟨gb297, 0, none⟩ = some (.int .i64 a0_0) ∧ w22.cell? ⟨gb297, 1, none⟩ = some (.int .i64 a0_1) ∧ w22.cell? ⟨gb297, 2, none⟩ = some (.int .i64 a0_2) ∧ w22.cell? ⟨gb298, 0, none⟩ = some (.int .i64 a1_0) ∧ w22.cell? ⟨gb298, 1, none⟩ = some (.int .i64 a1_1) ∧ w22.cell? ⟨gb298, 2, none⟩ = some (.int .i64 a1_2) ∧ w22.cell? ⟨gb299, 0, none⟩ = some (.int .i64 a2_0) ∧ w22.cell? ⟨gb299, 1, none⟩ = some (.int .i64 a2_1) := hS_
        refine norm_ (a' := ?_) ?_ ?_
        rotate_left
        ·simp only [putAll, Act.put, List.setIfInBounds_toArray, List.set_cons_zero, List.set_cons_succ]
         rfl
        refine one_ (i := 5) (N := some 17) #[true, true, true, true, true, true, false, false, false, false, true, false, false] rfl rfl (one_of HT_.out (by kernel_rfl)) (by decide) (fun K hK => ?_)
        refine goes_ Try.func12 (by kernel_rfl) rfl #[.agg #[.int .i64 a2_0, .int .i64 a2_1]] (by rfl) rfl rfl (by (try simp only [List.map_toArray, List.map_cons, List.map_nil]); first | done | rfl | (simp only [List.length_drop, List.length_take]; rfl)) ?_
        with_reducible refine (laws_toTurn.calls a2_0 a2_1 t306 t307 _ A6.out).mono ?_
        rintro e w23 ⟨rfl, hb⟩
        refine ⟨_, rfl, ?_⟩
        have n0_ := Am (kB (g := gb297) (o := .cells #[.int .i64 a0_0, .int .i64 a0_1, .int .i64 a0_2] 25 (0, 0)) (by (with_reducible repeat (first | refine kN ?_ _ | refine kD ?_ | refine kA ?_ _)); exact BK297.out) hb)
        have n1_ := Am (kB (g := gb298) (o := .cells #[.int .i64 a1_0, .int .i64 a1_1, .int .i64 a1_2] 25 (0, 0)) (by (with_reducible repeat (first | refine kN ?_ _ | refine kD ?_ | refine kA ?_ _)); exact BK298.out) hb)
        have n2_ := Am (kB (g := gb299) (o := .cells #[.int .i64 a2_0, .int .i64 a2_1] 23 (0, 0)) (by (with_reducible repeat (first | refine kN ?_ _ | refine kD ?_ | refine kA ?_ _)); exact BK299.out) hb)
        have n3_ := Am (kB (g := gb311) (o := .cells #[.int .i64 0, .int .i64 0] 26 (0, 0)) (by (with_reducible repeat (first | refine kN ?_ _ | refine kD ?_ | refine kA ?_ _)); exact BK311.out) hb)
        have n4_ := Am (bT (by repeat (first | (with_reducible first | exact HB.out | apply bA | apply bN | apply bD | refine bS ?_ GE297.out | refine bS ?_ GE298.out | refine bS ?_ GE299.out | refine bS ?_ GE311.out) | exact HB.out)) hb)
        clear BK297
        clear BK298
        clear BK299
        clear BK311
        clear HB
        have BK297 := n0_
        have BK298 := n1_
        have BK299 := n2_
        have BK311 := n3_
        have HB := n4_
        clear n0_ n1_ n2_ n3_ n4_
        (try clear hb)
        (try clear hb2)
        (try clear hk)
        (try clear hi)
        refine hK.out _ _ ⟨(kC BK297.out 0).trans rfl, (kC BK297.out 1).trans rfl, (kC BK297.out 2).trans rfl, (kC BK298.out 0).trans rfl, (kC BK298.out 1).trans rfl, (kC BK298.out 2).trans rfl, (kC BK299.out 0).trans rfl, (kC BK299.out 1).trans rfl⟩ (fun hHeld => ?_)
        clear hK K
        refine norm_ (a' := ?_) ?_ ?_
        rotate_left
        ·show Act.put _ (some 17) _ = _
         simp only [Act.put, List.setIfInBounds_toArray, List.set_cons_zero, List.set_cons_succ, i64_w, i32_w]
         rfl
        exact norm_ (by first | (simp only [putAll, Act.put, List.setIfInBounds_toArray, List.set_cons_zero, List.set_cons_succ]; done) | (simp only [putAll, Act.put, List.setIfInBounds_toArray, List.set_cons_zero, List.set_cons_succ]; rfl)) (hJ1_3_5_10 (gb311) _ ⟨hHeld, (by (with_reducible repeat (first | refine kN ?_ _ | refine kD ?_ | refine kA ?_ _)); exact BK297.out), (by (with_reducible repeat (first | refine kN ?_ _ | refine kD ?_ | refine kA ?_ _)); exact BK298.out), (by (with_reducible repeat (first | refine kN ?_ _ | refine kD ?_ | refine kA ?_ _)); exact BK299.out), (by (with_reducible repeat (first | refine kN ?_ _ | refine kD ?_ | refine kA ?_ _)); exact BK311.out), GW311.out, GE311.out, NB297_311.out, NB311_297.out, NB298_311.out, NB311_298.out, NB299_311.out, NB311_299.out, (by repeat (first | (with_reducible first | exact HB.out | apply bA | apply bN | apply bD | refine bS ?_ GE297.out | refine bS ?_ GE298.out | refine bS ?_ GE299.out | refine bS ?_ GE311.out) | exact HB.out))⟩)
      ·skip
       rintro _ w22 ⟨hS_, h0_, h1_, h2_, h3_⟩
       have n0_ : Aside0 (w22.heap[gb297]? = some (.cells #[.int .i64 a0_0, .int .i64 a0_1, .int .i64 a0_2] 25 (0, 0))) := ⟨h0_⟩
       have n1_ : Aside0 (w22.heap[gb298]? = some (.cells #[.int .i64 a1_0, .int .i64 a1_1, .int .i64 a1_2] 25 (0, 0))) := ⟨h1_⟩
       have n2_ : Aside0 (w22.heap[gb299]? = some (.cells #[.int .i64 a2_0, .int .i64 a2_1] 23 (0, 0))) := ⟨h2_⟩
       have n3_ : Aside0 (Below w.heap.size w w22) := ⟨h3_⟩
       clear BK297
       clear BK298
       clear BK299
       clear HB
       clear h0_ h1_ h2_ h3_
       have BK297 := n0_
       have BK298 := n1_
       have BK299 := n2_
       have HB := n3_
       clear n0_ n1_ n2_ n3_
       have hHeld : w22.cell? ⟨gb297, 0, none⟩ = some (.int .i64 a0_0) ∧ w22.cell? ⟨gb297, 1, none⟩ = some (.int .i64 a0_1) ∧ w22.cell? ⟨gb297, 2, none⟩ = some (.int .i64 a0_2) ∧ w22.cell? ⟨gb298, 0, none⟩ = some (.int .i64 a1_0) ∧ w22.cell? ⟨gb298, 1, none⟩ = some (.int .i64 a1_1) ∧ w22.cell? ⟨gb298, 2, none⟩ = some (.int .i64 a1_2) ∧ w22.cell? ⟨gb299, 0, none⟩ = some (.int .i64 a2_0) ∧ w22.cell? ⟨gb299, 1, none⟩ = some (.int .i64 a2_1) := hS_
       refine norm_ (a' := ?_) ?_ ?_
       rotate_left
       ·simp only [putAll, Act.put, List.setIfInBounds_toArray, List.set_cons_zero, List.set_cons_succ]
        rfl
       refine two_ (i := 6) (j := 10) (Ni := some 18) (Nj := some 7) #[true, true, true, true, true, true, true, false, false, false, false, false, false] #[true, true, true, true, true, true, false, false, false, false, true, false, false] rfl rfl rfl rfl (two_of HT_.out (by kernel_rfl)) (by decide) (by decide) (fun K hK => ?_) (fun K hK => ?_)
       ·skip
        refine goes_ Try.func10 (by kernel_rfl) rfl #[.agg #[.int .i64 t300, .int .i64 t301, .int .i64 t302], .agg #[.int .i64 t303, .int .i64 t304, .int .i64 t305], .agg #[.int .i64 t306, .int .i64 t307]] (by rfl) rfl rfl (by (try simp only [List.map_toArray, List.map_cons, List.map_nil]); first | done | rfl | (simp only [List.length_drop, List.length_take]; rfl)) ?_
        with_reducible refine (spec_NextMeet.calls k t300 t301 t302 t303 t304 t305 t306 t307 t308 t309 t310 _ A7.out).mono ?_
        rintro e w23 ⟨rfl, hb⟩
        refine ⟨_, rfl, ?_⟩
        have n0_ := Am (kB (g := gb297) (o := .cells #[.int .i64 a0_0, .int .i64 a0_1, .int .i64 a0_2] 25 (0, 0)) (by (with_reducible repeat (first | refine kN ?_ _ | refine kD ?_ | refine kA ?_ _)); exact BK297.out) hb)
        have n1_ := Am (kB (g := gb298) (o := .cells #[.int .i64 a1_0, .int .i64 a1_1, .int .i64 a1_2] 25 (0, 0)) (by (with_reducible repeat (first | refine kN ?_ _ | refine kD ?_ | refine kA ?_ _)); exact BK298.out) hb)
        have n2_ := Am (kB (g := gb299) (o := .cells #[.int .i64 a2_0, .int .i64 a2_1] 23 (0, 0)) (by (with_reducible repeat (first | refine kN ?_ _ | refine kD ?_ | refine kA ?_ _)); exact BK299.out) hb)
        have n3_ := Am (bT (by repeat (first | (with_reducible first | exact HB.out | apply bA | apply bN | apply bD | refine bS ?_ GE297.out | refine bS ?_ GE298.out | refine bS ?_ GE299.out) | exact HB.out)) hb)
        clear BK297
        clear BK298
        clear BK299
        clear HB
        have BK297 := n0_
        have BK298 := n1_
        have BK299 := n2_
        have HB := n3_
        clear n0_ n1_ n2_ n3_
        (try clear hb)
        (try clear hb2)
        (try clear hk)
        (try clear hi)
        refine hK.out _ _ ⟨(kC BK297.out 0).trans rfl, (kC BK297.out 1).trans rfl, (kC BK297.out 2).trans rfl, (kC BK298.out 0).trans rfl, (kC BK298.out 1).trans rfl, (kC BK298.out 2).trans rfl, (kC BK299.out 0).trans rfl, (kC BK299.out 1).trans rfl⟩ (fun hHeld => ?_)
        clear hK K
        refine norm_ (a' := ?_) ?_ ?_
        rotate_left
        ·show Act.put _ (some 18) _ = _
         simp only [Act.put, List.setIfInBounds_toArray, List.set_cons_zero, List.set_cons_succ, i64_w, i32_w]
         rfl
        refine pure_ (i := 7) (N := some 11) (v := ?_) (a' := ?_) #[true, true, true, true, true, true, true, true, false, false, false, false, false] rfl rfl (any_of HT_.out (by kernel_rfl)) (fun _ _ _ h => h) (Or.inl ⟨by rfl, ?_⟩) ?_ ?_
        rotate_left
        ·intro w'
         go_simp
         with_reducible rfl
        rotate_left
        ·simp only [Act.put, List.setIfInBounds_toArray, List.set_cons_zero, List.set_cons_succ, i64_w, i32_w]
         rfl
        refine pure_ (i := 8) (N := some 19) (v := ?_) (a' := ?_) #[true, true, true, true, true, true, true, true, true, false, false, false, false] rfl rfl (any_of HT_.out (by kernel_rfl)) (fun _ _ _ h => h) (Or.inl ⟨by rfl, ?_⟩) ?_ ?_
        rotate_left
        ·intro w'
         go_simp
         with_reducible rfl
        rotate_left
        ·simp only [Act.put, List.setIfInBounds_toArray, List.set_cons_zero, List.set_cons_succ, i64_w, i32_w]
         rfl
        refine pure_ (i := 9) (N := some 20) (v := ?_) (a' := ?_) #[true, true, true, true, true, true, true, true, true, true, false, false, false] rfl rfl (any_of HT_.out (by kernel_rfl)) (fun _ _ _ h => h) (Or.inl ⟨by rfl, ?_⟩) ?_ ?_
        rotate_left
        ·intro w'
         go_simp
         with_reducible rfl
        rotate_left
        ·simp only [Act.put, List.setIfInBounds_toArray, List.set_cons_zero, List.set_cons_succ, i64_w, i32_w]
         rfl
        exact norm_ (by first | (simp only [putAll, Act.put, List.setIfInBounds_toArray, List.set_cons_zero, List.set_cons_succ]; done) | (simp only [putAll, Act.put, List.setIfInBounds_toArray, List.set_cons_zero, List.set_cons_succ]; rfl)) (hJ1_3_5_6 () _ ⟨hHeld, (by (with_reducible repeat (first | refine kN ?_ _ | refine kD ?_ | refine kA ?_ _)); exact BK297.out), (by (with_reducible repeat (first | refine kN ?_ _ | refine kD ?_ | refine kA ?_ _)); exact BK298.out), (by (with_reducible repeat (first | refine kN ?_ _ | refine kD ?_ | refine kA ?_ _)); exact BK299.out), (by repeat (first | (with_reducible first | exact HB.out | apply bA | apply bN | apply bD | refine bS ?_ GE297.out | refine bS ?_ GE298.out | refine bS ?_ GE299.out) | exact HB.out))⟩)
       ·skip
        refine box_step ?hg (N := 7) ?hd (cs := #[.int .i64 0, .int .i64 0]) (t := 26) ?hr ?_; (case hd => rfl); (case hg => rfl); (case hr => first | (go_simp; done) | (go_simp; rfl))
        intro gb311 hg w23 hbox hb
        have n0_ := Am (kB (g := gb297) (o := .cells #[.int .i64 a0_0, .int .i64 a0_1, .int .i64 a0_2] 25 (0, 0)) (by (with_reducible repeat (first | refine kN ?_ _ | refine kD ?_ | refine kA ?_ _)); exact BK297.out) hb)
        have n1_ := Am (kB (g := gb298) (o := .cells #[.int .i64 a1_0, .int .i64 a1_1, .int .i64 a1_2] 25 (0, 0)) (by (with_reducible repeat (first | refine kN ?_ _ | refine kD ?_ | refine kA ?_ _)); exact BK298.out) hb)
        have n2_ := Am (kB (g := gb299) (o := .cells #[.int .i64 a2_0, .int .i64 a2_1] 23 (0, 0)) (by (with_reducible repeat (first | refine kN ?_ _ | refine kD ?_ | refine kA ?_ _)); exact BK299.out) hb)
        have n3_ := Am (bT (by repeat (first | (with_reducible first | exact HB.out | apply bA | apply bN | apply bD | refine bS ?_ GE297.out | refine bS ?_ GE298.out | refine bS ?_ GE299.out) | exact HB.out)) hb)
        have n4_ := Am (hbox)
        have n5_ := Am ((by rw [hg]; exact (bZ (by repeat (first | (with_reducible first | exact HB.out | apply bA | apply bN | apply bD | refine bS ?_ GE297.out | refine bS ?_ GE298.out | refine bS ?_ GE299.out) | exact HB.out))) : w.heap.size ≤ gb311))
        have n6_ := Am ((by rw [hg]; exact (bZ (by repeat (first | (with_reducible first | exact HB.out | apply bA | apply bN | apply bD | refine bS ?_ GE297.out | refine bS ?_ GE298.out | refine bS ?_ GE299.out) | exact HB.out))) : w.heap.size ≤ gb311))
        have n7_ := Am ((by rw [hg]; exact Nat.ne_of_lt (kL (g := gb297) (o := .cells #[.int .i64 a0_0, .int .i64 a0_1, .int .i64 a0_2] 25 (0, 0)) (by (with_reducible repeat (first | refine kN ?_ _ | refine kD ?_ | refine kA ?_ _)); exact BK297.out)) : gb297 ≠ gb311))
        have n8_ := Am ((by rw [hg]; exact Nat.ne_of_gt (kL (g := gb297) (o := .cells #[.int .i64 a0_0, .int .i64 a0_1, .int .i64 a0_2] 25 (0, 0)) (by (with_reducible repeat (first | refine kN ?_ _ | refine kD ?_ | refine kA ?_ _)); exact BK297.out)) : gb311 ≠ gb297))
        have n9_ := Am ((by rw [hg]; exact Nat.ne_of_lt (kL (g := gb298) (o := .cells #[.int .i64 a1_0, .int .i64 a1_1, .int .i64 a1_2] 25 (0, 0)) (by (with_reducible repeat (first | refine kN ?_ _ | refine kD ?_ | refine kA ?_ _)); exact BK298.out)) : gb298 ≠ gb311))
        have n10_ := Am ((by rw [hg]; exact Nat.ne_of_gt (kL (g := gb298) (o := .cells #[.int .i64 a1_0, .int .i64 a1_1, .int .i64 a1_2] 25 (0, 0)) (by (with_reducible repeat (first | refine kN ?_ _ | refine kD ?_ | refine kA ?_ _)); exact BK298.out)) : gb311 ≠ gb298))
        have n11_ := Am ((by rw [hg]; exact Nat.ne_of_lt (kL (g := gb299) (o := .cells #[.int .i64 a2_0, .int .i64 a2_1] 23 (0, 0)) (by (with_reducible repeat (first | refine kN ?_ _ | refine kD ?_ | refine kA ?_ _)); exact BK299.out)) : gb299 ≠ gb311))
        have n12_ := Am ((by rw [hg]; exact Nat.ne_of_gt (kL (g := gb299) (o := .cells #[.int .i64 a2_0, .int .i64 a2_1] 23 (0, 0)) (by (with_reducible repeat (first | refine kN ?_ _ | refine kD ?_ | refine kA ?_ _)); exact BK299.out)) : gb311 ≠ gb299))
        clear BK297
        clear BK298
        clear BK299
        clear HB
        have BK297 := n0_
        have BK298 := n1_
        have BK299 := n2_
        have HB := n3_
        have BK311 := n4_
        have GW311 := n5_
        have GE311 := n6_
        have NB297_311 := n7_
        have NB311_297 := n8_
        have NB298_311 := n9_
        have NB311_298 := n10_
        have NB299_311 := n11_
        have NB311_299 := n12_
        clear n0_ n1_ n2_ n3_ n4_ n5_ n6_ n7_ n8_ n9_ n10_ n11_ n12_
        clear hb hbox hg
        refine hK.out _ _ ⟨(kC BK297.out 0).trans rfl, (kC BK297.out 1).trans rfl, (kC BK297.out 2).trans rfl, (kC BK298.out 0).trans rfl, (kC BK298.out 1).trans rfl, (kC BK298.out 2).trans rfl, (kC BK299.out 0).trans rfl, (kC BK299.out 1).trans rfl⟩ (fun hHeld => ?_)
        clear hK K
        refine norm_ (a' := ?_) ?_ ?_
        rotate_left
        ·show Act.put _ (some 7) _ = _
         simp only [Act.put, List.setIfInBounds_toArray, List.set_cons_zero, List.set_cons_succ, i64_w, i32_w]
         rfl
        exact norm_ (by first | (simp only [putAll, Act.put, List.setIfInBounds_toArray, List.set_cons_zero, List.set_cons_succ]; done) | (simp only [putAll, Act.put, List.setIfInBounds_toArray, List.set_cons_zero, List.set_cons_succ]; rfl)) (hJ1_3_5_10 (gb311) _ ⟨hHeld, (by (with_reducible repeat (first | refine kN ?_ _ | refine kD ?_ | refine kA ?_ _)); exact BK297.out), (by (with_reducible repeat (first | refine kN ?_ _ | refine kD ?_ | refine kA ?_ _)); exact BK298.out), (by (with_reducible repeat (first | refine kN ?_ _ | refine kD ?_ | refine kA ?_ _)); exact BK299.out), (by (with_reducible repeat (first | refine kN ?_ _ | refine kD ?_ | refine kA ?_ _)); exact BK311.out), GW311.out, GE311.out, NB297_311.out, NB311_297.out, NB298_311.out, NB311_298.out, NB299_311.out, NB311_299.out, (by repeat (first | (with_reducible first | exact HB.out | apply bA | apply bN | apply bD | refine bS ?_ GE297.out | refine bS ?_ GE298.out | refine bS ?_ GE299.out | refine bS ?_ GE311.out) | exact HB.out))⟩)
     ·skip
      rintro gb311 w23 ⟨hS_, h0_, h1_, h2_, h3_, h4_, h5_, h6_, h7_, h8_, h9_, h10_, h11_, h12_⟩
      have n0_ : Aside0 (w23.heap[gb297]? = some (.cells #[.int .i64 a0_0, .int .i64 a0_1, .int .i64 a0_2] 25 (0, 0))) := ⟨h0_⟩
      have n1_ : Aside0 (w23.heap[gb298]? = some (.cells #[.int .i64 a1_0, .int .i64 a1_1, .int .i64 a1_2] 25 (0, 0))) := ⟨h1_⟩
      have n2_ : Aside0 (w23.heap[gb299]? = some (.cells #[.int .i64 a2_0, .int .i64 a2_1] 23 (0, 0))) := ⟨h2_⟩
      have n3_ : Aside0 (w23.heap[gb311]? = some (.cells #[.int .i64 0, .int .i64 0] 26 (0, 0))) := ⟨h3_⟩
      have n4_ : Aside0 (w.heap.size ≤ gb311) := ⟨h4_⟩
      have n5_ : Aside0 (w.heap.size ≤ gb311) := ⟨h5_⟩
      have n6_ : Aside0 (gb297 ≠ gb311) := ⟨h6_⟩
      have n7_ : Aside0 (gb311 ≠ gb297) := ⟨h7_⟩
      have n8_ : Aside0 (gb298 ≠ gb311) := ⟨h8_⟩
      have n9_ : Aside0 (gb311 ≠ gb298) := ⟨h9_⟩
      have n10_ : Aside0 (gb299 ≠ gb311) := ⟨h10_⟩
      have n11_ : Aside0 (gb311 ≠ gb299) := ⟨h11_⟩
      have n12_ : Aside0 (Below w.heap.size w w23) := ⟨h12_⟩
      clear BK297
      clear BK298
      clear BK299
      clear HB
      clear h0_ h1_ h2_ h3_ h4_ h5_ h6_ h7_ h8_ h9_ h10_ h11_ h12_
      have BK297 := n0_
      have BK298 := n1_
      have BK299 := n2_
      have BK311 := n3_
      have GW311 := n4_
      have GE311 := n5_
      have NB297_311 := n6_
      have NB311_297 := n7_
      have NB298_311 := n8_
      have NB311_298 := n9_
      have NB299_311 := n10_
      have NB311_299 := n11_
      have HB := n12_
      clear n0_ n1_ n2_ n3_ n4_ n5_ n6_ n7_ n8_ n9_ n10_ n11_ n12_
      have hHeld : w23.cell? ⟨gb297, 0, none⟩ = some (.int .i64 a0_0) ∧ w23.cell? ⟨gb297, 1, none⟩ = some (.int .i64 a0_1) ∧ w23.cell? ⟨gb297, 2, none⟩ = some (.int .i64 a0_2) ∧ w23.cell? ⟨gb298, 0, none⟩ = some (.int .i64 a1_0) ∧ w23.cell? ⟨gb298, 1, none⟩ = some (.int .i64 a1_1) ∧ w23.cell? ⟨gb298, 2, none⟩ = some (.int .i64 a1_2) ∧ w23.cell? ⟨gb299, 0, none⟩ = some (.int .i64 a2_0) ∧ w23.cell? ⟨gb299, 1, none⟩ = some (.int .i64 a2_1) := hS_
      refine norm_ (a' := ?_) ?_ ?_
      rotate_left
      ·simp only [putAll, Act.put, List.setIfInBounds_toArray, List.set_cons_zero, List.set_cons_succ]
       rfl
      refine one_ (i := 6) (N := some 18) #[true, true, true, true, true, true, true, false, false, false, true, false, false] rfl rfl (one_of HT_.out (by kernel_rfl)) (by decide) (fun K hK => ?_)
      refine goes_ Try.func10 (by kernel_rfl) rfl #[.agg #[.int .i64 t300, .int .i64 t301, .int .i64 t302], .agg #[.int .i64 t303, .int .i64 t304, .int .i64 t305], .agg #[.int .i64 t306, .int .i64 t307]] (by rfl) rfl rfl (by (try simp only [List.map_toArray, List.map_cons, List.map_nil]); first | done | rfl | (simp only [List.length_drop, List.length_take]; rfl)) ?_
      with_reducible refine (spec_NextMeet.calls k t300 t301 t302 t303 t304 t305 t306 t307 t308 t309 t310 _ A7.out).mono ?_
      rintro e w24 ⟨rfl, hb⟩
      refine ⟨_, rfl, ?_⟩
      have n0_ := Am (kB (g := gb297) (o := .cells #[.int .i64 a0_0, .int .i64 a0_1, .int .i64 a0_2] 25 (0, 0)) (by (with_reducible repeat (first | refine kN ?_ _ | refine kD ?_ | refine kA ?_ _)); exact BK297.out) hb)
      have n1_ := Am (kB (g := gb298) (o := .cells #[.int .i64 a1_0, .int .i64 a1_1, .int .i64 a1_2] 25 (0, 0)) (by (with_reducible repeat (first | refine kN ?_ _ | refine kD ?_ | refine kA ?_ _)); exact BK298.out) hb)
      have n2_ := Am (kB (g := gb299) (o := .cells #[.int .i64 a2_0, .int .i64 a2_1] 23 (0, 0)) (by (with_reducible repeat (first | refine kN ?_ _ | refine kD ?_ | refine kA ?_ _)); exact BK299.out) hb)
      have n3_ := Am (kB (g := gb311) (o := .cells #[.int .i64 0, .int .i64 0] 26 (0, 0)) (by (with_reducible repeat (first | refine kN ?_ _ | refine kD ?_ | refine kA ?_ _)); exact BK311.out) hb)
      have n4_ := Am (bT (by repeat (first | (with_reducible first | exact HB.out | apply bA | apply bN | apply bD | refine bS ?_ GE297.out | refine bS ?_ GE298.out | refine bS ?_ GE299.out | refine bS ?_ GE311.out) | exact HB.out)) hb)
      clear BK297
      clear BK298
      clear BK299
      clear BK311
      clear HB
      have BK297 := n0_
      have BK298 := n1_
      have BK299 := n2_
      have BK311 := n3_
      have HB := n4_
      clear n0_ n1_ n2_ n3_ n4_
      (try clear hb)
      (try clear hb2)
      (try clear hk)
      (try clear hi)
      refine hK.out _ _ ⟨(kC BK297.out 0).trans rfl, (kC BK297.out 1).trans rfl, (kC BK297.out 2).trans rfl, (kC BK298.out 0).trans rfl, (kC BK298.out 1).trans rfl, (kC BK298.out 2).trans rfl, (kC BK299.out 0).trans rfl, (kC BK299.out 1).trans rfl⟩ (fun hHeld => ?_)
      clear hK K
      refine norm_ (a' := ?_) ?_ ?_
      rotate_left
      ·show Act.put _ (some 18) _ = _
       simp only [Act.put, List.setIfInBounds_toArray, List.set_cons_zero, List.set_cons_succ, i64_w, i32_w]
       rfl
      refine pure_ (i := 7) (N := some 11) (v := ?_) (a' := ?_) #[true, true, true, true, true, true, true, true, false, false, true, false, false] rfl rfl (any_of HT_.out (by kernel_rfl)) (fun _ _ _ h => h) (Or.inl ⟨by rfl, ?_⟩) ?_ ?_
      rotate_left
      ·intro w'
       go_simp
       with_reducible rfl
      rotate_left
      ·simp only [Act.put, List.setIfInBounds_toArray, List.set_cons_zero, List.set_cons_succ, i64_w, i32_w]
       rfl
      refine pure_ (i := 8) (N := some 19) (v := ?_) (a' := ?_) #[true, true, true, true, true, true, true, true, true, false, true, false, false] rfl rfl (any_of HT_.out (by kernel_rfl)) (fun _ _ _ h => h) (Or.inl ⟨by rfl, ?_⟩) ?_ ?_
      rotate_left
      ·intro w'
       go_simp
       with_reducible rfl
      rotate_left
      ·simp only [Act.put, List.setIfInBounds_toArray, List.set_cons_zero, List.set_cons_succ, i64_w, i32_w]
       rfl
      refine pure_ (i := 9) (N := some 20) (v := ?_) (a' := ?_) #[true, true, true, true, true, true, true, true, true, true, true, false, false] rfl rfl (any_of HT_.out (by kernel_rfl)) (fun _ _ _ h => h) (Or.inl ⟨by rfl, ?_⟩) ?_ ?_
      rotate_left
      ·intro w'
       go_simp
       with_reducible rfl
      rotate_left
      ·simp only [Act.put, List.setIfInBounds_toArray, List.set_cons_zero, List.set_cons_succ, i64_w, i32_w]
       rfl
      exact norm_ (by first | (simp only [putAll, Act.put, List.setIfInBounds_toArray, List.set_cons_zero, List.set_cons_succ]; done) | (simp only [putAll, Act.put, List.setIfInBounds_toArray, List.set_cons_zero, List.set_cons_succ]; rfl)) (hJ1_3_5_6_10 (gb311) _ ⟨hHeld, (by (with_reducible repeat (first | refine kN ?_ _ | refine kD ?_ | refine kA ?_ _)); exact BK297.out), (by (with_reducible repeat (first | refine kN ?_ _ | refine kD ?_ | refine kA ?_ _)); exact BK298.out), (by (with_reducible repeat (first | refine kN ?_ _ | refine kD ?_ | refine kA ?_ _)); exact BK299.out), (by (with_reducible repeat (first | refine kN ?_ _ | refine kD ?_ | refine kA ?_ _)); exact BK311.out), GW311.out, GE311.out, NB297_311.out, NB311_297.out, NB298_311.out, NB311_298.out, NB299_311.out, NB311_299.out, (by repeat (first | (with_reducible first | exact HB.out | apply bA | apply bN | apply bD | refine bS ?_ GE297.out | refine bS ?_ GE298.out | refine bS ?_ GE299.out | refine bS ?_ GE311.out) | exact HB.out))⟩)
    ·skip
     rintro _ w23 ⟨hS_, h0_, h1_, h2_, h3_⟩
     have n0_ : Aside0 (w23.heap[gb297]? = some (.cells #[.int .i64 a0_0, .int .i64 a0_1, .int .i64 a0_2] 25 (0, 0))) := ⟨h0_⟩
     have n1_ : Aside0 (w23.heap[gb298]? = some (.cells #[.int .i64 a1_0, .int .i64 a1_1, .int .i64 a1_2] 25 (0, 0))) := ⟨h1_⟩
     have n2_ : Aside0 (w23.heap[gb299]? = some (.cells #[.int .i64 a2_0, .int .i64 a2_1] 23 (0, 0))) := ⟨h2_⟩
     have n3_ : Aside0 (Below w.heap.size w w23) := ⟨h3_⟩
     clear BK297
     clear BK298
     clear BK299
     clear HB
     clear h0_ h1_ h2_ h3_
     have BK297 := n0_
     have BK298 := n1_
     have BK299 := n2_
     have HB := n3_
     clear n0_ n1_ n2_ n3_
     have hHeld : w23.cell? ⟨gb297, 0, none⟩ = some (.int .i64 a0_0) ∧ w23.cell? ⟨gb297, 1, none⟩ = some (.int .i64 a0_1) ∧ w23.cell? ⟨gb297, 2, none⟩ = some (.int .i64 a0_2) ∧ w23.cell? ⟨gb298, 0, none⟩ = some (.int .i64 a1_0) ∧ w23.cell? ⟨gb298, 1, none⟩ = some (.int .i64 a1_1) ∧ w23.cell? ⟨gb298, 2, none⟩ = some (.int .i64 a1_2) ∧ w23.cell? ⟨gb299, 0, none⟩ = some (.int .i64 a2_0) ∧ w23.cell? ⟨gb299, 1, none⟩ = some (.int .i64 a2_1) := hS_
     refine norm_ (a' := ?_) ?_ ?_
     rotate_left
     ·simp only [putAll, Act.put, List.setIfInBounds_toArray, List.set_cons_zero, List.set_cons_succ]
      rfl
     refine one_ (i := 10) (N := some 7) #[true, true, true, true, true, true, true, true, true, true, true, false, false] rfl rfl (one_of HT_.out (by kernel_rfl)) (by decide) (fun K hK => ?_)
     refine box_step ?hg (N := 7) ?hd (cs := #[.int .i64 0, .int .i64 0]) (t := 26) ?hr ?_; (case hd => rfl); (case hg => rfl); (case hr => first | (go_simp; done) | (go_simp; rfl))
     intro gb311 hg w24 hbox hb
     have n0_ := Am (kB (g := gb297) (o := .cells #[.int .i64 a0_0, .int .i64 a0_1, .int .i64 a0_2] 25 (0, 0)) (by (with_reducible repeat (first | refine kN ?_ _ | refine kD ?_ | refine kA ?_ _)); exact BK297.out) hb)
     have n1_ := Am (kB (g := gb298) (o := .cells #[.int .i64 a1_0, .int .i64 a1_1, .int .i64 a1_2] 25 (0, 0)) (by (with_reducible repeat (first | refine kN ?_ _ | refine kD ?_ | refine kA ?_ _)); exact BK298.out) hb)
     have n2_ := Am (kB (g := gb299) (o := .cells #[.int .i64 a2_0, .int .i64 a2_1] 23 (0, 0)) (by (with_reducible repeat (first | refine kN ?_ _ | refine kD ?_ | refine kA ?_ _)); exact BK299.out) hb)
     have n3_ := Am (bT (by repeat (first | (with_reducible first | exact HB.out | apply bA | apply bN | apply bD | refine bS ?_ GE297.out | refine bS ?_ GE298.out | refine bS ?_ GE299.out) | exact HB.out)) hb)
     have n4_ := Am (hbox)
     have n5_ := Am ((by rw [hg]; exact (bZ (by repeat (first | (with_reducible first | exact HB.out | apply bA | apply bN | apply bD | refine bS ?_ GE297.out | refine bS ?_ GE298.out | refine bS ?_ GE299.out) | exact HB.out))) : w.heap.size ≤ gb311))
     have n6_ := Am ((by rw [hg]; exact (bZ (by repeat (first | (with_reducible first | exact HB.out | apply bA | apply bN | apply bD | refine bS ?_ GE297.out | refine bS ?_ GE298.out | refine bS ?_ GE299.out) | exact HB.out))) : w.heap.size ≤ gb311))
     have n7_ := Am ((by rw [hg]; exact Nat.ne_of_lt (kL (g := gb297) (o := .cells #[.int .i64 a0_0, .int .i64 a0_1, .int .i64 a0_2] 25 (0, 0)) (by (with_reducible repeat (first | refine kN ?_ _ | refine kD ?_ | refine kA ?_ _)); exact BK297.out)) : gb297 ≠ gb311))
     have n8_ := Am ((by rw [hg]; exact Nat.ne_of_gt (kL (g := gb297) (o := .cells #[.int .i64 a0_0, .int .i64 a0_1, .int .i64 a0_2] 25 (0, 0)) (by (with_reducible repeat (first | refine kN ?_ _ | refine kD ?_ | refine kA ?_ _)); exact BK297.out)) : gb311 ≠ gb297))
     have n9_ := Am ((by rw [hg]; exact Nat.ne_of_lt (kL (g := gb298) (o := .cells #[.int .i64 a1_0, .int .i64 a1_1, .int .i64 a1_2] 25 (0, 0)) (by (with_reducible repeat (first | refine kN ?_ _ | refine kD ?_ | refine kA ?_ _)); exact BK298.out)) : gb298 ≠ gb311))
     have n10_ := Am ((by rw [hg]; exact Nat.ne_of_gt (kL (g := gb298) (o := .cells #[.int .i64 a1_0, .int .i64 a1_1, .int .i64 a1_2] 25 (0, 0)) (by (with_reducible repeat (first | refine kN ?_ _ | refine kD ?_ | refine kA ?_ _)); exact BK298.out)) : gb311 ≠ gb298))
     have n11_ := Am ((by rw [hg]; exact Nat.ne_of_lt (kL (g := gb299) (o := .cells #[.int .i64 a2_0, .int .i64 a2_1] 23 (0, 0)) (by (with_reducible repeat (first | refine kN ?_ _ | refine kD ?_ | refine kA ?_ _)); exact BK299.out)) : gb299 ≠ gb311))
     have n12_ := Am ((by rw [hg]; exact Nat.ne_of_gt (kL (g := gb299) (o := .cells #[.int .i64 a2_0, .int .i64 a2_1] 23 (0, 0)) (by (with_reducible repeat (first | refine kN ?_ _ | refine kD ?_ | refine kA ?_ _)); exact BK299.out)) : gb311 ≠ gb299))
     clear BK297
     clear BK298
     clear BK299
     clear HB
     have BK297 := n0_
     have BK298 := n1_
     have BK299 := n2_
     have HB := n3_
     have BK311 := n4_
     have GW311 := n5_
     have GE311 := n6_
     have NB297_311 := n7_
     have NB311_297 := n8_
     have NB298_311 := n9_
     have NB311_298 := n10_
     have NB299_311 := n11_
     have NB311_299 := n12_
     clear n0_ n1_ n2_ n3_ n4_ n5_ n6_ n7_ n8_ n9_ n10_ n11_ n12_
     clear hb hbox hg
     refine hK.out _ _ ⟨(kC BK297.out 0).trans rfl, (kC BK297.out 1).trans rfl, (kC BK297.out 2).trans rfl, (kC BK298.out 0).trans rfl, (kC BK298.out 1).trans rfl, (kC BK298.out 2).trans rfl, (kC BK299.out 0).trans rfl, (kC BK299.out 1).trans rfl⟩ (fun hHeld => ?_)
     clear hK K
     refine norm_ (a' := ?_) ?_ ?_
     rotate_left
     ·show Act.put _ (some 7) _ = _
      simp only [Act.put, List.setIfInBounds_toArray, List.set_cons_zero, List.set_cons_succ, i64_w, i32_w]
      rfl
     exact norm_ (by first | (simp only [putAll, Act.put, List.setIfInBounds_toArray, List.set_cons_zero, List.set_cons_succ]; done) | (simp only [putAll, Act.put, List.setIfInBounds_toArray, List.set_cons_zero, List.set_cons_succ]; rfl)) (hJ1_3_5_6_10 (gb311) _ ⟨hHeld, (by (with_reducible repeat (first | refine kN ?_ _ | refine kD ?_ | refine kA ?_ _)); exact BK297.out), (by (with_reducible repeat (first | refine kN ?_ _ | refine kD ?_ | refine kA ?_ _)); exact BK298.out), (by (with_reducible repeat (first | refine kN ?_ _ | refine kD ?_ | refine kA ?_ _)); exact BK299.out), (by (with_reducible repeat (first | refine kN ?_ _ | refine kD ?_ | refine kA ?_ _)); exact BK311.out), GW311.out, GE311.out, NB297_311.out, NB311_297.out, NB298_311.out, NB311_298.out, NB299_311.out, NB311_299.out, (by repeat (first | (with_reducible first | exact HB.out | apply bA | apply bN | apply bD | refine bS ?_ GE297.out | refine bS ?_ GE298.out | refine bS ?_ GE299.out | refine bS ?_ GE311.out) | exact HB.out))⟩)
   rintro gb311 w24 ⟨hS_, h0_, h1_, h2_, h3_, h4_, h5_, h6_, h7_, h8_, h9_, h10_, h11_, h12_⟩
   have n0_ : Aside0 (w24.heap[gb297]? = some (.cells #[.int .i64 a0_0, .int .i64 a0_1, .int .i64 a0_2] 25 (0, 0))) := ⟨h0_⟩
   have n1_ : Aside0 (w24.heap[gb298]? = some (.cells #[.int .i64 a1_0, .int .i64 a1_1, .int .i64 a1_2] 25 (0, 0))) := ⟨h1_⟩
   have n2_ : Aside0 (w24.heap[gb299]? = some (.cells #[.int .i64 a2_0, .int .i64 a2_1] 23 (0, 0))) := ⟨h2_⟩
   have n3_ : Aside0 (w24.heap[gb311]? = some (.cells #[.int .i64 0, .int .i64 0] 26 (0, 0))) := ⟨h3_⟩
   have n4_ : Aside0 (w.heap.size ≤ gb311) := ⟨h4_⟩
   have n5_ : Aside0 (w.heap.size ≤ gb311) := ⟨h5_⟩
   have n6_ : Aside0 (gb297 ≠ gb311) := ⟨h6_⟩
   have n7_ : Aside0 (gb311 ≠ gb297) := ⟨h7_⟩
   have n8_ : Aside0 (gb298 ≠ gb311) := ⟨h8_⟩
   have n9_ : Aside0 (gb311 ≠ gb298) := ⟨h9_⟩
   have n10_ : Aside0 (gb299 ≠ gb311) := ⟨h10_⟩
   have n11_ : Aside0 (gb311 ≠ gb299) := ⟨h11_⟩
   have n12_ : Aside0 (Below w.heap.size w w24) := ⟨h12_⟩
   clear BK297
   clear BK298
   clear BK299
   clear HB
   clear h0_ h1_ h2_ h3_ h4_ h5_ h6_ h7_ h8_ h9_ h10_ h11_ h12_
   have BK297 := n0_
   have BK298 := n1_
   have BK299 := n2_
   have BK311 := n3_
   have GW311 := n4_
   have GE311 := n5_
   have NB297_311 := n6_
   have NB311_297 := n7_
   have NB298_311 := n8_
   have NB311_298 := n9_
   have NB299_311 := n10_
   have NB311_299 := n11_
   have HB := n12_
   clear n0_ n1_ n2_ n3_ n4_ n5_ n6_ n7_ n8_ n9_ n10_ n11_ n12_
   have hHeld : w24.cell? ⟨gb297, 0, none⟩ = some (.int .i64 a0_0) ∧ w24.cell? ⟨gb297, 1, none⟩ = some (.int .i64 a0_1) ∧ w24.cell? ⟨gb297, 2, none⟩ = some (.int .i64 a0_2) ∧ w24.cell? ⟨gb298, 0, none⟩ = some (.int .i64 a1_0) ∧ w24.cell? ⟨gb298, 1, none⟩ = some (.int .i64 a1_1) ∧ w24.cell? ⟨gb298, 2, none⟩ = some (.int .i64 a1_2) ∧ w24.cell? ⟨gb299, 0, none⟩ = some (.int .i64 a2_0) ∧ w24.cell? ⟨gb299, 1, none⟩ = some (.int .i64 a2_1) := hS_
   refine norm_ (a' := ?_) ?_ ?_
   rotate_left
   ·simp only [putAll, Act.put, List.setIfInBounds_toArray, List.set_cons_zero, List.set_cons_succ]
    rfl
   refine one_ (i := 11) (N := none) #[true, true, true, true, true, true, true, true, true, true, true, true, false] rfl rfl (one_of HT_.out (by kernel_rfl)) (by decide) (fun K hK => ?_)
   have hs25 : w24.cell? ⟨gb311, 0, none⟩ = some (.int .i64 0) := (kC BK311.out 0).trans rfl
   have hfs25 := kF BK311.out 0
   have hns25_0 := NB297_311.out
   have hns25_1 := NB298_311.out
   have hns25_2 := NB299_311.out
   have hms25_0 := NB311_297.out
   have hms25_1 := NB311_298.out
   have hms25_2 := NB311_299.out
   have hs26 : w24.cell? ⟨gb311, 1, none⟩ = some (.int .i64 0) := (kC BK311.out 1).trans rfl
   have hfs26 := kF BK311.out 1
   have hns26_0 := NB297_311.out
   have hns26_1 := NB298_311.out
   have hns26_2 := NB299_311.out
   have hms26_0 := NB311_297.out
   have hms26_1 := NB311_298.out
   have hms26_2 := NB311_299.out
   refine skip_ (w1 := ?_) (by rfl) rfl ?_ ?_
   rotate_left
   ·go_simp
    rfl
   refine hK.out _ _ ⟨((cell_far (p := ⟨gb311, _, none⟩) NB297_311.out _).trans (((cell_far (p := ⟨gb311, _, none⟩) NB297_311.out _).trans (hHeld.1)))), ((cell_far (p := ⟨gb311, _, none⟩) NB297_311.out _).trans (((cell_far (p := ⟨gb311, _, none⟩) NB297_311.out _).trans (hHeld.2.1)))), ((cell_far (p := ⟨gb311, _, none⟩) NB297_311.out _).trans (((cell_far (p := ⟨gb311, _, none⟩) NB297_311.out _).trans (hHeld.2.2.1)))), ((cell_far (p := ⟨gb311, _, none⟩) NB298_311.out _).trans (((cell_far (p := ⟨gb311, _, none⟩) NB298_311.out _).trans (hHeld.2.2.2.1)))), ((cell_far (p := ⟨gb311, _, none⟩) NB298_311.out _).trans (((cell_far (p := ⟨gb311, _, none⟩) NB298_311.out _).trans (hHeld.2.2.2.2.1)))), ((cell_far (p := ⟨gb311, _, none⟩) NB298_311.out _).trans (((cell_far (p := ⟨gb311, _, none⟩) NB298_311.out _).trans (hHeld.2.2.2.2.2.1)))), ((cell_far (p := ⟨gb311, _, none⟩) NB299_311.out _).trans (((cell_far (p := ⟨gb311, _, none⟩) NB299_311.out _).trans (hHeld.2.2.2.2.2.2.1)))), ((cell_far (p := ⟨gb311, _, none⟩) NB299_311.out _).trans (((cell_far (p := ⟨gb311, _, none⟩) NB299_311.out _).trans (hHeld.2.2.2.2.2.2.2))))⟩ (fun hHeld => ?_)
   clear hK K
   refine pure_ (i := 12) (N := some 8) (v := ?_) (a' := ?_) #[true, true, true, true, true, true, true, true, true, true, true, true, true] rfl rfl (any_of HT_.out (by kernel_rfl)) (fun _ _ _ h => h) (Or.inl ⟨by rfl, ?_⟩) ?_ ?_
   rotate_left
   ·intro w'
    go_simp
    with_reducible rfl
   rotate_left
   ·simp only [Act.put, List.setIfInBounds_toArray, List.set_cons_zero, List.set_cons_succ, i64_w, i32_w]
    rfl
   refine done_ (done_of HT_.out (by kernel_rfl)) ?_
   try go_wp2
   have n0_ : Aside0 (((w24.setCell ⟨gb311, 0, none⟩ (.int .i64 t308)).setCell ⟨gb311, 1, none⟩ (.int .i64 t309)).heap[gb297]? = some (.cells #[.int .i64 a0_0, .int .i64 a0_1, .int .i64 a0_2] 25 (0, 0))) := ⟨by (with_reducible repeat (first | refine kN ?_ _ | refine kD ?_ | refine kA ?_ _)); refine kR ?_ NB297_311.out _; (with_reducible repeat (first | refine kN ?_ _ | refine kD ?_ | refine kA ?_ _)); refine kR ?_ NB297_311.out _; (with_reducible repeat (first | refine kN ?_ _ | refine kD ?_ | refine kA ?_ _)); exact BK297.out⟩
   have n1_ : Aside0 (((w24.setCell ⟨gb311, 0, none⟩ (.int .i64 t308)).setCell ⟨gb311, 1, none⟩ (.int .i64 t309)).heap[gb298]? = some (.cells #[.int .i64 a1_0, .int .i64 a1_1, .int .i64 a1_2] 25 (0, 0))) := ⟨by (with_reducible repeat (first | refine kN ?_ _ | refine kD ?_ | refine kA ?_ _)); refine kR ?_ NB298_311.out _; (with_reducible repeat (first | refine kN ?_ _ | refine kD ?_ | refine kA ?_ _)); refine kR ?_ NB298_311.out _; (with_reducible repeat (first | refine kN ?_ _ | refine kD ?_ | refine kA ?_ _)); exact BK298.out⟩
   have n2_ : Aside0 (((w24.setCell ⟨gb311, 0, none⟩ (.int .i64 t308)).setCell ⟨gb311, 1, none⟩ (.int .i64 t309)).heap[gb299]? = some (.cells #[.int .i64 a2_0, .int .i64 a2_1] 23 (0, 0))) := ⟨by (with_reducible repeat (first | refine kN ?_ _ | refine kD ?_ | refine kA ?_ _)); refine kR ?_ NB299_311.out _; (with_reducible repeat (first | refine kN ?_ _ | refine kD ?_ | refine kA ?_ _)); refine kR ?_ NB299_311.out _; (with_reducible repeat (first | refine kN ?_ _ | refine kD ?_ | refine kA ?_ _)); exact BK299.out⟩
   have n3_ : Aside0 (((w24.setCell ⟨gb311, 0, none⟩ (.int .i64 t308)).setCell ⟨gb311, 1, none⟩ (.int .i64 t309)).heap[gb311]? = some (.cells #[.int .i64 t308, .int .i64 t309] 26 (0, 0))) := ⟨by (with_reducible repeat (first | refine kN ?_ _ | refine kD ?_ | refine kA ?_ _)); refine kP (cs := #[.int .i64 t308, .int .i64 0]) ?_ 1 _ rfl; (with_reducible repeat (first | refine kN ?_ _ | refine kD ?_ | refine kA ?_ _)); refine kP (cs := #[.int .i64 0, .int .i64 0]) ?_ 0 _ rfl; (with_reducible repeat (first | refine kN ?_ _ | refine kD ?_ | refine kA ?_ _)); exact BK311.out⟩
   have n4_ : Aside0 (Below w.heap.size w ((w24.setCell ⟨gb311, 0, none⟩ (.int .i64 t308)).setCell ⟨gb311, 1, none⟩ (.int .i64 t309))) := ⟨by repeat (first | (with_reducible first | exact HB.out | apply bA | apply bN | apply bD | refine bS ?_ GE297.out | refine bS ?_ GE298.out | refine bS ?_ GE299.out | refine bS ?_ GE311.out) | exact HB.out)⟩
   (try clear BK297)
   (try clear BK298)
   (try clear BK299)
   (try clear BK311)
   (try clear HB)
   generalize ((w24.setCell ⟨gb311, 0, none⟩ (.int .i64 t308)).setCell ⟨gb311, 1, none⟩ (.int .i64 t309)) = w27 at n0_ n1_ n2_ n3_ n4_ ⊢
   have BK297 := n0_
   have BK298 := n1_
   have BK299 := n2_
   have BK311 := n3_
   have HB := n4_
   clear n0_ n1_ n2_ n3_ n4_
   have n0_ := Am (kD BK297.out)
   have n1_ := Am (kD BK298.out)
   have n2_ := Am (kD BK299.out)
   have n3_ := Am (kD BK311.out)
   have n4_ := Am (bD HB.out)
   clear BK297
   clear BK298
   clear BK299
   clear BK311
   clear HB
   have BK297 := n0_
   have BK298 := n1_
   have BK299 := n2_
   have BK311 := n3_
   have HB := n4_
   clear n0_ n1_ n2_ n3_ n4_
   refine start_ (n := 13) (S := fun w' => w'.cell? ⟨gb297, 0, none⟩ = some (.int .i64 a0_0) ∧ w'.cell? ⟨gb297, 1, none⟩ = some (.int .i64 a0_1) ∧ w'.cell? ⟨gb297, 2, none⟩ = some (.int .i64 a0_2) ∧ w'.cell? ⟨gb298, 0, none⟩ = some (.int .i64 a1_0) ∧ w'.cell? ⟨gb298, 1, none⟩ = some (.int .i64 a1_1) ∧ w'.cell? ⟨gb298, 2, none⟩ = some (.int .i64 a1_2) ∧ w'.cell? ⟨gb299, 0, none⟩ = some (.int .i64 a2_0) ∧ w'.cell? ⟨gb299, 1, none⟩ = some (.int .i64 a2_1)) (ds := []) #[false, false, false, false, false, false, false, false, false, false, false, false, false] (by kernel_rfl) rfl rfl ⟨(kC BK297.out 0).trans rfl, (kC BK297.out 1).trans rfl, (kC BK297.out 2).trans rfl, (kC BK298.out 0).trans rfl, (kC BK298.out 1).trans rfl, (kC BK298.out 2).trans rfl, (kC BK299.out 0).trans rfl, (kC BK299.out 1).trans rfl⟩ (fun hHeld => ?_); refine with_tabW laws_FnExactNextMeet.tab2 laws_FnExactNextMeet.bits2 (fun HT_ HW_ => ?_)
   generalize w27.drew = w28 at BK297 BK298 BK299 BK311 HB hHeld ⊢
   refine take_ (i := 0) (N := some 22) (v := ?_) (a' := ?_) #[true, false, false, false, false, false, false, false, false, false, false, false, false] rfl rfl (take_ofW HT_.out HW_.out (by kernel_rfl)) (fun _ _ _ h => h) (Or.inl ⟨by rfl, ?_⟩) hHeld ?_ ?_
   rotate_left
   ·rintro w' ⟨s0, s1, s2, s3, s4, s5, s6, s7⟩
    go_simp
    with_reducible rfl
   rotate_left
   ·simp only [Act.put, List.setIfInBounds_toArray, List.set_cons_zero, List.set_cons_succ, i64_w, i32_w]
    rfl
   refine take_ (i := 2) (N := some 24) (v := ?_) (a' := ?_) #[true, false, true, false, false, false, false, false, false, false, false, false, false] rfl rfl (take_ofW HT_.out HW_.out (by kernel_rfl)) (fun _ _ _ h => h) (Or.inl ⟨by rfl, ?_⟩) hHeld ?_ ?_
   rotate_left
   ·rintro w' ⟨s0, s1, s2, s3, s4, s5, s6, s7⟩
    go_simp
    with_reducible rfl
   rotate_left
   ·simp only [Act.put, List.setIfInBounds_toArray, List.set_cons_zero, List.set_cons_succ, i64_w, i32_w]
    rfl
   refine take_ (i := 4) (N := some 26) (v := ?_) (a' := ?_) #[true, false, true, false, true, false, false, false, false, false, false, false, false] rfl rfl (take_ofW HT_.out HW_.out (by kernel_rfl)) (fun _ _ _ h => h) (Or.inl ⟨by rfl, ?_⟩) hHeld ?_ ?_
   rotate_left
   ·rintro w' ⟨s0, s1, s2, s3, s4, s5, s6, s7⟩
    go_simp
    with_reducible rfl
   rotate_left
   ·simp only [Act.put, List.setIfInBounds_toArray, List.set_cons_zero, List.set_cons_succ, i64_w, i32_w]
    rfl
   refine join_ (σ := Nat) 2 #[true, true, true, true, true, true, true, true, true, true, true, false, false] (fun s_ => [(23, .agg #[.int .i64 t312, .int .i64 t313, .int .i64 t314]), (25, .agg #[.int .i64 t315, .int .i64 t316, .int .i64 t317]), (27, .agg #[.int .i64 t318, .int .i64 t319]), (28, .tuple #[.agg #[.int .i64 t320, .int .i64 t321], .bool t322]), (9, .pointer (some ⟨s_, 0, none⟩)), (21, .tuple #[.agg #[.int .i64 t320, .int .i64 t321], .bool t322]), (29, .agg #[.int .i64 t320, .int .i64 t321]), (30, .bool t322)]) (fun s_ w' => (w'.cell? ⟨gb297, 0, none⟩ = some (.int .i64 a0_0) ∧ w'.cell? ⟨gb297, 1, none⟩ = some (.int .i64 a0_1) ∧ w'.cell? ⟨gb297, 2, none⟩ = some (.int .i64 a0_2) ∧ w'.cell? ⟨gb298, 0, none⟩ = some (.int .i64 a1_0) ∧ w'.cell? ⟨gb298, 1, none⟩ = some (.int .i64 a1_1) ∧ w'.cell? ⟨gb298, 2, none⟩ = some (.int .i64 a1_2) ∧ w'.cell? ⟨gb299, 0, none⟩ = some (.int .i64 a2_0) ∧ w'.cell? ⟨gb299, 1, none⟩ = some (.int .i64 a2_1)) ∧ (w'.heap[gb297]? = some (.cells #[.int .i64 a0_0, .int .i64 a0_1, .int .i64 a0_2] 25 (0, 0))) ∧ (w'.heap[gb298]? = some (.cells #[.int .i64 a1_0, .int .i64 a1_1, .int .i64 a1_2] 25 (0, 0))) ∧ (w'.heap[gb299]? = some (.cells #[.int .i64 a2_0, .int .i64 a2_1] 23 (0, 0))) ∧ (w'.heap[gb311]? = some (.cells #[.int .i64 t308, .int .i64 t309] 26 (0, 0))) ∧ (w'.heap[s_]? = some (.cells #[.int .i64 0, .int .i64 0] 26 (0, 0))) ∧ (w.heap.size ≤ s_) ∧ (w.heap.size ≤ s_) ∧ (gb297 ≠ s_) ∧ (s_ ≠ gb297) ∧ (gb298 ≠ s_) ∧ (s_ ≠ gb298) ∧ (gb299 ≠ s_) ∧ (s_ ≠ gb299) ∧ (gb311 ≠ s_) ∧ (s_ ≠ gb311) ∧ (Below w.heap.size w w')) ?_ ?_
   rotate_left
   ·intro hJ1_3_5_6_10
    refine join_ (σ := Unit) 3 #[true, true, true, true, true, true, true, true, true, true, false, false, false] (fun s_ => [(23, .agg #[.int .i64 t312, .int .i64 t313, .int .i64 t314]), (25, .agg #[.int .i64 t315, .int .i64 t316, .int .i64 t317]), (27, .agg #[.int .i64 t318, .int .i64 t319]), (28, .tuple #[.agg #[.int .i64 t320, .int .i64 t321], .bool t322]), (21, .tuple #[.agg #[.int .i64 t320, .int .i64 t321], .bool t322]), (29, .agg #[.int .i64 t320, .int .i64 t321]), (30, .bool t322)]) (fun s_ w' => (w'.cell? ⟨gb297, 0, none⟩ = some (.int .i64 a0_0) ∧ w'.cell? ⟨gb297, 1, none⟩ = some (.int .i64 a0_1) ∧ w'.cell? ⟨gb297, 2, none⟩ = some (.int .i64 a0_2) ∧ w'.cell? ⟨gb298, 0, none⟩ = some (.int .i64 a1_0) ∧ w'.cell? ⟨gb298, 1, none⟩ = some (.int .i64 a1_1) ∧ w'.cell? ⟨gb298, 2, none⟩ = some (.int .i64 a1_2) ∧ w'.cell? ⟨gb299, 0, none⟩ = some (.int .i64 a2_0) ∧ w'.cell? ⟨gb299, 1, none⟩ = some (.int .i64 a2_1)) ∧ (w'.heap[gb297]? = some (.cells #[.int .i64 a0_0, .int .i64 a0_1, .int .i64 a0_2] 25 (0, 0))) ∧ (w'.heap[gb298]? = some (.cells #[.int .i64 a1_0, .int .i64 a1_1, .int .i64 a1_2] 25 (0, 0))) ∧ (w'.heap[gb299]? = some (.cells #[.int .i64 a2_0, .int .i64 a2_1] 23 (0, 0))) ∧ (w'.heap[gb311]? = some (.cells #[.int .i64 t308, .int .i64 t309] 26 (0, 0))) ∧ (Below w.heap.size w w')) ?_ ?_
    rotate_left
    ·intro hJ1_3_5_6
     refine join_ (σ := Nat) 6 #[true, true, true, true, true, true, false, false, false, false, true, false, false] (fun s_ => [(23, .agg #[.int .i64 t312, .int .i64 t313, .int .i64 t314]), (25, .agg #[.int .i64 t315, .int .i64 t316, .int .i64 t317]), (27, .agg #[.int .i64 t318, .int .i64 t319]), (9, .pointer (some ⟨s_, 0, none⟩))]) (fun s_ w' => (w'.cell? ⟨gb297, 0, none⟩ = some (.int .i64 a0_0) ∧ w'.cell? ⟨gb297, 1, none⟩ = some (.int .i64 a0_1) ∧ w'.cell? ⟨gb297, 2, none⟩ = some (.int .i64 a0_2) ∧ w'.cell? ⟨gb298, 0, none⟩ = some (.int .i64 a1_0) ∧ w'.cell? ⟨gb298, 1, none⟩ = some (.int .i64 a1_1) ∧ w'.cell? ⟨gb298, 2, none⟩ = some (.int .i64 a1_2) ∧ w'.cell? ⟨gb299, 0, none⟩ = some (.int .i64 a2_0) ∧ w'.cell? ⟨gb299, 1, none⟩ = some (.int .i64 a2_1)) ∧ (w'.heap[gb297]? = some (.cells #[.int .i64 a0_0, .int .i64 a0_1, .int .i64 a0_2] 25 (0, 0))) ∧ (w'.heap[gb298]? = some (.cells #[.int .i64 a1_0, .int .i64 a1_1, .int .i64 a1_2] 25 (0, 0))) ∧ (w'.heap[gb299]? = some (.cells #[.int .i64 a2_0, .int .i64 a2_1] 23 (0, 0))) ∧ (w'.heap[gb311]? = some (.cells #[.int .i64 t308, .int .i64 t309] 26 (0, 0))) ∧ (w'.heap[s_]? = some (.cells #[.int .i64 0, .int .i64 0] 26 (0, 0))) ∧ (w.heap.size ≤ s_) ∧ (w.heap.size ≤ s_) ∧ (gb297 ≠ s_) ∧ (s_ ≠ gb297) ∧ (gb298 ≠ s_) ∧ (s_ ≠ gb298) ∧ (gb299 ≠ s_) ∧ (s_ ≠ gb299) ∧ (gb311 ≠ s_) ∧ (s_ ≠ gb311) ∧ (Below w.heap.size w w')) ?_ ?_
     rotate_left
     ·intro hJ1_3_5_10
      refine join_ (σ := Unit) 7 #[true, true, true, true, true, true, false, false, false, false, false, false, false] (fun s_ => [(23, .agg #[.int .i64 t312, .int .i64 t313, .int .i64 t314]), (25, .agg #[.int .i64 t315, .int .i64 t316, .int .i64 t317]), (27, .agg #[.int .i64 t318, .int .i64 t319])]) (fun s_ w' => (w'.cell? ⟨gb297, 0, none⟩ = some (.int .i64 a0_0) ∧ w'.cell? ⟨gb297, 1, none⟩ = some (.int .i64 a0_1) ∧ w'.cell? ⟨gb297, 2, none⟩ = some (.int .i64 a0_2) ∧ w'.cell? ⟨gb298, 0, none⟩ = some (.int .i64 a1_0) ∧ w'.cell? ⟨gb298, 1, none⟩ = some (.int .i64 a1_1) ∧ w'.cell? ⟨gb298, 2, none⟩ = some (.int .i64 a1_2) ∧ w'.cell? ⟨gb299, 0, none⟩ = some (.int .i64 a2_0) ∧ w'.cell? ⟨gb299, 1, none⟩ = some (.int .i64 a2_1)) ∧ (w'.heap[gb297]? = some (.cells #[.int .i64 a0_0, .int .i64 a0_1, .int .i64 a0_2] 25 (0, 0))) ∧ (w'.heap[gb298]? = some (.cells #[.int .i64 a1_0, .int .i64 a1_1, .int .i64 a1_2] 25 (0, 0))) ∧ (w'.heap[gb299]? = some (.cells #[.int .i64 a2_0, .int .i64 a2_1] 23 (0, 0))) ∧ (w'.heap[gb311]? = some (.cells #[.int .i64 t308, .int .i64 t309] 26 (0, 0))) ∧ (Below w.heap.size w w')) ?_ ?_
      rotate_left
      ·intro hJ1_3_5
       refine join_ (σ := Nat) 7 #[true, true, true, true, true, false, false, false, false, false, true, false, false] (fun s_ => [(23, .agg #[.int .i64 t312, .int .i64 t313, .int .i64 t314]), (25, .agg #[.int .i64 t315, .int .i64 t316, .int .i64 t317]), (9, .pointer (some ⟨s_, 0, none⟩))]) (fun s_ w' => (w'.cell? ⟨gb297, 0, none⟩ = some (.int .i64 a0_0) ∧ w'.cell? ⟨gb297, 1, none⟩ = some (.int .i64 a0_1) ∧ w'.cell? ⟨gb297, 2, none⟩ = some (.int .i64 a0_2) ∧ w'.cell? ⟨gb298, 0, none⟩ = some (.int .i64 a1_0) ∧ w'.cell? ⟨gb298, 1, none⟩ = some (.int .i64 a1_1) ∧ w'.cell? ⟨gb298, 2, none⟩ = some (.int .i64 a1_2) ∧ w'.cell? ⟨gb299, 0, none⟩ = some (.int .i64 a2_0) ∧ w'.cell? ⟨gb299, 1, none⟩ = some (.int .i64 a2_1)) ∧ (w'.heap[gb297]? = some (.cells #[.int .i64 a0_0, .int .i64 a0_1, .int .i64 a0_2] 25 (0, 0))) ∧ (w'.heap[gb298]? = some (.cells #[.int .i64 a1_0, .int .i64 a1_1, .int .i64 a1_2] 25 (0, 0))) ∧ (w'.heap[gb299]? = some (.cells #[.int .i64 a2_0, .int .i64 a2_1] 23 (0, 0))) ∧ (w'.heap[gb311]? = some (.cells #[.int .i64 t308, .int .i64 t309] 26 (0, 0))) ∧ (w'.heap[s_]? = some (.cells #[.int .i64 0, .int .i64 0] 26 (0, 0))) ∧ (w.heap.size ≤ s_) ∧ (w.heap.size ≤ s_) ∧ (gb297 ≠ s_) ∧ (s_ ≠ gb297) ∧ (gb298 ≠ s_) ∧ (s_ ≠ gb298) ∧ (gb299 ≠ s_) ∧ (s_ ≠ gb299) ∧ (gb311 ≠ s_) ∧ (s_ ≠ gb311) ∧ (Below w.heap.size w w')) ?_ ?_
       rotate_left
       ·intro hJ1_3_10
        refine join_ (σ := Unit) 8 #[true, true, true, true, true, false, false, false, false, false, false, false, false] (fun s_ => [(23, .agg #[.int .i64 t312, .int .i64 t313, .int .i64 t314]), (25, .agg #[.int .i64 t315, .int .i64 t316, .int .i64 t317])]) (fun s_ w' => (w'.cell? ⟨gb297, 0, none⟩ = some (.int .i64 a0_0) ∧ w'.cell? ⟨gb297, 1, none⟩ = some (.int .i64 a0_1) ∧ w'.cell? ⟨gb297, 2, none⟩ = some (.int .i64 a0_2) ∧ w'.cell? ⟨gb298, 0, none⟩ = some (.int .i64 a1_0) ∧ w'.cell? ⟨gb298, 1, none⟩ = some (.int .i64 a1_1) ∧ w'.cell? ⟨gb298, 2, none⟩ = some (.int .i64 a1_2) ∧ w'.cell? ⟨gb299, 0, none⟩ = some (.int .i64 a2_0) ∧ w'.cell? ⟨gb299, 1, none⟩ = some (.int .i64 a2_1)) ∧ (w'.heap[gb297]? = some (.cells #[.int .i64 a0_0, .int .i64 a0_1, .int .i64 a0_2] 25 (0, 0))) ∧ (w'.heap[gb298]? = some (.cells #[.int .i64 a1_0, .int .i64 a1_1, .int .i64 a1_2] 25 (0, 0))) ∧ (w'.heap[gb299]? = some (.cells #[.int .i64 a2_0, .int .i64 a2_1] 23 (0, 0))) ∧ (w'.heap[gb311]? = some (.cells #[.int .i64 t308, .int .i64 t309] 26 (0, 0))) ∧ (Below w.heap.size w w')) ?_ ?_
        rotate_left
        ·intro hJ1_3
         refine join_ (σ := Nat) 8 #[true, true, true, false, true, false, false, false, false, false, true, false, false] (fun s_ => [(23, .agg #[.int .i64 t312, .int .i64 t313, .int .i64 t314]), (9, .pointer (some ⟨s_, 0, none⟩))]) (fun s_ w' => (w'.cell? ⟨gb297, 0, none⟩ = some (.int .i64 a0_0) ∧ w'.cell? ⟨gb297, 1, none⟩ = some (.int .i64 a0_1) ∧ w'.cell? ⟨gb297, 2, none⟩ = some (.int .i64 a0_2) ∧ w'.cell? ⟨gb298, 0, none⟩ = some (.int .i64 a1_0) ∧ w'.cell? ⟨gb298, 1, none⟩ = some (.int .i64 a1_1) ∧ w'.cell? ⟨gb298, 2, none⟩ = some (.int .i64 a1_2) ∧ w'.cell? ⟨gb299, 0, none⟩ = some (.int .i64 a2_0) ∧ w'.cell? ⟨gb299, 1, none⟩ = some (.int .i64 a2_1)) ∧ (w'.heap[gb297]? = some (.cells #[.int .i64 a0_0, .int .i64 a0_1, .int .i64 a0_2] 25 (0, 0))) ∧ (w'.heap[gb298]? = some (.cells #[.int .i64 a1_0, .int .i64 a1_1, .int .i64 a1_2] 25 (0, 0))) ∧ (w'.heap[gb299]? = some (.cells #[.int .i64 a2_0, .int .i64 a2_1] 23 (0, 0))) ∧ (w'.heap[gb311]? = some (.cells #[.int .i64 t308, .int .i64 t309] 26 (0, 0))) ∧ (w'.heap[s_]? = some (.cells #[.int .i64 0, .int .i64 0] 26 (0, 0))) ∧ (w.heap.size ≤ s_) ∧ (w.heap.size ≤ s_) ∧ (gb297 ≠ s_) ∧ (s_ ≠ gb297) ∧ (gb298 ≠ s_) ∧ (s_ ≠ gb298) ∧ (gb299 ≠ s_) ∧ (s_ ≠ gb299) ∧ (gb311 ≠ s_) ∧ (s_ ≠ gb311) ∧ (Below w.heap.size w w')) ?_ ?_
         rotate_left
         ·intro hJ1_10
          refine join_ (σ := Unit) 9 #[true, true, true, false, true, false, false, false, false, false, false, false, false] (fun s_ => [(23, .agg #[.int .i64 t312, .int .i64 t313, .int .i64 t314])]) (fun s_ w' => (w'.cell? ⟨gb297, 0, none⟩ = some (.int .i64 a0_0) ∧ w'.cell? ⟨gb297, 1, none⟩ = some (.int .i64 a0_1) ∧ w'.cell? ⟨gb297, 2, none⟩ = some (.int .i64 a0_2) ∧ w'.cell? ⟨gb298, 0, none⟩ = some (.int .i64 a1_0) ∧ w'.cell? ⟨gb298, 1, none⟩ = some (.int .i64 a1_1) ∧ w'.cell? ⟨gb298, 2, none⟩ = some (.int .i64 a1_2) ∧ w'.cell? ⟨gb299, 0, none⟩ = some (.int .i64 a2_0) ∧ w'.cell? ⟨gb299, 1, none⟩ = some (.int .i64 a2_1)) ∧ (w'.heap[gb297]? = some (.cells #[.int .i64 a0_0, .int .i64 a0_1, .int .i64 a0_2] 25 (0, 0))) ∧ (w'.heap[gb298]? = some (.cells #[.int .i64 a1_0, .int .i64 a1_1, .int .i64 a1_2] 25 (0, 0))) ∧ (w'.heap[gb299]? = some (.cells #[.int .i64 a2_0, .int .i64 a2_1] 23 (0, 0))) ∧ (w'.heap[gb311]? = some (.cells #[.int .i64 t308, .int .i64 t309] 26 (0, 0))) ∧ (Below w.heap.size w w')) ?_ ?_
          rotate_left
          ·intro hJ1
           refine join_ (σ := Nat) 9 #[true, false, true, false, true, false, false, false, false, false, true, false, false] (fun s_ => [(9, .pointer (some ⟨s_, 0, none⟩))]) (fun s_ w' => (w'.cell? ⟨gb297, 0, none⟩ = some (.int .i64 a0_0) ∧ w'.cell? ⟨gb297, 1, none⟩ = some (.int .i64 a0_1) ∧ w'.cell? ⟨gb297, 2, none⟩ = some (.int .i64 a0_2) ∧ w'.cell? ⟨gb298, 0, none⟩ = some (.int .i64 a1_0) ∧ w'.cell? ⟨gb298, 1, none⟩ = some (.int .i64 a1_1) ∧ w'.cell? ⟨gb298, 2, none⟩ = some (.int .i64 a1_2) ∧ w'.cell? ⟨gb299, 0, none⟩ = some (.int .i64 a2_0) ∧ w'.cell? ⟨gb299, 1, none⟩ = some (.int .i64 a2_1)) ∧ (w'.heap[gb297]? = some (.cells #[.int .i64 a0_0, .int .i64 a0_1, .int .i64 a0_2] 25 (0, 0))) ∧ (w'.heap[gb298]? = some (.cells #[.int .i64 a1_0, .int .i64 a1_1, .int .i64 a1_2] 25 (0, 0))) ∧ (w'.heap[gb299]? = some (.cells #[.int .i64 a2_0, .int .i64 a2_1] 23 (0, 0))) ∧ (w'.heap[gb311]? = some (.cells #[.int .i64 t308, .int .i64 t309] 26 (0, 0))) ∧ (w'.heap[s_]? = some (.cells #[.int .i64 0, .int .i64 0] 26 (0, 0))) ∧ (w.heap.size ≤ s_) ∧ (w.heap.size ≤ s_) ∧ (gb297 ≠ s_) ∧ (s_ ≠ gb297) ∧ (gb298 ≠ s_) ∧ (s_ ≠ gb298) ∧ (gb299 ≠ s_) ∧ (s_ ≠ gb299) ∧ (gb311 ≠ s_) ∧ (s_ ≠ gb311) ∧ (Below w.heap.size w w')) ?_ ?_
           rotate_left
           ·intro hJ10
            refine two_ (i := 1) (j := 10) (Ni := some 23) (Nj := some 9) #[true, true, true, false, true, false, false, false, false, false, false, false, false] #[true, false, true, false, true, false, false, false, false, false, true, false, false] rfl rfl rfl rfl (two_of HT_.out (by kernel_rfl)) (by decide) (by decide) (fun K hK => ?_) (fun K hK => ?_)
            ·skip
             refine goes_ Try.func11 (by kernel_rfl) rfl #[.agg #[.int .i64 a0_0, .int .i64 a0_1, .int .i64 a0_2]] (by rfl) rfl rfl (by (try simp only [List.map_toArray, List.map_cons, List.map_nil]); first | done | rfl | (simp only [List.length_drop, List.length_take]; rfl)) ?_
             with_reducible refine (laws_toHand.calls a0_0 a0_1 a0_2 t312 t313 t314 _ A8.out).mono ?_
             rintro e w29 ⟨rfl, hb⟩
             refine ⟨_, rfl, ?_⟩
             have n0_ := Am (kB (g := gb297) (o := .cells #[.int .i64 a0_0, .int .i64 a0_1, .int .i64 a0_2] 25 (0, 0)) (by (with_reducible repeat (first | refine kN ?_ _ | refine kD ?_ | refine kA ?_ _)); exact BK297.out) hb)
             have n1_ := Am (kB (g := gb298) (o := .cells #[.int .i64 a1_0, .int .i64 a1_1, .int .i64 a1_2] 25 (0, 0)) (by (with_reducible repeat (first | refine kN ?_ _ | refine kD ?_ | refine kA ?_ _)); exact BK298.out) hb)
             have n2_ := Am (kB (g := gb299) (o := .cells #[.int .i64 a2_0, .int .i64 a2_1] 23 (0, 0)) (by (with_reducible repeat (first | refine kN ?_ _ | refine kD ?_ | refine kA ?_ _)); exact BK299.out) hb)
             have n3_ := Am (kB (g := gb311) (o := .cells #[.int .i64 t308, .int .i64 t309] 26 (0, 0)) (by (with_reducible repeat (first | refine kN ?_ _ | refine kD ?_ | refine kA ?_ _)); exact BK311.out) hb)
             have n4_ := Am (bT (by repeat (first | (with_reducible first | exact HB.out | apply bA | apply bN | apply bD | refine bS ?_ GE297.out | refine bS ?_ GE298.out | refine bS ?_ GE299.out | refine bS ?_ GE311.out) | exact HB.out)) hb)
             clear BK297
             clear BK298
             clear BK299
             clear BK311
             clear HB
             have BK297 := n0_
             have BK298 := n1_
             have BK299 := n2_
             have BK311 := n3_
             have HB := n4_
             clear n0_ n1_ n2_ n3_ n4_
             (try clear hb)
             (try clear hb2)
             (try clear hk)
             (try clear hi)
             refine hK.out _ _ ⟨(kC BK297.out 0).trans rfl, (kC BK297.out 1).trans rfl, (kC BK297.out 2).trans rfl, (kC BK298.out 0).trans rfl, (kC BK298.out 1).trans rfl, (kC BK298.out 2).trans rfl, (kC BK299.out 0).trans rfl, (kC BK299.out 1).trans rfl⟩ (fun hHeld => ?_)
             clear hK K
             refine norm_ (a' := ?_) ?_ ?_
             rotate_left
             ·show Act.put _ (some 23) _ = _
              simp only [Act.put, List.setIfInBounds_toArray, List.set_cons_zero, List.set_cons_succ, i64_w, i32_w]
              rfl
             exact norm_ (by first | (simp only [putAll, Act.put, List.setIfInBounds_toArray, List.set_cons_zero, List.set_cons_succ]; done) | (simp only [putAll, Act.put, List.setIfInBounds_toArray, List.set_cons_zero, List.set_cons_succ]; rfl)) (hJ1 () _ ⟨hHeld, (by (with_reducible repeat (first | refine kN ?_ _ | refine kD ?_ | refine kA ?_ _)); exact BK297.out), (by (with_reducible repeat (first | refine kN ?_ _ | refine kD ?_ | refine kA ?_ _)); exact BK298.out), (by (with_reducible repeat (first | refine kN ?_ _ | refine kD ?_ | refine kA ?_ _)); exact BK299.out), (by (with_reducible repeat (first | refine kN ?_ _ | refine kD ?_ | refine kA ?_ _)); exact BK311.out), (by repeat (first | (with_reducible first | exact HB.out | apply bA | apply bN | apply bD | refine bS ?_ GE297.out | refine bS ?_ GE298.out | refine bS ?_ GE299.out | refine bS ?_ GE311.out) | exact HB.out))⟩)
            ·skip
             refine box_step ?hg (N := 9) ?hd (cs := #[.int .i64 0, .int .i64 0]) (t := 26) ?hr ?_; (case hd => rfl); (case hg => rfl); (case hr => first | (go_simp; done) | (go_simp; rfl))
             intro gb323 hg w29 hbox hb
             have n0_ := Am (kB (g := gb297) (o := .cells #[.int .i64 a0_0, .int .i64 a0_1, .int .i64 a0_2] 25 (0, 0)) (by (with_reducible repeat (first | refine kN ?_ _ | refine kD ?_ | refine kA ?_ _)); exact BK297.out) hb)
             have n1_ := Am (kB (g := gb298) (o := .cells #[.int .i64 a1_0, .int .i64 a1_1, .int .i64 a1_2] 25 (0, 0)) (by (with_reducible repeat (first | refine kN ?_ _ | refine kD ?_ | refine kA ?_ _)); exact BK298.out) hb)
             have n2_ := Am (kB (g := gb299) (o := .cells #[.int .i64 a2_0, .int .i64 a2_1] 23 (0, 0)) (by (with_reducible repeat (first | refine kN ?_ _ | refine kD ?_ | refine kA ?_ _)); exact BK299.out) hb)
             have n3_ := Am (kB (g := gb311) (o := .cells #[.int .i64 t308, .int .i64 t309] 26 (0, 0)) (by (with_reducible repeat (first | refine kN ?_ _ | refine kD ?_ | refine kA ?_ _)); exact BK311.out) hb)
             have n4_ := Am (bT (by repeat (first | (with_reducible first | exact HB.out | apply bA | apply bN | apply bD | refine bS ?_ GE297.out | refine bS ?_ GE298.out | refine bS ?_ GE299.out | refine bS ?_ GE311.out) | exact HB.out)) hb)
             have n5_ := Am (hbox)
             have n6_ := Am ((by rw [hg]; exact (bZ (by repeat (first | (with_reducible first | exact HB.out | apply bA | apply bN | apply bD | refine bS ?_ GE297.out | refine bS ?_ GE298.out | refine bS ?_ GE299.out | refine bS ?_ GE311.out) | exact HB.out))) : w.heap.size ≤ gb323))
             have n7_ := Am ((by rw [hg]; exact (bZ (by repeat (first | (with_reducible first | exact HB.out | apply bA | apply bN | apply bD | refine bS ?_ GE297.out | refine bS ?_ GE298.out | refine bS ?_ GE299.out | refine bS ?_ GE311.out) | exact HB.out))) : w.heap.size ≤ gb323))
             have n8_ := Am ((by rw [hg]; exact Nat.ne_of_lt (kL (g := gb297) (o := .cells #[.int .i64 a0_0, .int .i64 a0_1, .int .i64 a0_2] 25 (0, 0)) (by (with_reducible repeat (first | refine kN ?_ _ | refine kD ?_ | refine kA ?_ _)); exact BK297.out)) : gb297 ≠ gb323))
             have n9_ := Am ((by rw [hg]; exact Nat.ne_of_gt (kL (g := gb297) (o := .cells #[.int .i64 a0_0, .int .i64 a0_1, .int .i64 a0_2] 25 (0, 0)) (by (with_reducible repeat (first | refine kN ?_ _ | refine kD ?_ | refine kA ?_ _)); exact BK297.out)) : gb323 ≠ gb297))
             have n10_ := Am ((by rw [hg]; exact Nat.ne_of_lt (kL (g := gb298) (o := .cells #[.int .i64 a1_0, .int .i64 a1_1, .int .i64 a1_2] 25 (0, 0)) (by (with_reducible repeat (first | refine kN ?_ _ | refine kD ?_ | refine kA ?_ _)); exact BK298.out)) : gb298 ≠ gb323))
             have n11_ := Am ((by rw [hg]; exact Nat.ne_of_gt (kL (g := gb298) (o := .cells #[.int .i64 a1_0, .int .i64 a1_1, .int .i64 a1_2] 25 (0, 0)) (by (with_reducible repeat (first | refine kN ?_ _ | refine kD ?_ | refine kA ?_ _)); exact BK298.out)) : gb323 ≠ gb298))
             have n12_ := Am ((by rw [hg]; exact Nat.ne_of_lt (kL (g := gb299) (o := .cells #[.int .i64 a2_0, .int .i64 a2_1] 23 (0, 0)) (by (with_reducible repeat (first | refine kN ?_ _ | refine kD ?_ | refine kA ?_ _)); exact BK299.out)) : gb299 ≠ gb323))
             have n13_ := Am ((by rw [hg]; exact Nat.ne_of_gt (kL (g := gb299) (o := .cells #[.int .i64 a2_0, .int .i64 a2_1] 23 (0, 0)) (by (with_reducible repeat (first | refine kN ?_ _ | refine kD ?_ | refine kA ?_ _)); exact BK299.out)) : gb323 ≠ gb299))
             have n14_ := Am ((by rw [hg]; exact Nat.ne_of_lt (kL (g := gb311) (o := .cells #[.int .i64 t308, .int .i64 t309] 26 (0, 0)) (by (with_reducible repeat (first | refine kN ?_ _ | refine kD ?_ | refine kA ?_ _)); exact BK311.out)) : gb311 ≠ gb323))
             have n15_ := Am ((by rw [hg]; exact Nat.ne_of_gt (kL (g := gb311) (o := .cells #[.int .i64 t308, .int .i64 t309] 26 (0, 0)) (by (with_reducible repeat (first | refine kN ?_ _ | refine kD ?_ | refine kA ?_ _)); exact BK311.out)) : gb323 ≠ gb311))
             clear BK297
             clear BK298
             clear BK299
             clear BK311
             clear HB
             have BK297 := n0_
             have BK298 := n1_
             have BK299 := n2_
             have BK311 := n3_
             have HB := n4_
             have BK323 := n5_
             have GW323 := n6_
             have GE323 := n7_
             have NB297_323 := n8_
             have NB323_297 := n9_
             have NB298_323 := n10_
             have NB323_298 := n11_
             have NB299_323 := n12_
             have NB323_299 := n13_
             have NB311_323 := n14_
             have NB323_311 := n15_
             clear n0_ n1_ n2_ n3_ n4_ n5_ n6_ n7_ n8_ n9_ n10_ n11_ n12_ n13_ n14_ n15_
             clear hb hbox hg
             refine hK.out _ _ ⟨(kC BK297.out 0).trans rfl, (kC BK297.out 1).trans rfl, (kC BK297.out 2).trans rfl, (kC BK298.out 0).trans rfl, (kC BK298.out 1).trans rfl, (kC BK298.out 2).trans rfl, (kC BK299.out 0).trans rfl, (kC BK299.out 1).trans rfl⟩ (fun hHeld => ?_)
             clear hK K
             refine norm_ (a' := ?_) ?_ ?_
             rotate_left
             ·show Act.put _ (some 9) _ = _
              simp only [Act.put, List.setIfInBounds_toArray, List.set_cons_zero, List.set_cons_succ, i64_w, i32_w]
              rfl
             exact norm_ (by first | (simp only [putAll, Act.put, List.setIfInBounds_toArray, List.set_cons_zero, List.set_cons_succ]; done) | (simp only [putAll, Act.put, List.setIfInBounds_toArray, List.set_cons_zero, List.set_cons_succ]; rfl)) (hJ10 (gb323) _ ⟨hHeld, (by (with_reducible repeat (first | refine kN ?_ _ | refine kD ?_ | refine kA ?_ _)); exact BK297.out), (by (with_reducible repeat (first | refine kN ?_ _ | refine kD ?_ | refine kA ?_ _)); exact BK298.out), (by (with_reducible repeat (first | refine kN ?_ _ | refine kD ?_ | refine kA ?_ _)); exact BK299.out), (by (with_reducible repeat (first | refine kN ?_ _ | refine kD ?_ | refine kA ?_ _)); exact BK311.out), (by (with_reducible repeat (first | refine kN ?_ _ | refine kD ?_ | refine kA ?_ _)); exact BK323.out), GW323.out, GE323.out, NB297_323.out, NB323_297.out, NB298_323.out, NB323_298.out, NB299_323.out, NB323_299.out, NB311_323.out, NB323_311.out, (by repeat (first | (with_reducible first | exact HB.out | apply bA | apply bN | apply bD | refine bS ?_ GE297.out | refine bS ?_ GE298.out | refine bS ?_ GE299.out | refine bS ?_ GE311.out | refine bS ?_ GE323.out) | exact HB.out))⟩)
           ·skip
            rintro gb323 w30 ⟨hS_, h0_, h1_, h2_, h3_, h4_, h5_, h6_, h7_, h8_, h9_, h10_, h11_, h12_, h13_, h14_, h15_⟩
            have n0_ : Aside0 (w30.heap[gb297]? = some (.cells #[.int .i64 a0_0, .int .i64 a0_1, .int .i64 a0_2] 25 (0, 0))) := ⟨h0_⟩
            have n1_ : Aside0 (w30.heap[gb298]? = some (.cells #[.int .i64 a1_0, .int .i64 a1_1, .int .i64 a1_2] 25 (0, 0))) := ⟨h1_⟩
            have n2_ : Aside0 (w30.heap[gb299]? = some (.cells #[.int .i64 a2_0, .int .i64 a2_1] 23 (0, 0))) := ⟨h2_⟩
            have n3_ : Aside0 (w30.heap[gb311]? = some (.cells #[.int .i64 t308, .int .i64 t309] 26 (0, 0))) := ⟨h3_⟩
            have n4_ : Aside0 (w30.heap[gb323]? = some (.cells #[.int .i64 0, .int .i64 0] 26 (0, 0))) := ⟨h4_⟩
            have n5_ : Aside0 (w.heap.size ≤ gb323) := ⟨h5_⟩
            have n6_ : Aside0 (w.heap.size ≤ gb323) := ⟨h6_⟩
            have n7_ : Aside0 (gb297 ≠ gb323) := ⟨h7_⟩
            have n8_ : Aside0 (gb323 ≠ gb297) := ⟨h8_⟩
            have n9_ : Aside0 (gb298 ≠ gb323) := ⟨h9_⟩
            have n10_ : Aside0 (gb323 ≠ gb298) := ⟨h10_⟩
            have n11_ : Aside0 (gb299 ≠ gb323) := ⟨h11_⟩
            have n12_ : Aside0 (gb323 ≠ gb299) := ⟨h12_⟩
            have n13_ : Aside0 (gb311 ≠ gb323) := ⟨h13_⟩
            have n14_ : Aside0 (gb323 ≠ gb311) := ⟨h14_⟩
            have n15_ : Aside0 (Below w.heap.size w w30) := ⟨h15_⟩
            clear BK297
            clear BK298
            clear BK299
            clear BK311
            clear HB
            clear h0_ h1_ h2_ h3_ h4_ h5_ h6_ h7_ h8_ h9_ h10_ h11_ h12_ h13_ h14_ h15_
            have BK297 := n0_
            have BK298 := n1_
            have BK299 := n2_
            have BK311 := n3_
            have BK323 := n4_
            have GW323 := n5_
            have GE323 := n6_
            have NB297_323 := n7_
            have NB323_297 := n8_
            have NB298_323 := n9_
            have NB323_298 := n10_
            have NB299_323 := n11_
            have NB323_299 := n12_
            have NB311_323 := n13_
            have NB323_311 := n14_
            have HB := n15_
            clear n0_ n1_ n2_ n3_ n4_ n5_ n6_ n7_ n8_ n9_ n10_ n11_ n12_ n13_ n14_ n15_
            have hHeld : w30.cell? ⟨gb297, 0, none⟩ = some (.int .i64 a0_0) ∧ w30.cell? ⟨gb297, 1, none⟩ = some (.int .i64 a0_1) ∧ w30.cell? ⟨gb297, 2, none⟩ = some (.int .i64 a0_2) ∧ w30.cell? ⟨gb298, 0, none⟩ = some (.int .i64 a1_0) ∧ w30.cell? ⟨gb298, 1, none⟩ = some (.int .i64 a1_1) ∧ w30.cell? ⟨gb298, 2, none⟩ = some (.int .i64 a1_2) ∧ w30.cell? ⟨gb299, 0, none⟩ = some (.int .i64 a2_0) ∧ w30.cell? ⟨gb299, 1, none⟩ = some (.int .i64 a2_1) := hS_
            refine norm_ (a' := ?_) ?_ ?_
            rotate_left
            ·simp only [putAll, Act.put, List.setIfInBounds_toArray, List.set_cons_zero, List.set_cons_succ]
             rfl
            refine one_ (i := 1) (N := some 23) #[true, true, true, false, true, false, false, false, false, false, true, false, false] rfl rfl (one_of HT_.out (by kernel_rfl)) (by decide) (fun K hK => ?_)
            refine goes_ Try.func11 (by kernel_rfl) rfl #[.agg #[.int .i64 a0_0, .int .i64 a0_1, .int .i64 a0_2]] (by rfl) rfl rfl (by (try simp only [List.map_toArray, List.map_cons, List.map_nil]); first | done | rfl | (simp only [List.length_drop, List.length_take]; rfl)) ?_
            with_reducible refine (laws_toHand.calls a0_0 a0_1 a0_2 t312 t313 t314 _ A8.out).mono ?_
            rintro e w31 ⟨rfl, hb⟩
            refine ⟨_, rfl, ?_⟩
            have n0_ := Am (kB (g := gb297) (o := .cells #[.int .i64 a0_0, .int .i64 a0_1, .int .i64 a0_2] 25 (0, 0)) (by (with_reducible repeat (first | refine kN ?_ _ | refine kD ?_ | refine kA ?_ _)); exact BK297.out) hb)
            have n1_ := Am (kB (g := gb298) (o := .cells #[.int .i64 a1_0, .int .i64 a1_1, .int .i64 a1_2] 25 (0, 0)) (by (with_reducible repeat (first | refine kN ?_ _ | refine kD ?_ | refine kA ?_ _)); exact BK298.out) hb)
            have n2_ := Am (kB (g := gb299) (o := .cells #[.int .i64 a2_0, .int .i64 a2_1] 23 (0, 0)) (by (with_reducible repeat (first | refine kN ?_ _ | refine kD ?_ | refine kA ?_ _)); exact BK299.out) hb)
            have n3_ := Am (kB (g := gb311) (o := .cells #[.int .i64 t308, .int .i64 t309] 26 (0, 0)) (by (with_reducible repeat (first | refine kN ?_ _ | refine kD ?_ | refine kA ?_ _)); exact BK311.out) hb)
            have n4_ := Am (kB (g := gb323) (o := .cells #[.int .i64 0, .int .i64 0] 26 (0, 0)) (by (with_reducible repeat (first | refine kN ?_ _ | refine kD ?_ | refine kA ?_ _)); exact BK323.out) hb)
            have n5_ := Am (bT (by repeat (first | (with_reducible first | exact HB.out | apply bA | apply bN | apply bD | refine bS ?_ GE297.out | refine bS ?_ GE298.out | refine bS ?_ GE299.out | refine bS ?_ GE311.out | refine bS ?_ GE323.out) | exact HB.out)) hb)
            clear BK297
            clear BK298
            clear BK299
            clear BK311
            clear BK323
            clear HB
            have BK297 := n0_
            have BK298 := n1_
            have BK299 := n2_
            have BK311 := n3_
            have BK323 := n4_
            have HB := n5_
            clear n0_ n1_ n2_ n3_ n4_ n5_
            (try clear hb)
            (try clear hb2)
            (try clear hk)
            (try clear hi)
            refine hK.out _ _ ⟨(kC BK297.out 0).trans rfl, (kC BK297.out 1).trans rfl, (kC BK297.out 2).trans rfl, (kC BK298.out 0).trans rfl, (kC BK298.out 1).trans rfl, (kC BK298.out 2).trans rfl, (kC BK299.out 0).trans rfl, (kC BK299.out 1).trans rfl⟩ (fun hHeld => ?_)
            clear hK K
            refine norm_ (a' := ?_) ?_ ?_
            rotate_left
            ·show Act.put _ (some 23) _ = _
             simp only [Act.put, List.setIfInBounds_toArray, List.set_cons_zero, List.set_cons_succ, i64_w, i32_w]
             rfl
            exact norm_ (by first | (simp only [putAll, Act.put, List.setIfInBounds_toArray, List.set_cons_zero, List.set_cons_succ]; done) | (simp only [putAll, Act.put, List.setIfInBounds_toArray, List.set_cons_zero, List.set_cons_succ]; rfl)) (hJ1_10 (gb323) _ ⟨hHeld, (by (with_reducible repeat (first | refine kN ?_ _ | refine kD ?_ | refine kA ?_ _)); exact BK297.out), (by (with_reducible repeat (first | refine kN ?_ _ | refine kD ?_ | refine kA ?_ _)); exact BK298.out), (by (with_reducible repeat (first | refine kN ?_ _ | refine kD ?_ | refine kA ?_ _)); exact BK299.out), (by (with_reducible repeat (first | refine kN ?_ _ | refine kD ?_ | refine kA ?_ _)); exact BK311.out), (by (with_reducible repeat (first | refine kN ?_ _ | refine kD ?_ | refine kA ?_ _)); exact BK323.out), GW323.out, GE323.out, NB297_323.out, NB323_297.out, NB298_323.out, NB323_298.out, NB299_323.out, NB323_299.out, NB311_323.out, NB323_311.out, (by repeat (first | (with_reducible first | exact HB.out | apply bA | apply bN | apply bD | refine bS ?_ GE297.out | refine bS ?_ GE298.out | refine bS ?_ GE299.out | refine bS ?_ GE311.out | refine bS ?_ GE323.out) | exact HB.out))⟩)
          ·skip
           rintro _ w30 ⟨hS_, h0_, h1_, h2_, h3_, h4_⟩
           have n0_ : Aside0 (w30.heap[gb297]? = some (.cells #[.int .i64 a0_0, .int .i64 a0_1, .int .i64 a0_2] 25 (0, 0))) := ⟨h0_⟩
           have n1_ : Aside0 (w30.heap[gb298]? = some (.cells #[.int .i64 a1_0, .int .i64 a1_1, .int .i64 a1_2] 25 (0, 0))) := ⟨h1_⟩
           have n2_ : Aside0 (w30.heap[gb299]? = some (.cells #[.int .i64 a2_0, .int .i64 a2_1] 23 (0, 0))) := ⟨h2_⟩
           have n3_ : Aside0 (w30.heap[gb311]? = some (.cells #[.int .i64 t308, .int .i64 t309] 26 (0, 0))) := ⟨h3_⟩
           have n4_ : Aside0 (Below w.heap.size w w30) := ⟨h4_⟩
           clear BK297
           clear BK298
           clear BK299
           clear BK311
           clear HB
           clear h0_ h1_ h2_ h3_ h4_
           have BK297 := n0_
           have BK298 := n1_
           have BK299 := n2_
           have BK311 := n3_
           have HB := n4_
           clear n0_ n1_ n2_ n3_ n4_
           have hHeld : w30.cell? ⟨gb297, 0, none⟩ = some (.int .i64 a0_0) ∧ w30.cell? ⟨gb297, 1, none⟩ = some (.int .i64 a0_1) ∧ w30.cell? ⟨gb297, 2, none⟩ = some (.int .i64 a0_2) ∧ w30.cell? ⟨gb298, 0, none⟩ = some (.int .i64 a1_0) ∧ w30.cell? ⟨gb298, 1, none⟩ = some (.int .i64 a1_1) ∧ w30.cell? ⟨gb298, 2, none⟩ = some (.int .i64 a1_2) ∧ w30.cell? ⟨gb299, 0, none⟩ = some (.int .i64 a2_0) ∧ w30.cell? ⟨gb299, 1, none⟩ = some (.int .i64 a2_1) := hS_
           refine norm_ (a' := ?_) ?_ ?_
           rotate_left
           ·simp only [putAll, Act.put, List.setIfInBounds_toArray, List.set_cons_zero, List.set_cons_succ]
            rfl
           refine two_ (i := 3) (j := 10) (Ni := some 25) (Nj := some 9) #[true, true, true, true, true, false, false, false, false, false, false, false, false] #[true, true, true, false, true, false, false, false, false, false, true, false, false] rfl rfl rfl rfl (two_of HT_.out (by kernel_rfl)) (by decide) (by decide) (fun K hK => ?_) (fun K hK => ?_)
           ·skip
            refine goes_ Try.func11 (by kernel_rfl) rfl #[.agg #[.int .i64 a1_0, .int .i64 a1_1, .int .i64 a1_2]] (by rfl) rfl rfl (by (try simp only [List.map_toArray, List.map_cons, List.map_nil]); first | done | rfl | (simp only [List.length_drop, List.length_take]; rfl)) ?_
            with_reducible refine (laws_toHand.calls a1_0 a1_1 a1_2 t315 t316 t317 _ A9.out).mono ?_
            rintro e w31 ⟨rfl, hb⟩
            refine ⟨_, rfl, ?_⟩
            have n0_ := Am (kB (g := gb297) (o := .cells #[.int .i64 a0_0, .int .i64 a0_1, .int .i64 a0_2] 25 (0, 0)) (by (with_reducible repeat (first | refine kN ?_ _ | refine kD ?_ | refine kA ?_ _)); exact BK297.out) hb)
            have n1_ := Am (kB (g := gb298) (o := .cells #[.int .i64 a1_0, .int .i64 a1_1, .int .i64 a1_2] 25 (0, 0)) (by (with_reducible repeat (first | refine kN ?_ _ | refine kD ?_ | refine kA ?_ _)); exact BK298.out) hb)
            have n2_ := Am (kB (g := gb299) (o := .cells #[.int .i64 a2_0, .int .i64 a2_1] 23 (0, 0)) (by (with_reducible repeat (first | refine kN ?_ _ | refine kD ?_ | refine kA ?_ _)); exact BK299.out) hb)
            have n3_ := Am (kB (g := gb311) (o := .cells #[.int .i64 t308, .int .i64 t309] 26 (0, 0)) (by (with_reducible repeat (first | refine kN ?_ _ | refine kD ?_ | refine kA ?_ _)); exact BK311.out) hb)
            have n4_ := Am (bT (by repeat (first | (with_reducible first | exact HB.out | apply bA | apply bN | apply bD | refine bS ?_ GE297.out | refine bS ?_ GE298.out | refine bS ?_ GE299.out | refine bS ?_ GE311.out) | exact HB.out)) hb)
            clear BK297
            clear BK298
            clear BK299
            clear BK311
            clear HB
            have BK297 := n0_
            have BK298 := n1_
            have BK299 := n2_
            have BK311 := n3_
            have HB := n4_
            clear n0_ n1_ n2_ n3_ n4_
            (try clear hb)
            (try clear hb2)
            (try clear hk)
            (try clear hi)
            refine hK.out _ _ ⟨(kC BK297.out 0).trans rfl, (kC BK297.out 1).trans rfl, (kC BK297.out 2).trans rfl, (kC BK298.out 0).trans rfl, (kC BK298.out 1).trans rfl, (kC BK298.out 2).trans rfl, (kC BK299.out 0).trans rfl, (kC BK299.out 1).trans rfl⟩ (fun hHeld => ?_)
            clear hK K
            refine norm_ (a' := ?_) ?_ ?_
            rotate_left
            ·show Act.put _ (some 25) _ = _
             simp only [Act.put, List.setIfInBounds_toArray, List.set_cons_zero, List.set_cons_succ, i64_w, i32_w]
             rfl
            exact norm_ (by first | (simp only [putAll, Act.put, List.setIfInBounds_toArray, List.set_cons_zero, List.set_cons_succ]; done) | (simp only [putAll, Act.put, List.setIfInBounds_toArray, List.set_cons_zero, List.set_cons_succ]; rfl)) (hJ1_3 () _ ⟨hHeld, (by (with_reducible repeat (first | refine kN ?_ _ | refine kD ?_ | refine kA ?_ _)); exact BK297.out), (by (with_reducible repeat (first | refine kN ?_ _ | refine kD ?_ | refine kA ?_ _)); exact BK298.out), (by (with_reducible repeat (first | refine kN ?_ _ | refine kD ?_ | refine kA ?_ _)); exact BK299.out), (by (with_reducible repeat (first | refine kN ?_ _ | refine kD ?_ | refine kA ?_ _)); exact BK311.out), (by repeat (first | (with_reducible first | exact HB.out | apply bA | apply bN | apply bD | refine bS ?_ GE297.out | refine bS ?_ GE298.out | refine bS ?_ GE299.out | refine bS ?_ GE311.out) | exact HB.out))⟩)
           ·skip
            refine box_step ?hg (N := 9) ?hd (cs := #[.int .i64 0, .int .i64 0]) (t := 26) ?hr ?_; (case hd => rfl); (case hg => rfl); (case hr => first | (go_simp; done) | (go_simp; rfl))
            intro gb323 hg w31 hbox hb
            have n0_ := Am (kB (g := gb297) (o := .cells #[.int .i64 a0_0, .int .i64 a0_1, .int .i64 a0_2] 25 (0, 0)) (by (with_reducible repeat (first | refine kN ?_ _ | refine kD ?_ | refine kA ?_ _)); exact BK297.out) hb)
            have n1_ := Am (kB (g := gb298) (o := .cells #[.int .i64 a1_0, .int .i64 a1_1, .int .i64 a1_2] 25 (0, 0)) (by (with_reducible repeat (first | refine kN ?_ _ | refine kD ?_ | refine kA ?_ _)); exact BK298.out) hb)
            have n2_ := Am (kB (g := gb299) (o := .cells #[.int .i64 a2_0, .int .i64 a2_1] 23 (0, 0)) (by (with_reducible repeat (first | refine kN ?_ _ | refine kD ?_ | refine kA ?_ _)); exact BK299.out) hb)
            have n3_ := Am (kB (g := gb311) (o := .cells #[.int .i64 t308, .int .i64 t309] 26 (0, 0)) (by (with_reducible repeat (first | refine kN ?_ _ | refine kD ?_ | refine kA ?_ _)); exact BK311.out) hb)
            have n4_ := Am (bT (by repeat (first | (with_reducible first | exact HB.out | apply bA | apply bN | apply bD | refine bS ?_ GE297.out | refine bS ?_ GE298.out | refine bS ?_ GE299.out | refine bS ?_ GE311.out) | exact HB.out)) hb)
            have n5_ := Am (hbox)
            have n6_ := Am ((by rw [hg]; exact (bZ (by repeat (first | (with_reducible first | exact HB.out | apply bA | apply bN | apply bD | refine bS ?_ GE297.out | refine bS ?_ GE298.out | refine bS ?_ GE299.out | refine bS ?_ GE311.out) | exact HB.out))) : w.heap.size ≤ gb323))
            have n7_ := Am ((by rw [hg]; exact (bZ (by repeat (first | (with_reducible first | exact HB.out | apply bA | apply bN | apply bD | refine bS ?_ GE297.out | refine bS ?_ GE298.out | refine bS ?_ GE299.out | refine bS ?_ GE311.out) | exact HB.out))) : w.heap.size ≤ gb323))
            have n8_ := Am ((by rw [hg]; exact Nat.ne_of_lt (kL (g := gb297) (o := .cells #[.int .i64 a0_0, .int .i64 a0_1, .int .i64 a0_2] 25 (0, 0)) (by (with_reducible repeat (first | refine kN ?_ _ | refine kD ?_ | refine kA ?_ _)); exact BK297.out)) : gb297 ≠ gb323))
            have n9_ := Am ((by rw [hg]; exact Nat.ne_of_gt (kL (g := gb297) (o := .cells #[.int .i64 a0_0, .int .i64 a0_1, .int .i64 a0_2] 25 (0, 0)) (by (with_reducible repeat (first | refine kN ?_ _ | refine kD ?_ | refine kA ?_ _)); exact BK297.out)) : gb323 ≠ gb297))
            have n10_ := Am ((by rw [hg]; exact Nat.ne_of_lt (kL (g := gb298) (o := .cells #[.int .i64 a1_0, .int .i64 a1_1, .int .i64 a1_2] 25 (0, 0)) (by (with_reducible repeat (first | refine kN ?_ _ | refine kD ?_ | refine kA ?_ _)); exact BK298.out)) : gb298 ≠ gb323))
            have n11_ := Am ((by rw [hg]; exact Nat.ne_of_gt (kL (g := gb298) (o := .cells #[.int .i64 a1_0, .int .i64 a1_1, .int .i64 a1_2] 25 (0, 0)) (by (with_reducible repeat (first | refine kN ?_ _ | refine kD ?_ | refine kA ?_ _)); exact BK298.out)) : gb323 ≠ gb298))
            have n12_ := Am ((by rw [hg]; exact Nat.ne_of_lt (kL (g := gb299) (o := .cells #[.int .i64 a2_0, .int .i64 a2_1] 23 (0, 0)) (by (with_reducible repeat (first | refine kN ?_ _ | refine kD ?_ | refine kA ?_ _)); exact BK299.out)) : gb299 ≠ gb323))
            have n13_ := Am ((by rw [hg]; exact Nat.ne_of_gt (kL (g := gb299) (o := .cells #[.int .i64 a2_0, .int .i64 a2_1] 23 (0, 0)) (by (with_reducible repeat (first | refine kN ?_ _ | refine kD ?_ | refine kA ?_ _)); exact BK299.out)) : gb323 ≠ gb299))
            have n14_ := Am ((by rw [hg]; exact Nat.ne_of_lt (kL (g := gb311) (o := .cells #[.int .i64 t308, .int .i64 t309] 26 (0, 0)) (by (with_reducible repeat (first | refine kN ?_ _ | refine kD ?_ | refine kA ?_ _)); exact BK311.out)) : gb311 ≠ gb323))
            have n15_ := Am ((by rw [hg]; exact Nat.ne_of_gt (kL (g := gb311) (o := .cells #[.int .i64 t308, .int .i64 t309] 26 (0, 0)) (by (with_reducible repeat (first | refine kN ?_ _ | refine kD ?_ | refine kA ?_ _)); exact BK311.out)) : gb323 ≠ gb311))
            clear BK297
            clear BK298
            clear BK299
            clear BK311
            clear HB
            have BK297 := n0_
            have BK298 := n1_
            have BK299 := n2_
            have BK311 := n3_
            have HB := n4_
            have BK323 := n5_
            have GW323 := n6_
            have GE323 := n7_
            have NB297_323 := n8_
            have NB323_297 := n9_
            have NB298_323 := n10_
            have NB323_298 := n11_
            have NB299_323 := n12_
            have NB323_299 := n13_
            have NB311_323 := n14_
            have NB323_311 := n15_
            clear n0_ n1_ n2_ n3_ n4_ n5_ n6_ n7_ n8_ n9_ n10_ n11_ n12_ n13_ n14_ n15_
            clear hb hbox hg
            refine hK.out _ _ ⟨(kC BK297.out 0).trans rfl, (kC BK297.out 1).trans rfl, (kC BK297.out 2).trans rfl, (kC BK298.out 0).trans rfl, (kC BK298.out 1).trans rfl, (kC BK298.out 2).trans rfl, (kC BK299.out 0).trans rfl, (kC BK299.out 1).trans rfl⟩ (fun hHeld => ?_)
            clear hK K
            refine norm_ (a' := ?_) ?_ ?_
            rotate_left
            ·show Act.put _ (some 9) _ = _
             simp only [Act.put, List.setIfInBounds_toArray, List.set_cons_zero, List.set_cons_succ, i64_w, i32_w]
             rfl
            exact norm_ (by first | (simp only [putAll, Act.put, List.setIfInBounds_toArray, List.set_cons_zero, List.set_cons_succ]; done) | (simp only [putAll, Act.put, List.setIfInBounds_toArray, List.set_cons_zero, List.set_cons_succ]; rfl)) (hJ1_10 (gb323) _ ⟨hHeld, (by (with_reducible repeat (first | refine kN ?_ _ | refine kD ?_ | refine kA ?_ _)); exact BK297.out), (by (with_reducible repeat (first | refine kN ?_ _ | refine kD ?_ | refine kA ?_ _)); exact BK298.out), (by (with_reducible repeat (first | refine kN ?_ _ | refine kD ?_ | refine kA ?_ _)); exact BK299.out), (by (with_reducible repeat (first | refine kN ?_ _ | refine kD ?_ | refine kA ?_ _)); exact BK311.out), (by (with_reducible repeat (first | refine kN ?_ _ | refine kD ?_ | refine kA ?_ _)); exact BK323.out), GW323.out, GE323.out, NB297_323.out, NB323_297.out, NB298_323.out, NB323_298.out, NB299_323.out, NB323_299.out, NB311_323.out, NB323_311.out, (by repeat (first | (with_reducible first | exact HB.out | apply bA | apply bN | apply bD | refine bS ?_ GE297.out | refine bS ?_ GE298.out | refine bS ?_ GE299.out | refine bS ?_ GE311.out | refine bS ?_ GE323.out) | exact HB.out))⟩)
         ·skip
          rintro gb323 w31 ⟨hS_, h0_, h1_, h2_, h3_, h4_, h5_, h6_, h7_, h8_, h9_, h10_, h11_, h12_, h13_, h14_, h15_⟩
          have n0_ : Aside0 (w31.heap[gb297]? = some (.cells #[.int .i64 a0_0, .int .i64 a0_1, .int .i64 a0_2] 25 (0, 0))) := ⟨h0_⟩
          have n1_ : Aside0 (w31.heap[gb298]? = some (.cells #[.int .i64 a1_0, .int .i64 a1_1, .int .i64 a1_2] 25 (0, 0))) := ⟨h1_⟩
          have n2_ : Aside0 (w31.heap[gb299]? = some (.cells #[.int .i64 a2_0, .int .i64 a2_1] 23 (0, 0))) := ⟨h2_⟩
          have n3_ : Aside0 (w31.heap[gb311]? = some (.cells #[.int .i64 t308, .int .i64 t309] 26 (0, 0))) := ⟨h3_⟩
          have n4_ : Aside0 (w31.heap[gb323]? = some (.cells #[.int .i64 0, .int .i64 0] 26 (0, 0))) := ⟨h4_⟩
          have n5_ : Aside0 (w.heap.size ≤ gb323) := ⟨h5_⟩
          have n6_ : Aside0 (w.heap.size ≤ gb323) := ⟨h6_⟩
          have n7_ : Aside0 (gb297 ≠ gb323) := ⟨h7_⟩
          have n8_ : Aside0 (gb323 ≠ gb297) := ⟨h8_⟩
          have n9_ : Aside0 (gb298 ≠ gb323) := ⟨h9_⟩
          have n10_ : Aside0 (gb323 ≠ gb298) := ⟨h10_⟩
          have n11_ : Aside0 (gb299 ≠ gb323) := ⟨h11_⟩
          have n12_ : Aside0 (gb323 ≠ gb299) := ⟨h12_⟩
          have n13_ : Aside0 (gb311 ≠ gb323) := ⟨h13_⟩
          have n14_ : Aside0 (gb323 ≠ gb311) := ⟨h14_⟩
          have n15_ : Aside0 (Below w.heap.size w w31) := ⟨h15_⟩
          clear BK297
          clear BK298
          clear BK299
          clear BK311
          clear HB
          clear h0_ h1_ h2_ h3_ h4_ h5_ h6_ h7_ h8_ h9_ h10_ h11_ h12_ h13_ h14_ h15_
          have BK297 := n0_
          have BK298 := n1_
          have BK299 := n2_
          have BK311 := n3_
          have BK323 := n4_
          have GW323 := n5_
          have GE323 := n6_
          have NB297_323 := n7_
          have NB323_297 := n8_
          have NB298_323 := n9_
          have NB323_298 := n10_
          have NB299_323 := n11_
          have NB323_299 := n12_
          have NB311_323 := n13_
          have NB323_311 := n14_
          have HB := n15_
          clear n0_ n1_ n2_ n3_ n4_ n5_ n6_ n7_ n8_ n9_ n10_ n11_ n12_ n13_ n14_ n15_
          have hHeld : w31.cell? ⟨gb297, 0, none⟩ = some (.int .i64 a0_0) ∧ w31.cell? ⟨gb297, 1, none⟩ = some (.int .i64 a0_1) ∧ w31.cell? ⟨gb297, 2, none⟩ = some (.int .i64 a0_2) ∧ w31.cell? ⟨gb298, 0, none⟩ = some (.int .i64 a1_0) ∧ w31.cell? ⟨gb298, 1, none⟩ = some (.int .i64 a1_1) ∧ w31.cell? ⟨gb298, 2, none⟩ = some (.int .i64 a1_2) ∧ w31.cell? ⟨gb299, 0, none⟩ = some (.int .i64 a2_0) ∧ w31.cell? ⟨gb299, 1, none⟩ = some (.int .i64 a2_1) := hS_
          refine norm_ (a' := ?_) ?_ ?_
          rotate_left
          ·simp only [putAll, Act.put, List.setIfInBounds_toArray, List.set_cons_zero, List.set_cons_succ]
           rfl
          refine one_ (i := 3) (N := some 25) #[true, true, true, true, true, false, false, false, false, false, true, false, false] rfl rfl (one_of HT_.out (by kernel_rfl)) (by decide) (fun K hK => ?_)
          refine goes_ Try.func11 (by kernel_rfl) rfl #[.agg #[.int .i64 a1_0, .int .i64 a1_1, .int .i64 a1_2]] (by rfl) rfl rfl (by (try simp only [List.map_toArray, List.map_cons, List.map_nil]); first | done | rfl | (simp only [List.length_drop, List.length_take]; rfl)) ?_
          with_reducible refine (laws_toHand.calls a1_0 a1_1 a1_2 t315 t316 t317 _ A9.out).mono ?_
          rintro e w32 ⟨rfl, hb⟩
          refine ⟨_, rfl, ?_⟩
          have n0_ := Am (kB (g := gb297) (o := .cells #[.int .i64 a0_0, .int .i64 a0_1, .int .i64 a0_2] 25 (0, 0)) (by (with_reducible repeat (first | refine kN ?_ _ | refine kD ?_ | refine kA ?_ _)); exact BK297.out) hb)
          have n1_ := Am (kB (g := gb298) (o := .cells #[.int .i64 a1_0, .int .i64 a1_1, .int .i64 a1_2] 25 (0, 0)) (by (with_reducible repeat (first | refine kN ?_ _ | refine kD ?_ | refine kA ?_ _)); exact BK298.out) hb)
          have n2_ := Am (kB (g := gb299) (o := .cells #[.int .i64 a2_0, .int .i64 a2_1] 23 (0, 0)) (by (with_reducible repeat (first | refine kN ?_ _ | refine kD ?_ | refine kA ?_ _)); exact BK299.out) hb)
          have n3_ := Am (kB (g := gb311) (o := .cells #[.int .i64 t308, .int .i64 t309] 26 (0, 0)) (by (with_reducible repeat (first | refine kN ?_ _ | refine kD ?_ | refine kA ?_ _)); exact BK311.out) hb)
          have n4_ := Am (kB (g := gb323) (o := .cells #[.int .i64 0, .int .i64 0] 26 (0, 0)) (by (with_reducible repeat (first | refine kN ?_ _ | refine kD ?_ | refine kA ?_ _)); exact BK323.out) hb)
          have n5_ := Am (bT (by repeat (first | (with_reducible first | exact HB.out | apply bA | apply bN | apply bD | refine bS ?_ GE297.out | refine bS ?_ GE298.out | refine bS ?_ GE299.out | refine bS ?_ GE311.out | refine bS ?_ GE323.out) | exact HB.out)) hb)
          clear BK297
          clear BK298
          clear BK299
          clear BK311
          clear BK323
          clear HB
          have BK297 := n0_
          have BK298 := n1_
          have BK299 := n2_
          have BK311 := n3_
          have BK323 := n4_
          have HB := n5_
          clear n0_ n1_ n2_ n3_ n4_ n5_
          (try clear hb)
          (try clear hb2)
          (try clear hk)
          (try clear hi)
          refine hK.out _ _ ⟨(kC BK297.out 0).trans rfl, (kC BK297.out 1).trans rfl, (kC BK297.out 2).trans rfl, (kC BK298.out 0).trans rfl, (kC BK298.out 1).trans rfl, (kC BK298.out 2).trans rfl, (kC BK299.out 0).trans rfl, (kC BK299.out 1).trans rfl⟩ (fun hHeld => ?_)
          clear hK K
          refine norm_ (a' := ?_) ?_ ?_
          rotate_left
          ·show Act.put _ (some 25) _ = _
           simp only [Act.put, List.setIfInBounds_toArray, List.set_cons_zero, List.set_cons_succ, i64_w, i32_w]
           rfl
          exact norm_ (by first | (simp only [putAll, Act.put, List.setIfInBounds_toArray, List.set_cons_zero, List.set_cons_succ]; done) | (simp only [putAll, Act.put, List.setIfInBounds_toArray, List.set_cons_zero, List.set_cons_succ]; rfl)) (hJ1_3_10 (gb323) _ ⟨hHeld, (by (with_reducible repeat (first | refine kN ?_ _ | refine kD ?_ | refine kA ?_ _)); exact BK297.out), (by (with_reducible repeat (first | refine kN ?_ _ | refine kD ?_ | refine kA ?_ _)); exact BK298.out), (by (with_reducible repeat (first | refine kN ?_ _ | refine kD ?_ | refine kA ?_ _)); exact BK299.out), (by (with_reducible repeat (first | refine kN ?_ _ | refine kD ?_ | refine kA ?_ _)); exact BK311.out), (by (with_reducible repeat (first | refine kN ?_ _ | refine kD ?_ | refine kA ?_ _)); exact BK323.out), GW323.out, GE323.out, NB297_323.out, NB323_297.out, NB298_323.out, NB323_298.out, NB299_323.out, NB323_299.out, NB311_323.out, NB323_311.out, (by repeat (first | (with_reducible first | exact HB.out | apply bA | apply bN | apply bD | refine bS ?_ GE297.out | refine bS ?_ GE298.out | refine bS ?_ GE299.out | refine bS ?_ GE311.out | refine bS ?_ GE323.out) | exact HB.out))⟩)
        ·skip
         rintro _ w31 ⟨hS_, h0_, h1_, h2_, h3_, h4_⟩
         have n0_ : Aside0 (w31.heap[gb297]? = some (.cells #[.int .i64 a0_0, .int .i64 a0_1, .int .i64 a0_2] 25 (0, 0))) := ⟨h0_⟩
         have n1_ : Aside0 (w31.heap[gb298]? = some (.cells #[.int .i64 a1_0, .int .i64 a1_1, .int .i64 a1_2] 25 (0, 0))) := ⟨h1_⟩
         have n2_ : Aside0 (w31.heap[gb299]? = some (.cells #[.int .i64 a2_0, .int .i64 a2_1] 23 (0, 0))) := ⟨h2_⟩
         have n3_ : Aside0 (w31.heap[gb311]? = some (.cells #[.int .i64 t308, .int .i64 t309] 26 (0, 0))) := ⟨h3_⟩
         have n4_ : Aside0 (Below w.heap.size w w31) := ⟨h4_⟩
         clear BK297
         clear BK298
         clear BK299
         clear BK311
         clear HB
         clear h0_ h1_ h2_ h3_ h4_
         have BK297 := n0_
         have BK298 := n1_
         have BK299 := n2_
         have BK311 := n3_
         have HB := n4_
         clear n0_ n1_ n2_ n3_ n4_
         have hHeld : w31.cell? ⟨gb297, 0, none⟩ = some (.int .i64 a0_0) ∧ w31.cell? ⟨gb297, 1, none⟩ = some (.int .i64 a0_1) ∧ w31.cell? ⟨gb297, 2, none⟩ = some (.int .i64 a0_2) ∧ w31.cell? ⟨gb298, 0, none⟩ = some (.int .i64 a1_0) ∧ w31.cell? ⟨gb298, 1, none⟩ = some (.int .i64 a1_1) ∧ w31.cell? ⟨gb298, 2, none⟩ = some (.int .i64 a1_2) ∧ w31.cell? ⟨gb299, 0, none⟩ = some (.int .i64 a2_0) ∧ w31.cell? ⟨gb299, 1, none⟩ = some (.int .i64 a2_1) := hS_
         refine norm_ (a' := ?_) ?_ ?_
         rotate_left
         ·simp only [putAll, Act.put, List.setIfInBounds_toArray, List.set_cons_zero, List.set_cons_succ]
          rfl
         refine two_ (i := 5) (j := 10) (Ni := some 27) (Nj := some 9) #[true, true, true, true, true, true, false, false, false, false, false, false, false] #[true, true, true, true, true, false, false, false, false, false, true, false, false] rfl rfl rfl rfl (two_of HT_.out (by kernel_rfl)) (by decide) (by decide) (fun K hK => ?_) (fun K hK => ?_)
         ·skip
          refine goes_ Try.func12 (by kernel_rfl) rfl #[.agg #[.int .i64 a2_0, .int .i64 a2_1]] (by rfl) rfl rfl (by (try simp only [List.map_toArray, List.map_cons, List.map_nil]); first | done | rfl | (simp only [List.length_drop, List.length_take]; rfl)) ?_
          with_reducible refine (laws_toTurn.calls a2_0 a2_1 t318 t319 _ A10.out).mono ?_
          rintro e w32 ⟨rfl, hb⟩
          refine ⟨_, rfl, ?_⟩
          have n0_ := Am (kB (g := gb297) (o := .cells #[.int .i64 a0_0, .int .i64 a0_1, .int .i64 a0_2] 25 (0, 0)) (by (with_reducible repeat (first | refine kN ?_ _ | refine kD ?_ | refine kA ?_ _)); exact BK297.out) hb)
          have n1_ := Am (kB (g := gb298) (o := .cells #[.int .i64 a1_0, .int .i64 a1_1, .int .i64 a1_2] 25 (0, 0)) (by (with_reducible repeat (first | refine kN ?_ _ | refine kD ?_ | refine kA ?_ _)); exact BK298.out) hb)
          have n2_ := Am (kB (g := gb299) (o := .cells #[.int .i64 a2_0, .int .i64 a2_1] 23 (0, 0)) (by (with_reducible repeat (first | refine kN ?_ _ | refine kD ?_ | refine kA ?_ _)); exact BK299.out) hb)
          have n3_ := Am (kB (g := gb311) (o := .cells #[.int .i64 t308, .int .i64 t309] 26 (0, 0)) (by (with_reducible repeat (first | refine kN ?_ _ | refine kD ?_ | refine kA ?_ _)); exact BK311.out) hb)
          have n4_ := Am (bT (by repeat (first | (with_reducible first | exact HB.out | apply bA | apply bN | apply bD | refine bS ?_ GE297.out | refine bS ?_ GE298.out | refine bS ?_ GE299.out | refine bS ?_ GE311.out) | exact HB.out)) hb)
          clear BK297
          clear BK298
          clear BK299
          clear BK311
          clear HB
          have BK297 := n0_
          have BK298 := n1_
          have BK299 := n2_
          have BK311 := n3_
          have HB := n4_
          clear n0_ n1_ n2_ n3_ n4_
          (try clear hb)
          (try clear hb2)
          (try clear hk)
          (try clear hi)
          refine hK.out _ _ ⟨(kC BK297.out 0).trans rfl, (kC BK297.out 1).trans rfl, (kC BK297.out 2).trans rfl, (kC BK298.out 0).trans rfl, (kC BK298.out 1).trans rfl, (kC BK298.out 2).trans rfl, (kC BK299.out 0).trans rfl, (kC BK299.out 1).trans rfl⟩ (fun hHeld => ?_)
          clear hK K
          refine norm_ (a' := ?_) ?_ ?_
          rotate_left
          ·show Act.put _ (some 27) _ = _
           simp only [Act.put, List.setIfInBounds_toArray, List.set_cons_zero, List.set_cons_succ, i64_w, i32_w]
           rfl
          exact norm_ (by first | (simp only [putAll, Act.put, List.setIfInBounds_toArray, List.set_cons_zero, List.set_cons_succ]; done) | (simp only [putAll, Act.put, List.setIfInBounds_toArray, List.set_cons_zero, List.set_cons_succ]; rfl)) (hJ1_3_5 () _ ⟨hHeld, (by (with_reducible repeat (first | refine kN ?_ _ | refine kD ?_ | refine kA ?_ _)); exact BK297.out), (by (with_reducible repeat (first | refine kN ?_ _ | refine kD ?_ | refine kA ?_ _)); exact BK298.out), (by (with_reducible repeat (first | refine kN ?_ _ | refine kD ?_ | refine kA ?_ _)); exact BK299.out), (by (with_reducible repeat (first | refine kN ?_ _ | refine kD ?_ | refine kA ?_ _)); exact BK311.out), (by repeat (first | (with_reducible first | exact HB.out | apply bA | apply bN | apply bD | refine bS ?_ GE297.out | refine bS ?_ GE298.out | refine bS ?_ GE299.out | refine bS ?_ GE311.out) | exact HB.out))⟩)
         ·skip
          refine box_step ?hg (N := 9) ?hd (cs := #[.int .i64 0, .int .i64 0]) (t := 26) ?hr ?_; (case hd => rfl); (case hg => rfl); (case hr => first | (go_simp; done) | (go_simp; rfl))
          intro gb323 hg w32 hbox hb
          have n0_ := Am (kB (g := gb297) (o := .cells #[.int .i64 a0_0, .int .i64 a0_1, .int .i64 a0_2] 25 (0, 0)) (by (with_reducible repeat (first | refine kN ?_ _ | refine kD ?_ | refine kA ?_ _)); exact BK297.out) hb)
          have n1_ := Am (kB (g := gb298) (o := .cells #[.int .i64 a1_0, .int .i64 a1_1, .int .i64 a1_2] 25 (0, 0)) (by (with_reducible repeat (first | refine kN ?_ _ | refine kD ?_ | refine kA ?_ _)); exact BK298.out) hb)
          have n2_ := Am (kB (g := gb299) (o := .cells #[.int .i64 a2_0, .int .i64 a2_1] 23 (0, 0)) (by (with_reducible repeat (first | refine kN ?_ _ | refine kD ?_ | refine kA ?_ _)); exact BK299.out) hb)
          have n3_ := Am (kB (g := gb311) (o := .cells #[.int .i64 t308, .int .i64 t309] 26 (0, 0)) (by (with_reducible repeat (first | refine kN ?_ _ | refine kD ?_ | refine kA ?_ _)); exact BK311.out) hb)
          have n4_ := Am (bT (by repeat (first | (with_reducible first | exact HB.out | apply bA | apply bN | apply bD | refine bS ?_ GE297.out | refine bS ?_ GE298.out | refine bS ?_ GE299.out | refine bS ?_ GE311.out) | exact HB.out)) hb)
          have n5_ := Am (hbox)
          have n6_ := Am ((by rw [hg]; exact (bZ (by repeat (first | (with_reducible first | exact HB.out | apply bA | apply bN | apply bD | refine bS ?_ GE297.out | refine bS ?_ GE298.out | refine bS ?_ GE299.out | refine bS ?_ GE311.out) | exact HB.out))) : w.heap.size ≤ gb323))
          have n7_ := Am ((by rw [hg]; exact (bZ (by repeat (first | (with_reducible first | exact HB.out | apply bA | apply bN | apply bD | refine bS ?_ GE297.out | refine bS ?_ GE298.out | refine bS ?_ GE299.out | refine bS ?_ GE311.out) | exact HB.out))) : w.heap.size ≤ gb323))
          have n8_ := Am ((by rw [hg]; exact Nat.ne_of_lt (kL (g := gb297) (o := .cells #[.int .i64 a0_0, .int .i64 a0_1, .int .i64 a0_2] 25 (0, 0)) (by (with_reducible repeat (first | refine kN ?_ _ | refine kD ?_ | refine kA ?_ _)); exact BK297.out)) : gb297 ≠ gb323))
          have n9_ := Am ((by rw [hg]; exact Nat.ne_of_gt (kL (g := gb297) (o := .cells #[.int .i64 a0_0, .int .i64 a0_1, .int .i64 a0_2] 25 (0, 0)) (by (with_reducible repeat (first | refine kN ?_ _ | refine kD ?_ | refine kA ?_ _)); exact BK297.out)) : gb323 ≠ gb297))
          have n10_ := Am ((by rw [hg]; exact Nat.ne_of_lt (kL (g := gb298) (o := .cells #[.int .i64 a1_0, .int .i64 a1_1, .int .i64 a1_2] 25 (0, 0)) (by (with_reducible repeat (first | refine kN ?_ _ | refine kD ?_ | refine kA ?_ _)); exact BK298.out)) : gb298 ≠ gb323))
          have n11_ := Am ((by rw [hg]; exact Nat.ne_of_gt (kL (g := gb298) (o := .cells #[.int .i64 a1_0, .int .i64 a1_1, .int .i64 a1_2] 25 (0, 0)) (by (with_reducible repeat (first | refine kN ?_ _ | refine kD ?_ | refine kA ?_ _)); exact BK298.out)) : gb323 ≠ gb298))
          have n12_ := Am ((by rw [hg]; exact Nat.ne_of_lt (kL (g := gb299) (o := .cells #[.int .i64 a2_0, .int .i64 a2_1] 23 (0, 0)) (by (with_reducible repeat (first | refine kN ?_ _ | refine kD ?_ | refine kA ?_ _)); exact BK299.out)) : gb299 ≠ gb323))
          have n13_ := Am ((by rw [hg]; exact Nat.ne_of_gt (kL (g := gb299) (o := .cells #[.int .i64 a2_0, .int .i64 a2_1] 23 (0, 0)) (by (with_reducible repeat (first | refine kN ?_ _ | refine kD ?_ | refine kA ?_ _)); exact BK299.out)) : gb323 ≠ gb299))
          have n14_ := Am ((by rw [hg]; exact Nat.ne_of_lt (kL (g := gb311) (o := .cells #[.int .i64 t308, .int .i64 t309] 26 (0, 0)) (by (with_reducible repeat (first | refine kN ?_ _ | refine kD ?_ | refine kA ?_ _)); exact BK311.out)) : gb311 ≠ gb323))
          have n15_ := Am ((by rw [hg]; exact Nat.ne_of_gt (kL (g := gb311) (o := .cells #[.int .i64 t308, .int .i64 t309] 26 (0, 0)) (by (with_reducible repeat (first | refine kN ?_ _ | refine kD ?_ | refine kA ?_ _)); exact BK311.out)) : gb323 ≠ gb311))
          clear BK297
          clear BK298
          clear BK299
          clear BK311
          clear HB
          have BK297 := n0_
          have BK298 := n1_
          have BK299 := n2_
          have BK311 := n3_
          have HB := n4_
          have BK323 := n5_
          have GW323 := n6_
          have GE323 := n7_
          have NB297_323 := n8_
          have NB323_297 := n9_
          have NB298_323 := n10_
          have NB323_298 := n11_
          have NB299_323 := n12_
          have NB323_299 := n13_
          have NB311_323 := n14_
          have NB323_311 := n15_
          clear n0_ n1_ n2_ n3_ n4_ n5_ n6_ n7_ n8_ n9_ n10_ n11_ n12_ n13_ n14_ n15_
          clear hb hbox hg
          refine hK.out _ _ ⟨(kC BK297.out 0).trans rfl, (kC BK297.out 1).trans rfl, (kC BK297.out 2).trans rfl, (kC BK298.out 0).trans rfl, (kC BK298.out 1).trans rfl, (kC BK298.out 2).trans rfl, (kC BK299.out 0).trans rfl, (kC BK299.out 1).trans rfl⟩ (fun hHeld => ?_)
          clear hK K
          refine norm_ (a' := ?_) ?_ ?_
          rotate_left
          ·show Act.put _ (some 9) _ = _
           simp only [Act.put, List.setIfInBounds_toArray, List.set_cons_zero, List.set_cons_succ, i64_w, i32_w]
           rfl
          exact norm_ (by first | (simp only [putAll, Act.put, List.setIfInBounds_toArray, List.set_cons_zero, List.set_cons_succ]; done) | (simp only [putAll, Act.put, List.setIfInBounds_toArray, List.set_cons_zero, List.set_cons_succ]; rfl)) (hJ1_3_10 (gb323) _ ⟨hHeld, (by (with_reducible repeat (first | refine kN ?_ _ | refine kD ?_ | refine kA ?_ _)); exact BK297.out), (by (with_reducible repeat (first | refine kN ?_ _ | refine kD ?_ | refine kA ?_ _)); exact BK298.out), (by (with_reducible repeat (first | refine kN ?_ _ | refine kD ?_ | refine kA ?_ _)); exact BK299.out), (by (with_reducible repeat (first | refine kN ?_ _ | refine kD ?_ | refine kA ?_ _)); exact BK311.out), (by (with_reducible repeat (first | refine kN ?_ _ | refine kD ?_ | refine kA ?_ _)); exact BK323.out), GW323.out, GE323.out, NB297_323.out, NB323_297.out, NB298_323.out, NB323_298.out, NB299_323.out, NB323_299.out, NB311_323.out, NB323_311.out, (by repeat (first | (with_reducible first | exact HB.out | apply bA | apply bN | apply bD | refine bS ?_ GE297.out | refine bS ?_ GE298.out | refine bS ?_ GE299.out | refine bS ?_ GE311.out | refine bS ?_ GE323.out) | exact HB.out))⟩)
       ·skip
        rintro gb323 w32 ⟨hS_, h0_, h1_, h2_, h3_, h4_, h5_, h6_, h7_, h8_, h9_, h10_, h11_, h12_, h13_, h14_, h15_⟩
        have n0_ : Aside0 (w32.heap[gb297]? = some (.cells #[.int .i64 a0_0, .int .i64 a0_1, .int .i64 a0_2] 25 (0, 0))) := ⟨h0_⟩
        have n1_ : Aside0 (w32.heap[gb298]? = some (.cells #[.int .i64 a1_0, .int .i64 a1_1, .int .i64 a1_2] 25 (0, 0))) := ⟨h1_⟩
        have n2_ : Aside0 (w32.heap[gb299]? = some (.cells #[.int .i64 a2_0, .int .i64 a2_1] 23 (0, 0))) := ⟨h2_⟩
        have n3_ : Aside0 (w32.heap[gb311]? = some (.cells #[.int .i64 t308, .int .i64 t309] 26 (0, 0))) := ⟨h3_⟩
        have n4_ : Aside0 (w32.heap[gb323]? = some (.cells #[.int .i64 0, .int .i64 0] 26 (0, 0))) := ⟨h4_⟩
        have n5_ : Aside0 (w.heap.size ≤ gb323) := ⟨h5_⟩
        have n6_ : Aside0 (w.heap.size ≤ gb323) := ⟨h6_⟩
        have n7_ : Aside0 (gb297 ≠ gb323) := ⟨h7_⟩
        have n8_ : Aside0 (gb323 ≠ gb297) := ⟨h8_⟩
        have n9_ : Aside0 (gb298 ≠ gb323) := ⟨h9_⟩
        have n10_ : Aside0 (gb323 ≠ gb298) := ⟨h10_⟩
        have n11_ : Aside0 (gb299 ≠ gb323) := ⟨h11_⟩
        have n12_ : Aside0 (gb323 ≠ gb299) := ⟨h12_⟩
        have n13_ : Aside0 (gb311 ≠ gb323) := ⟨h13_⟩
        have n14_ : Aside0 (gb323 ≠ gb311) := ⟨h14_⟩
        have n15_ : Aside0 (Below w.heap.size w w32) := ⟨h15_⟩
        clear BK297
        clear BK298
        clear BK299
        clear BK311
        clear HB
        clear h0_ h1_ h2_ h3_ h4_ h5_ h6_ h7_ h8_ h9_ h10_ h11_ h12_ h13_ h14_ h15_
        have BK297 := n0_
        have BK298 := n1_
        have BK299 := n2_
        have BK311 := n3_
        have BK323 := n4_
        have GW323 := n5_
        have GE323 := n6_
        have NB297_323 := n7_
        have NB323_297 := n8_
        have NB298_323 := n9_
        have NB323_298 := n10_
        have NB299_323 := n11_
        have NB323_299 := n12_
        have NB311_323 := n13_
        have NB323_311 := n14_
        have HB := n15_
        clear n0_ n1_ n2_ n3_ n4_ n5_ n6_ n7_ n8_ n9_ n10_ n11_ n12_ n13_ n14_ n15_
        have hHeld : w32.cell? ⟨gb297, 0, none⟩ = some (.int .i64 a0_0) ∧ w32.cell? ⟨gb297, 1, none⟩ = some (.int .i64 a0_1) ∧ w32.cell? ⟨gb297, 2, none⟩ = some (.int .i64 a0_2) ∧ w32.cell? ⟨gb298, 0, none⟩ = some (.int .i64 a1_0) ∧ w32.cell? ⟨gb298, 1, none⟩ = some (.int .i64 a1_1) ∧ w32.cell? ⟨gb298, 2, none⟩ = some (.int .i64 a1_2) ∧ w32.cell? ⟨gb299, 0, none⟩ = some (.int .i64 a2_0) ∧ w32.cell? ⟨gb299, 1, none⟩ = some (.int .i64 a2_1) := hS_
        refine norm_ (a' := ?_) ?_ ?_
        rotate_left
        ·simp only [putAll, Act.put, List.setIfInBounds_toArray, List.set_cons_zero, List.set_cons_succ]
         rfl
        refine one_ (i := 5) (N := some 27) #[true, true, true, true, true, true, false, false, false, false, true, false, false] rfl rfl (one_of HT_.out (by kernel_rfl)) (by decide) (fun K hK => ?_)
        refine goes_ Try.func12 (by kernel_rfl) rfl #[.agg #[.int .i64 a2_0, .int .i64 a2_1]] (by rfl) rfl rfl (by (try simp only [List.map_toArray, List.map_cons, List.map_nil]); first | done | rfl | (simp only [List.length_drop, List.length_take]; rfl)) ?_
        with_reducible refine (laws_toTurn.calls a2_0 a2_1 t318 t319 _ A10.out).mono ?_
        rintro e w33 ⟨rfl, hb⟩
        refine ⟨_, rfl, ?_⟩
        have n0_ := Am (kB (g := gb297) (o := .cells #[.int .i64 a0_0, .int .i64 a0_1, .int .i64 a0_2] 25 (0, 0)) (by (with_reducible repeat (first | refine kN ?_ _ | refine kD ?_ | refine kA ?_ _)); exact BK297.out) hb)
        have n1_ := Am (kB (g := gb298) (o := .cells #[.int .i64 a1_0, .int .i64 a1_1, .int .i64 a1_2] 25 (0, 0)) (by (with_reducible repeat (first | refine kN ?_ _ | refine kD ?_ | refine kA ?_ _)); exact BK298.out) hb)
        have n2_ := Am (kB (g := gb299) (o := .cells #[.int .i64 a2_0, .int .i64 a2_1] 23 (0, 0)) (by (with_reducible repeat (first | refine kN ?_ _ | refine kD ?_ | refine kA ?_ _)); exact BK299.out) hb)
        have n3_ := Am (kB (g := gb311) (o := .cells #[.int .i64 t308, .int .i64 t309] 26 (0, 0)) (by (with_reducible repeat (first | refine kN ?_ _ | refine kD ?_ | refine kA ?_ _)); exact BK311.out) hb)
        have n4_ := Am (kB (g := gb323) (o := .cells #[.int .i64 0, .int .i64 0] 26 (0, 0)) (by (with_reducible repeat (first | refine kN ?_ _ | refine kD ?_ | refine kA ?_ _)); exact BK323.out) hb)
        have n5_ := Am (bT (by repeat (first | (with_reducible first | exact HB.out | apply bA | apply bN | apply bD | refine bS ?_ GE297.out | refine bS ?_ GE298.out | refine bS ?_ GE299.out | refine bS ?_ GE311.out | refine bS ?_ GE323.out) | exact HB.out)) hb)
        clear BK297
        clear BK298
        clear BK299
        clear BK311
        clear BK323
        clear HB
        have BK297 := n0_
        have BK298 := n1_
        have BK299 := n2_
        have BK311 := n3_
        have BK323 := n4_
        have HB := n5_
        clear n0_ n1_ n2_ n3_ n4_ n5_
        (try clear hb)
        (try clear hb2)
        (try clear hk)
        (try clear hi)
        refine hK.out _ _ ⟨(kC BK297.out 0).trans rfl, (kC BK297.out 1).trans rfl, (kC BK297.out 2).trans rfl, (kC BK298.out 0).trans rfl, (kC BK298.out 1).trans rfl, (kC BK298.out 2).trans rfl, (kC BK299.out 0).trans rfl, (kC BK299.out 1).trans rfl⟩ (fun hHeld => ?_)
        clear hK K
        refine norm_ (a' := ?_) ?_ ?_
        rotate_left
        ·show Act.put _ (some 27) _ = _
         simp only [Act.put, List.setIfInBounds_toArray, List.set_cons_zero, List.set_cons_succ, i64_w, i32_w]
         rfl
        exact norm_ (by first | (simp only [putAll, Act.put, List.setIfInBounds_toArray, List.set_cons_zero, List.set_cons_succ]; done) | (simp only [putAll, Act.put, List.setIfInBounds_toArray, List.set_cons_zero, List.set_cons_succ]; rfl)) (hJ1_3_5_10 (gb323) _ ⟨hHeld, (by (with_reducible repeat (first | refine kN ?_ _ | refine kD ?_ | refine kA ?_ _)); exact BK297.out), (by (with_reducible repeat (first | refine kN ?_ _ | refine kD ?_ | refine kA ?_ _)); exact BK298.out), (by (with_reducible repeat (first | refine kN ?_ _ | refine kD ?_ | refine kA ?_ _)); exact BK299.out), (by (with_reducible repeat (first | refine kN ?_ _ | refine kD ?_ | refine kA ?_ _)); exact BK311.out), (by (with_reducible repeat (first | refine kN ?_ _ | refine kD ?_ | refine kA ?_ _)); exact BK323.out), GW323.out, GE323.out, NB297_323.out, NB323_297.out, NB298_323.out, NB323_298.out, NB299_323.out, NB323_299.out, NB311_323.out, NB323_311.out, (by repeat (first | (with_reducible first | exact HB.out | apply bA | apply bN | apply bD | refine bS ?_ GE297.out | refine bS ?_ GE298.out | refine bS ?_ GE299.out | refine bS ?_ GE311.out | refine bS ?_ GE323.out) | exact HB.out))⟩)
      ·skip
       rintro _ w32 ⟨hS_, h0_, h1_, h2_, h3_, h4_⟩
       have n0_ : Aside0 (w32.heap[gb297]? = some (.cells #[.int .i64 a0_0, .int .i64 a0_1, .int .i64 a0_2] 25 (0, 0))) := ⟨h0_⟩
       have n1_ : Aside0 (w32.heap[gb298]? = some (.cells #[.int .i64 a1_0, .int .i64 a1_1, .int .i64 a1_2] 25 (0, 0))) := ⟨h1_⟩
       have n2_ : Aside0 (w32.heap[gb299]? = some (.cells #[.int .i64 a2_0, .int .i64 a2_1] 23 (0, 0))) := ⟨h2_⟩
       have n3_ : Aside0 (w32.heap[gb311]? = some (.cells #[.int .i64 t308, .int .i64 t309] 26 (0, 0))) := ⟨h3_⟩
       have n4_ : Aside0 (Below w.heap.size w w32) := ⟨h4_⟩
       clear BK297
       clear BK298
       clear BK299
       clear BK311
       clear HB
       clear h0_ h1_ h2_ h3_ h4_
       have BK297 := n0_
       have BK298 := n1_
       have BK299 := n2_
       have BK311 := n3_
       have HB := n4_
       clear n0_ n1_ n2_ n3_ n4_
       have hHeld : w32.cell? ⟨gb297, 0, none⟩ = some (.int .i64 a0_0) ∧ w32.cell? ⟨gb297, 1, none⟩ = some (.int .i64 a0_1) ∧ w32.cell? ⟨gb297, 2, none⟩ = some (.int .i64 a0_2) ∧ w32.cell? ⟨gb298, 0, none⟩ = some (.int .i64 a1_0) ∧ w32.cell? ⟨gb298, 1, none⟩ = some (.int .i64 a1_1) ∧ w32.cell? ⟨gb298, 2, none⟩ = some (.int .i64 a1_2) ∧ w32.cell? ⟨gb299, 0, none⟩ = some (.int .i64 a2_0) ∧ w32.cell? ⟨gb299, 1, none⟩ = some (.int .i64 a2_1) := hS_
       refine norm_ (a' := ?_) ?_ ?_
       rotate_left
       ·simp only [putAll, Act.put, List.setIfInBounds_toArray, List.set_cons_zero, List.set_cons_succ]
        rfl
       refine two_ (i := 6) (j := 10) (Ni := some 28) (Nj := some 9) #[true, true, true, true, true, true, true, false, false, false, false, false, false] #[true, true, true, true, true, true, false, false, false, false, true, false, false] rfl rfl rfl rfl (two_of HT_.out (by kernel_rfl)) (by decide) (by decide) (fun K hK => ?_) (fun K hK => ?_)
       ·skip
        refine goes_ Try.func13 (by kernel_rfl) rfl #[.agg #[.int .i64 t312, .int .i64 t313, .int .i64 t314], .agg #[.int .i64 t315, .int .i64 t316, .int .i64 t317], .agg #[.int .i64 t318, .int .i64 t319]] (by rfl) rfl rfl (by (try simp only [List.map_toArray, List.map_cons, List.map_nil]); first | done | rfl | (simp only [List.length_drop, List.length_take]; rfl)) ?_
        with_reducible refine (impl_NextMeet.calls k t312 t313 t314 t315 t316 t317 t318 t319 t320 t321 t322 _ A11.out).mono ?_
        rintro e w33 ⟨rfl, hb⟩
        refine ⟨_, rfl, ?_⟩
        have n0_ := Am (kB (g := gb297) (o := .cells #[.int .i64 a0_0, .int .i64 a0_1, .int .i64 a0_2] 25 (0, 0)) (by (with_reducible repeat (first | refine kN ?_ _ | refine kD ?_ | refine kA ?_ _)); exact BK297.out) hb)
        have n1_ := Am (kB (g := gb298) (o := .cells #[.int .i64 a1_0, .int .i64 a1_1, .int .i64 a1_2] 25 (0, 0)) (by (with_reducible repeat (first | refine kN ?_ _ | refine kD ?_ | refine kA ?_ _)); exact BK298.out) hb)
        have n2_ := Am (kB (g := gb299) (o := .cells #[.int .i64 a2_0, .int .i64 a2_1] 23 (0, 0)) (by (with_reducible repeat (first | refine kN ?_ _ | refine kD ?_ | refine kA ?_ _)); exact BK299.out) hb)
        have n3_ := Am (kB (g := gb311) (o := .cells #[.int .i64 t308, .int .i64 t309] 26 (0, 0)) (by (with_reducible repeat (first | refine kN ?_ _ | refine kD ?_ | refine kA ?_ _)); exact BK311.out) hb)
        have n4_ := Am (bT (by repeat (first | (with_reducible first | exact HB.out | apply bA | apply bN | apply bD | refine bS ?_ GE297.out | refine bS ?_ GE298.out | refine bS ?_ GE299.out | refine bS ?_ GE311.out) | exact HB.out)) hb)
        clear BK297
        clear BK298
        clear BK299
        clear BK311
        clear HB
        have BK297 := n0_
        have BK298 := n1_
        have BK299 := n2_
        have BK311 := n3_
        have HB := n4_
        clear n0_ n1_ n2_ n3_ n4_
        (try clear hb)
        (try clear hb2)
        (try clear hk)
        (try clear hi)
        refine hK.out _ _ ⟨(kC BK297.out 0).trans rfl, (kC BK297.out 1).trans rfl, (kC BK297.out 2).trans rfl, (kC BK298.out 0).trans rfl, (kC BK298.out 1).trans rfl, (kC BK298.out 2).trans rfl, (kC BK299.out 0).trans rfl, (kC BK299.out 1).trans rfl⟩ (fun hHeld => ?_)
        clear hK K
        refine norm_ (a' := ?_) ?_ ?_
        rotate_left
        ·show Act.put _ (some 28) _ = _
         simp only [Act.put, List.setIfInBounds_toArray, List.set_cons_zero, List.set_cons_succ, i64_w, i32_w]
         rfl
        refine pure_ (i := 7) (N := some 21) (v := ?_) (a' := ?_) #[true, true, true, true, true, true, true, true, false, false, false, false, false] rfl rfl (any_of HT_.out (by kernel_rfl)) (fun _ _ _ h => h) (Or.inl ⟨by rfl, ?_⟩) ?_ ?_
        rotate_left
        ·intro w'
         go_simp
         with_reducible rfl
        rotate_left
        ·simp only [Act.put, List.setIfInBounds_toArray, List.set_cons_zero, List.set_cons_succ, i64_w, i32_w]
         rfl
        refine pure_ (i := 8) (N := some 29) (v := ?_) (a' := ?_) #[true, true, true, true, true, true, true, true, true, false, false, false, false] rfl rfl (any_of HT_.out (by kernel_rfl)) (fun _ _ _ h => h) (Or.inl ⟨by rfl, ?_⟩) ?_ ?_
        rotate_left
        ·intro w'
         go_simp
         with_reducible rfl
        rotate_left
        ·simp only [Act.put, List.setIfInBounds_toArray, List.set_cons_zero, List.set_cons_succ, i64_w, i32_w]
         rfl
        refine pure_ (i := 9) (N := some 30) (v := ?_) (a' := ?_) #[true, true, true, true, true, true, true, true, true, true, false, false, false] rfl rfl (any_of HT_.out (by kernel_rfl)) (fun _ _ _ h => h) (Or.inl ⟨by rfl, ?_⟩) ?_ ?_
        rotate_left
        ·intro w'
         go_simp
         with_reducible rfl
        rotate_left
        ·simp only [Act.put, List.setIfInBounds_toArray, List.set_cons_zero, List.set_cons_succ, i64_w, i32_w]
         rfl
        exact norm_ (by first | (simp only [putAll, Act.put, List.setIfInBounds_toArray, List.set_cons_zero, List.set_cons_succ]; done) | (simp only [putAll, Act.put, List.setIfInBounds_toArray, List.set_cons_zero, List.set_cons_succ]; rfl)) (hJ1_3_5_6 () _ ⟨hHeld, (by (with_reducible repeat (first | refine kN ?_ _ | refine kD ?_ | refine kA ?_ _)); exact BK297.out), (by (with_reducible repeat (first | refine kN ?_ _ | refine kD ?_ | refine kA ?_ _)); exact BK298.out), (by (with_reducible repeat (first | refine kN ?_ _ | refine kD ?_ | refine kA ?_ _)); exact BK299.out), (by (with_reducible repeat (first | refine kN ?_ _ | refine kD ?_ | refine kA ?_ _)); exact BK311.out), (by repeat (first | (with_reducible first | exact HB.out | apply bA | apply bN | apply bD | refine bS ?_ GE297.out | refine bS ?_ GE298.out | refine bS ?_ GE299.out | refine bS ?_ GE311.out) | exact HB.out))⟩)
       ·skip
        refine box_step ?hg (N := 9) ?hd (cs := #[.int .i64 0, .int .i64 0]) (t := 26) ?hr ?_; (case hd => rfl); (case hg => rfl); (case hr => first | (go_simp; done) | (go_simp; rfl))
        intro gb323 hg w33 hbox hb
        have n0_ := Am (kB (g := gb297) (o := .cells #[.int .i64 a0_0, .int .i64 a0_1, .int .i64 a0_2] 25 (0, 0)) (by (with_reducible repeat (first | refine kN ?_ _ | refine kD ?_ | refine kA ?_ _)); exact BK297.out) hb)
        have n1_ := Am (kB (g := gb298) (o := .cells #[.int .i64 a1_0, .int .i64 a1_1, .int .i64 a1_2] 25 (0, 0)) (by (with_reducible repeat (first | refine kN ?_ _ | refine kD ?_ | refine kA ?_ _)); exact BK298.out) hb)
        have n2_ := Am (kB (g := gb299) (o := .cells #[.int .i64 a2_0, .int .i64 a2_1] 23 (0, 0)) (by (with_reducible repeat (first | refine kN ?_ _ | refine kD ?_ | refine kA ?_ _)); exact BK299.out) hb)
        have n3_ := Am (kB (g := gb311) (o := .cells #[.int .i64 t308, .int .i64 t309] 26 (0, 0)) (by (with_reducible repeat (first | refine kN ?_ _ | refine kD ?_ | refine kA ?_ _)); exact BK311.out) hb)
        have n4_ := Am (bT (by repeat (first | (with_reducible first | exact HB.out | apply bA | apply bN | apply bD | refine bS ?_ GE297.out | refine bS ?_ GE298.out | refine bS ?_ GE299.out | refine bS ?_ GE311.out) | exact HB.out)) hb)
        have n5_ := Am (hbox)
        have n6_ := Am ((by rw [hg]; exact (bZ (by repeat (first | (with_reducible first | exact HB.out | apply bA | apply bN | apply bD | refine bS ?_ GE297.out | refine bS ?_ GE298.out | refine bS ?_ GE299.out | refine bS ?_ GE311.out) | exact HB.out))) : w.heap.size ≤ gb323))
        have n7_ := Am ((by rw [hg]; exact (bZ (by repeat (first | (with_reducible first | exact HB.out | apply bA | apply bN | apply bD | refine bS ?_ GE297.out | refine bS ?_ GE298.out | refine bS ?_ GE299.out | refine bS ?_ GE311.out) | exact HB.out))) : w.heap.size ≤ gb323))
        have n8_ := Am ((by rw [hg]; exact Nat.ne_of_lt (kL (g := gb297) (o := .cells #[.int .i64 a0_0, .int .i64 a0_1, .int .i64 a0_2] 25 (0, 0)) (by (with_reducible repeat (first | refine kN ?_ _ | refine kD ?_ | refine kA ?_ _)); exact BK297.out)) : gb297 ≠ gb323))
        have n9_ := Am ((by rw [hg]; exact Nat.ne_of_gt (kL (g := gb297) (o := .cells #[.int .i64 a0_0, .int .i64 a0_1, .int .i64 a0_2] 25 (0, 0)) (by (with_reducible repeat (first | refine kN ?_ _ | refine kD ?_ | refine kA ?_ _)); exact BK297.out)) : gb323 ≠ gb297))
        have n10_ := Am ((by rw [hg]; exact Nat.ne_of_lt (kL (g := gb298) (o := .cells #[.int .i64 a1_0, .int .i64 a1_1, .int .i64 a1_2] 25 (0, 0)) (by (with_reducible repeat (first | refine kN ?_ _ | refine kD ?_ | refine kA ?_ _)); exact BK298.out)) : gb298 ≠ gb323))
        have n11_ := Am ((by rw [hg]; exact Nat.ne_of_gt (kL (g := gb298) (o := .cells #[.int .i64 a1_0, .int .i64 a1_1, .int .i64 a1_2] 25 (0, 0)) (by (with_reducible repeat (first | refine kN ?_ _ | refine kD ?_ | refine kA ?_ _)); exact BK298.out)) : gb323 ≠ gb298))
        have n12_ := Am ((by rw [hg]; exact Nat.ne_of_lt (kL (g := gb299) (o := .cells #[.int .i64 a2_0, .int .i64 a2_1] 23 (0, 0)) (by (with_reducible repeat (first | refine kN ?_ _ | refine kD ?_ | refine kA ?_ _)); exact BK299.out)) : gb299 ≠ gb323))
        have n13_ := Am ((by rw [hg]; exact Nat.ne_of_gt (kL (g := gb299) (o := .cells #[.int .i64 a2_0, .int .i64 a2_1] 23 (0, 0)) (by (with_reducible repeat (first | refine kN ?_ _ | refine kD ?_ | refine kA ?_ _)); exact BK299.out)) : gb323 ≠ gb299))
        have n14_ := Am ((by rw [hg]; exact Nat.ne_of_lt (kL (g := gb311) (o := .cells #[.int .i64 t308, .int .i64 t309] 26 (0, 0)) (by (with_reducible repeat (first | refine kN ?_ _ | refine kD ?_ | refine kA ?_ _)); exact BK311.out)) : gb311 ≠ gb323))
        have n15_ := Am ((by rw [hg]; exact Nat.ne_of_gt (kL (g := gb311) (o := .cells #[.int .i64 t308, .int .i64 t309] 26 (0, 0)) (by (with_reducible repeat (first | refine kN ?_ _ | refine kD ?_ | refine kA ?_ _)); exact BK311.out)) : gb323 ≠ gb311))
        clear BK297
        clear BK298
        clear BK299
        clear BK311
        clear HB
        have BK297 := n0_
        have BK298 := n1_
        have BK299 := n2_
        have BK311 := n3_
        have HB := n4_
        have BK323 := n5_
        have GW323 := n6_
        have GE323 := n7_
        have NB297_323 := n8_
        have NB323_297 := n9_
        have NB298_323 := n10_
        have NB323_298 := n11_
        have NB299_323 := n12_
        have NB323_299 := n13_
        have NB311_323 := n14_
        have NB323_311 := n15_
        clear n0_ n1_ n2_ n3_ n4_ n5_ n6_ n7_ n8_ n9_ n10_ n11_ n12_ n13_ n14_ n15_
        clear hb hbox hg
        refine hK.out _ _ ⟨(kC BK297.out 0).trans rfl, (kC BK297.out 1).trans rfl, (kC BK297.out 2).trans rfl, (kC BK298.out 0).trans rfl, (kC BK298.out 1).trans rfl, (kC BK298.out 2).trans rfl, (kC BK299.out 0).trans rfl, (kC BK299.out 1).trans rfl⟩ (fun hHeld => ?_)
        clear hK K
        refine norm_ (a' := ?_) ?_ ?_
        rotate_left
        ·show Act.put _ (some 9) _ = _
         simp only [Act.put, List.setIfInBounds_toArray, List.set_cons_zero, List.set_cons_succ, i64_w, i32_w]
         rfl
        exact norm_ (by first | (simp only [putAll, Act.put, List.setIfInBounds_toArray, List.set_cons_zero, List.set_cons_succ]; done) | (simp only [putAll, Act.put, List.setIfInBounds_toArray, List.set_cons_zero, List.set_cons_succ]; rfl)) (hJ1_3_5_10 (gb323) _ ⟨hHeld, (by (with_reducible repeat (first | refine kN ?_ _ | refine kD ?_ | refine kA ?_ _)); exact BK297.out), (by (with_reducible repeat (first | refine kN ?_ _ | refine kD ?_ | refine kA ?_ _)); exact BK298.out), (by (with_reducible repeat (first | refine kN ?_ _ | refine kD ?_ | refine kA ?_ _)); exact BK299.out), (by (with_reducible repeat (first | refine kN ?_ _ | refine kD ?_ | refine kA ?_ _)); exact BK311.out), (by (with_reducible repeat (first | refine kN ?_ _ | refine kD ?_ | refine kA ?_ _)); exact BK323.out), GW323.out, GE323.out, NB297_323.out, NB323_297.out, NB298_323.out, NB323_298.out, NB299_323.out, NB323_299.out, NB311_323.out, NB323_311.out, (by repeat (first | (with_reducible first | exact HB.out | apply bA | apply bN | apply bD | refine bS ?_ GE297.out | refine bS ?_ GE298.out | refine bS ?_ GE299.out | refine bS ?_ GE311.out | refine bS ?_ GE323.out) | exact HB.out))⟩)
     ·skip
      rintro gb323 w33 ⟨hS_, h0_, h1_, h2_, h3_, h4_, h5_, h6_, h7_, h8_, h9_, h10_, h11_, h12_, h13_, h14_, h15_⟩
      have n0_ : Aside0 (w33.heap[gb297]? = some (.cells #[.int .i64 a0_0, .int .i64 a0_1, .int .i64 a0_2] 25 (0, 0))) := ⟨h0_⟩
      have n1_ : Aside0 (w33.heap[gb298]? = some (.cells #[.int .i64 a1_0, .int .i64 a1_1, .int .i64 a1_2] 25 (0, 0))) := ⟨h1_⟩
      have n2_ : Aside0 (w33.heap[gb299]? = some (.cells #[.int .i64 a2_0, .int .i64 a2_1] 23 (0, 0))) := ⟨h2_⟩
      have n3_ : Aside0 (w33.heap[gb311]? = some (.cells #[.int .i64 t308, .int .i64 t309] 26 (0, 0))) := ⟨h3_⟩
      have n4_ : Aside0 (w33.heap[gb323]? = some (.cells #[.int .i64 0, .int .i64 0] 26 (0, 0))) := ⟨h4_⟩
      have n5_ : Aside0 (w.heap.size ≤ gb323) := ⟨h5_⟩
      have n6_ : Aside0 (w.heap.size ≤ gb323) := ⟨h6_⟩
      have n7_ : Aside0 (gb297 ≠ gb323) := ⟨h7_⟩
      have n8_ : Aside0 (gb323 ≠ gb297) := ⟨h8_⟩
      have n9_ : Aside0 (gb298 ≠ gb323) := ⟨h9_⟩
      have n10_ : Aside0 (gb323 ≠ gb298) := ⟨h10_⟩
      have n11_ : Aside0 (gb299 ≠ gb323) := ⟨h11_⟩
      have n12_ : Aside0 (gb323 ≠ gb299) := ⟨h12_⟩
      have n13_ : Aside0 (gb311 ≠ gb323) := ⟨h13_⟩
      have n14_ : Aside0 (gb323 ≠ gb311) := ⟨h14_⟩
      have n15_ : Aside0 (Below w.heap.size w w33) := ⟨h15_⟩
      clear BK297
      clear BK298
      clear BK299
      clear BK311
      clear HB
      clear h0_ h1_ h2_ h3_ h4_ h5_ h6_ h7_ h8_ h9_ h10_ h11_ h12_ h13_ h14_ h15_
      have BK297 := n0_
      have BK298 := n1_
      have BK299 := n2_
      have BK311 := n3_
      have BK323 := n4_
      have GW323 := n5_
      have GE323 := n6_
      have NB297_323 := n7_
      have NB323_297 := n8_
      have NB298_323 := n9_
      have NB323_298 := n10_
      have NB299_323 := n11_
      have NB323_299 := n12_
      have NB311_323 := n13_
      have NB323_311 := n14_
      have HB := n15_
      clear n0_ n1_ n2_ n3_ n4_ n5_ n6_ n7_ n8_ n9_ n10_ n11_ n12_ n13_ n14_ n15_
      have hHeld : w33.cell? ⟨gb297, 0, none⟩ = some (.int .i64 a0_0) ∧ w33.cell? ⟨gb297, 1, none⟩ = some (.int .i64 a0_1) ∧ w33.cell? ⟨gb297, 2, none⟩ = some (.int .i64 a0_2) ∧ w33.cell? ⟨gb298, 0, none⟩ = some (.int .i64 a1_0) ∧ w33.cell? ⟨gb298, 1, none⟩ = some (.int .i64 a1_1) ∧ w33.cell? ⟨gb298, 2, none⟩ = some (.int .i64 a1_2) ∧ w33.cell? ⟨gb299, 0, none⟩ = some (.int .i64 a2_0) ∧ w33.cell? ⟨gb299, 1, none⟩ = some (.int .i64 a2_1) := hS_
      refine norm_ (a' := ?_) ?_ ?_
      rotate_left
      ·simp only [putAll, Act.put, List.setIfInBounds_toArray, List.set_cons_zero, List.set_cons_succ]
       rfl
      refine one_ (i := 6) (N := some 28) #[true, true, true, true, true, true, true, false, false, false, true, false, false] rfl rfl (one_of HT_.out (by kernel_rfl)) (by decide) (fun K hK => ?_)
      refine goes_ Try.func13 (by kernel_rfl) rfl #[.agg #[.int .i64 t312, .int .i64 t313, .int .i64 t314], .agg #[.int .i64 t315, .int .i64 t316, .int .i64 t317], .agg #[.int .i64 t318, .int .i64 t319]] (by rfl) rfl rfl (by (try simp only [List.map_toArray, List.map_cons, List.map_nil]); first | done | rfl | (simp only [List.length_drop, List.length_take]; rfl)) ?_
      with_reducible refine (impl_NextMeet.calls k t312 t313 t314 t315 t316 t317 t318 t319 t320 t321 t322 _ A11.out).mono ?_
      rintro e w34 ⟨rfl, hb⟩
      refine ⟨_, rfl, ?_⟩
      have n0_ := Am (kB (g := gb297) (o := .cells #[.int .i64 a0_0, .int .i64 a0_1, .int .i64 a0_2] 25 (0, 0)) (by (with_reducible repeat (first | refine kN ?_ _ | refine kD ?_ | refine kA ?_ _)); exact BK297.out) hb)
      have n1_ := Am (kB (g := gb298) (o := .cells #[.int .i64 a1_0, .int .i64 a1_1, .int .i64 a1_2] 25 (0, 0)) (by (with_reducible repeat (first | refine kN ?_ _ | refine kD ?_ | refine kA ?_ _)); exact BK298.out) hb)
      have n2_ := Am (kB (g := gb299) (o := .cells #[.int .i64 a2_0, .int .i64 a2_1] 23 (0, 0)) (by (with_reducible repeat (first | refine kN ?_ _ | refine kD ?_ | refine kA ?_ _)); exact BK299.out) hb)
      have n3_ := Am (kB (g := gb311) (o := .cells #[.int .i64 t308, .int .i64 t309] 26 (0, 0)) (by (with_reducible repeat (first | refine kN ?_ _ | refine kD ?_ | refine kA ?_ _)); exact BK311.out) hb)
      have n4_ := Am (kB (g := gb323) (o := .cells #[.int .i64 0, .int .i64 0] 26 (0, 0)) (by (with_reducible repeat (first | refine kN ?_ _ | refine kD ?_ | refine kA ?_ _)); exact BK323.out) hb)
      have n5_ := Am (bT (by repeat (first | (with_reducible first | exact HB.out | apply bA | apply bN | apply bD | refine bS ?_ GE297.out | refine bS ?_ GE298.out | refine bS ?_ GE299.out | refine bS ?_ GE311.out | refine bS ?_ GE323.out) | exact HB.out)) hb)
      clear BK297
      clear BK298
      clear BK299
      clear BK311
      clear BK323
      clear HB
      have BK297 := n0_
      have BK298 := n1_
      have BK299 := n2_
      have BK311 := n3_
      have BK323 := n4_
      have HB := n5_
      clear n0_ n1_ n2_ n3_ n4_ n5_
      (try clear hb)
      (try clear hb2)
      (try clear hk)
      (try clear hi)
      refine hK.out _ _ ⟨(kC BK297.out 0).trans rfl, (kC BK297.out 1).trans rfl, (kC BK297.out 2).trans rfl, (kC BK298.out 0).trans rfl, (kC BK298.out 1).trans rfl, (kC BK298.out 2).trans rfl, (kC BK299.out 0).trans rfl, (kC BK299.out 1).trans rfl⟩ (fun hHeld => ?_)
      clear hK K
      refine norm_ (a' := ?_) ?_ ?_
      rotate_left
      ·show Act.put _ (some 28) _ = _
       simp only [Act.put, List.setIfInBounds_toArray, List.set_cons_zero, List.set_cons_succ, i64_w, i32_w]
       rfl
      refine pure_ (i := 7) (N := some 21) (v := ?_) (a' := ?_) #[true, true, true, true, true, true, true, true, false, false, true, false, false] rfl rfl (any_of HT_.out (by kernel_rfl)) (fun _ _ _ h => h) (Or.inl ⟨by rfl, ?_⟩) ?_ ?_
      rotate_left
      ·intro w'
       go_simp
       with_reducible rfl
      rotate_left
      ·simp only [Act.put, List.setIfInBounds_toArray, List.set_cons_zero, List.set_cons_succ, i64_w, i32_w]
       rfl
      refine pure_ (i := 8) (N := some 29) (v := ?_) (a' := ?_) #[true, true, true, true, true, true, true, true, true, false, true, false, false] rfl rfl (any_of HT_.out (by kernel_rfl)) (fun _ _ _ h => h) (Or.inl ⟨by rfl, ?_⟩) ?_ ?_
      rotate_left
      ·intro w'
       go_simp
       with_reducible rfl
      rotate_left
      ·simp only [Act.put, List.setIfInBounds_toArray, List.set_cons_zero, List.set_cons_succ, i64_w, i32_w]
       rfl
      refine pure_ (i := 9) (N := some 30) (v := ?_) (a' := ?_) #[true, true, true, true, true, true, true, true, true, true, true, false, false] rfl rfl (any_of HT_.out (by kernel_rfl)) (fun _ _ _ h => h) (Or.inl ⟨by rfl, ?_⟩) ?_ ?_
      rotate_left
      ·intro w'
       go_simp
       with_reducible rfl
      rotate_left
      ·simp only [Act.put, List.setIfInBounds_toArray, List.set_cons_zero, List.set_cons_succ, i64_w, i32_w]
       rfl
      exact norm_ (by first | (simp only [putAll, Act.put, List.setIfInBounds_toArray, List.set_cons_zero, List.set_cons_succ]; done) | (simp only [putAll, Act.put, List.setIfInBounds_toArray, List.set_cons_zero, List.set_cons_succ]; rfl)) (hJ1_3_5_6_10 (gb323) _ ⟨hHeld, (by (with_reducible repeat (first | refine kN ?_ _ | refine kD ?_ | refine kA ?_ _)); exact BK297.out), (by (with_reducible repeat (first | refine kN ?_ _ | refine kD ?_ | refine kA ?_ _)); exact BK298.out), (by (with_reducible repeat (first | refine kN ?_ _ | refine kD ?_ | refine kA ?_ _)); exact BK299.out), (by (with_reducible repeat (first | refine kN ?_ _ | refine kD ?_ | refine kA ?_ _)); exact BK311.out), (by (with_reducible repeat (first | refine kN ?_ _ | refine kD ?_ | refine kA ?_ _)); exact BK323.out), GW323.out, GE323.out, NB297_323.out, NB323_297.out, NB298_323.out, NB323_298.out, NB299_323.out, NB323_299.out, NB311_323.out, NB323_311.out, (by repeat (first | (with_reducible first | exact HB.out | apply bA | apply bN | apply bD | refine bS ?_ GE297.out | refine bS ?_ GE298.out | refine bS ?_ GE299.out | refine bS ?_ GE311.out | refine bS ?_ GE323.out) | exact HB.out))⟩)
    ·skip
     rintro _ w33 ⟨hS_, h0_, h1_, h2_, h3_, h4_⟩
     have n0_ : Aside0 (w33.heap[gb297]? = some (.cells #[.int .i64 a0_0, .int .i64 a0_1, .int .i64 a0_2] 25 (0, 0))) := ⟨h0_⟩
     have n1_ : Aside0 (w33.heap[gb298]? = some (.cells #[.int .i64 a1_0, .int .i64 a1_1, .int .i64 a1_2] 25 (0, 0))) := ⟨h1_⟩
     have n2_ : Aside0 (w33.heap[gb299]? = some (.cells #[.int .i64 a2_0, .int .i64 a2_1] 23 (0, 0))) := ⟨h2_⟩
     have n3_ : Aside0 (w33.heap[gb311]? = some (.cells #[.int .i64 t308, .int .i64 t309] 26 (0, 0))) := ⟨h3_⟩
     have n4_ : Aside0 (Below w.heap.size w w33) := ⟨h4_⟩
     clear BK297
     clear BK298
     clear BK299
     clear BK311
     clear HB
     clear h0_ h1_ h2_ h3_ h4_
     have BK297 := n0_
     have BK298 := n1_
     have BK299 := n2_
     have BK311 := n3_
     have HB := n4_
     clear n0_ n1_ n2_ n3_ n4_
     have hHeld : w33.cell? ⟨gb297, 0, none⟩ = some (.int .i64 a0_0) ∧ w33.cell? ⟨gb297, 1, none⟩ = some (.int .i64 a0_1) ∧ w33.cell? ⟨gb297, 2, none⟩ = some (.int .i64 a0_2) ∧ w33.cell? ⟨gb298, 0, none⟩ = some (.int .i64 a1_0) ∧ w33.cell? ⟨gb298, 1, none⟩ = some (.int .i64 a1_1) ∧ w33.cell? ⟨gb298, 2, none⟩ = some (.int .i64 a1_2) ∧ w33.cell? ⟨gb299, 0, none⟩ = some (.int .i64 a2_0) ∧ w33.cell? ⟨gb299, 1, none⟩ = some (.int .i64 a2_1) := hS_
     refine norm_ (a' := ?_) ?_ ?_
     rotate_left
     ·simp only [putAll, Act.put, List.setIfInBounds_toArray, List.set_cons_zero, List.set_cons_succ]
      rfl
     refine one_ (i := 10) (N := some 9) #[true, true, true, true, true, true, true, true, true, true, true, false, false] rfl rfl (one_of HT_.out (by kernel_rfl)) (by decide) (fun K hK => ?_)
     refine box_step ?hg (N := 9) ?hd (cs := #[.int .i64 0, .int .i64 0]) (t := 26) ?hr ?_; (case hd => rfl); (case hg => rfl); (case hr => first | (go_simp; done) | (go_simp; rfl))
     intro gb323 hg w34 hbox hb
     have n0_ := Am (kB (g := gb297) (o := .cells #[.int .i64 a0_0, .int .i64 a0_1, .int .i64 a0_2] 25 (0, 0)) (by (with_reducible repeat (first | refine kN ?_ _ | refine kD ?_ | refine kA ?_ _)); exact BK297.out) hb)
     have n1_ := Am (kB (g := gb298) (o := .cells #[.int .i64 a1_0, .int .i64 a1_1, .int .i64 a1_2] 25 (0, 0)) (by (with_reducible repeat (first | refine kN ?_ _ | refine kD ?_ | refine kA ?_ _)); exact BK298.out) hb)
     have n2_ := Am (kB (g := gb299) (o := .cells #[.int .i64 a2_0, .int .i64 a2_1] 23 (0, 0)) (by (with_reducible repeat (first | refine kN ?_ _ | refine kD ?_ | refine kA ?_ _)); exact BK299.out) hb)
     have n3_ := Am (kB (g := gb311) (o := .cells #[.int .i64 t308, .int .i64 t309] 26 (0, 0)) (by (with_reducible repeat (first | refine kN ?_ _ | refine kD ?_ | refine kA ?_ _)); exact BK311.out) hb)
     have n4_ := Am (bT (by repeat (first | (with_reducible first | exact HB.out | apply bA | apply bN | apply bD | refine bS ?_ GE297.out | refine bS ?_ GE298.out | refine bS ?_ GE299.out | refine bS ?_ GE311.out) | exact HB.out)) hb)
     have n5_ := Am (hbox)
     have n6_ := Am ((by rw [hg]; exact (bZ (by repeat (first | (with_reducible first | exact HB.out | apply bA | apply bN | apply bD | refine bS ?_ GE297.out | refine bS ?_ GE298.out | refine bS ?_ GE299.out | refine bS ?_ GE311.out) | exact HB.out))) : w.heap.size ≤ gb323))
     have n7_ := Am ((by rw [hg]; exact (bZ (by repeat (first | (with_reducible first | exact HB.out | apply bA | apply bN | apply bD | refine bS ?_ GE297.out | refine bS ?_ GE298.out | refine bS ?_ GE299.out | refine bS ?_ GE311.out) | exact HB.out))) : w.heap.size ≤ gb323))
     have n8_ := Am ((by rw [hg]; exact Nat.ne_of_lt (kL (g := gb297) (o := .cells #[.int .i64 a0_0, .int .i64 a0_1, .int .i64 a0_2] 25 (0, 0)) (by (with_reducible repeat (first | refine kN ?_ _ | refine kD ?_ | refine kA ?_ _)); exact BK297.out)) : gb297 ≠ gb323))
     have n9_ := Am ((by rw [hg]; exact Nat.ne_of_gt (kL (g := gb297) (o := .cells #[.int .i64 a0_0, .int .i64 a0_1, .int .i64 a0_2] 25 (0, 0)) (by (with_reducible repeat (first | refine kN ?_ _ | refine kD ?_ | refine kA ?_ _)); exact BK297.out)) : gb323 ≠ gb297))
     have n10_ := Am ((by rw [hg]; exact Nat.ne_of_lt (kL (g := gb298) (o := .cells #[.int .i64 a1_0, .int .i64 a1_1, .int .i64 a1_2] 25 (0, 0)) (by (with_reducible repeat (first | refine kN ?_ _ | refine kD ?_ | refine kA ?_ _)); exact BK298.out)) : gb298 ≠ gb323))
     have n11_ := Am ((by rw [hg]; exact Nat.ne_of_gt (kL (g := gb298) (o := .cells #[.int .i64 a1_0, .int .i64 a1_1, .int .i64 a1_2] 25 (0, 0)) (by (with_reducible repeat (first | refine kN ?_ _ | refine kD ?_ | refine kA ?_ _)); exact BK298.out)) : gb323 ≠ gb298))
     have n12_ := Am ((by rw [hg]; exact Nat.ne_of_lt (kL (g := gb299) (o := .cells #[.int .i64 a2_0, .int .i64 a2_1] 23 (0, 0)) (by (with_reducible repeat (first | refine kN ?_ _ | refine kD ?_ | refine kA ?_ _)); exact BK299.out)) : gb299 ≠ gb323))
     have n13_ := Am ((by rw [hg]; exact Nat.ne_of_gt (kL (g := gb299) (o := .cells #[.int .i64 a2_0, .int .i64 a2_1] 23 (0, 0)) (by (with_reducible repeat (first | refine kN ?_ _ | refine kD ?_ | refine kA ?_ _)); exact BK299.out)) : gb323 ≠ gb299))
     have n14_ := Am ((by rw [hg]; exact Nat.ne_of_lt (kL (g := gb311) (o := .cells #[.int .i64 t308, .int .i64 t309] 26 (0, 0)) (by (with_reducible repeat (first | refine kN ?_ _ | refine kD ?_ | refine kA ?_ _)); exact BK311.out)) : gb311 ≠ gb323))
     have n15_ := Am ((by rw [hg]; exact Nat.ne_of_gt (kL (g := gb311) (o := .cells #[.int .i64 t308, .int .i64 t309] 26 (0, 0)) (by (with_reducible repeat (first | refine kN ?_ _ | refine kD ?_ | refine kA ?_ _)); exact BK311.out)) : gb323 ≠ gb311))
     clear BK297
     clear BK298
     clear BK299
     clear BK311
     clear HB
     have BK297 := n0_
     have BK298 := n1_
     have BK299 := n2_
     have BK311 := n3_
     have HB := n4_
     have BK323 := n5_
     have GW323 := n6_
     have GE323 := n7_
     have NB297_323 := n8_
     have NB323_297 := n9_
     have NB298_323 := n10_
     have NB323_298 := n11_
     have NB299_323 := n12_
     have NB323_299 := n13_
     have NB311_323 := n14_
     have NB323_311 := n15_
     clear n0_ n1_ n2_ n3_ n4_ n5_ n6_ n7_ n8_ n9_ n10_ n11_ n12_ n13_ n14_ n15_
     clear hb hbox hg
     refine hK.out _ _ ⟨(kC BK297.out 0).trans rfl, (kC BK297.out 1).trans rfl, (kC BK297.out 2).trans rfl, (kC BK298.out 0).trans rfl, (kC BK298.out 1).trans rfl, (kC BK298.out 2).trans rfl, (kC BK299.out 0).trans rfl, (kC BK299.out 1).trans rfl⟩ (fun hHeld => ?_)
     clear hK K
     refine norm_ (a' := ?_) ?_ ?_
     rotate_left
     ·show Act.put _ (some 9) _ = _
      simp only [Act.put, List.setIfInBounds_toArray, List.set_cons_zero, List.set_cons_succ, i64_w, i32_w]
      rfl
     exact norm_ (by first | (simp only [putAll, Act.put, List.setIfInBounds_toArray, List.set_cons_zero, List.set_cons_succ]; done) | (simp only [putAll, Act.put, List.setIfInBounds_toArray, List.set_cons_zero, List.set_cons_succ]; rfl)) (hJ1_3_5_6_10 (gb323) _ ⟨hHeld, (by (with_reducible repeat (first | refine kN ?_ _ | refine kD ?_ | refine kA ?_ _)); exact BK297.out), (by (with_reducible repeat (first | refine kN ?_ _ | refine kD ?_ | refine kA ?_ _)); exact BK298.out), (by (with_reducible repeat (first | refine kN ?_ _ | refine kD ?_ | refine kA ?_ _)); exact BK299.out), (by (with_reducible repeat (first | refine kN ?_ _ | refine kD ?_ | refine kA ?_ _)); exact BK311.out), (by (with_reducible repeat (first | refine kN ?_ _ | refine kD ?_ | refine kA ?_ _)); exact BK323.out), GW323.out, GE323.out, NB297_323.out, NB323_297.out, NB298_323.out, NB323_298.out, NB299_323.out, NB323_299.out, NB311_323.out, NB323_311.out, (by repeat (first | (with_reducible first | exact HB.out | apply bA | apply bN | apply bD | refine bS ?_ GE297.out | refine bS ?_ GE298.out | refine bS ?_ GE299.out | refine bS ?_ GE311.out | refine bS ?_ GE323.out) | exact HB.out))⟩)
   rintro gb323 w34 ⟨hS_, h0_, h1_, h2_, h3_, h4_, h5_, h6_, h7_, h8_, h9_, h10_, h11_, h12_, h13_, h14_, h15_⟩
   have n0_ : Aside0 (w34.heap[gb297]? = some (.cells #[.int .i64 a0_0, .int .i64 a0_1, .int .i64 a0_2] 25 (0, 0))) := ⟨h0_⟩
   have n1_ : Aside0 (w34.heap[gb298]? = some (.cells #[.int .i64 a1_0, .int .i64 a1_1, .int .i64 a1_2] 25 (0, 0))) := ⟨h1_⟩
   have n2_ : Aside0 (w34.heap[gb299]? = some (.cells #[.int .i64 a2_0, .int .i64 a2_1] 23 (0, 0))) := ⟨h2_⟩
   have n3_ : Aside0 (w34.heap[gb311]? = some (.cells #[.int .i64 t308, .int .i64 t309] 26 (0, 0))) := ⟨h3_⟩
   have n4_ : Aside0 (w34.heap[gb323]? = some (.cells #[.int .i64 0, .int .i64 0] 26 (0, 0))) := ⟨h4_⟩
   have n5_ : Aside0 (w.heap.size ≤ gb323) := ⟨h5_⟩
   have n6_ : Aside0 (w.heap.size ≤ gb323) := ⟨h6_⟩
   have n7_ : Aside0 (gb297 ≠ gb323) := ⟨h7_⟩
   have n8_ : Aside0 (gb323 ≠ gb297) := ⟨h8_⟩
   have n9_ : Aside0 (gb298 ≠ gb323) := ⟨h9_⟩
   have n10_ : Aside0 (gb323 ≠ gb298) := ⟨h10_⟩
   have n11_ : Aside0 (gb299 ≠ gb323) := ⟨h11_⟩
   have n12_ : Aside0 (gb323 ≠ gb299) := ⟨h12_⟩
   have n13_ : Aside0 (gb311 ≠ gb323) := ⟨h13_⟩
   have n14_ : Aside0 (gb323 ≠ gb311) := ⟨h14_⟩
   have n15_ : Aside0 (Below w.heap.size w w34) := ⟨h15_⟩
   clear BK297
   clear BK298
   clear BK299
   clear BK311
   clear HB
   clear h0_ h1_ h2_ h3_ h4_ h5_ h6_ h7_ h8_ h9_ h10_ h11_ h12_ h13_ h14_ h15_
   have BK297 := n0_
   have BK298 := n1_
   have BK299 := n2_
   have BK311 := n3_
   have BK323 := n4_
   have GW323 := n5_
   have GE323 := n6_
   have NB297_323 := n7_
   have NB323_297 := n8_
   have NB298_323 := n9_
   have NB323_298 := n10_
   have NB299_323 := n11_
   have NB323_299 := n12_
   have NB311_323 := n13_
   have NB323_311 := n14_
   have HB := n15_
   clear n0_ n1_ n2_ n3_ n4_ n5_ n6_ n7_ n8_ n9_ n10_ n11_ n12_ n13_ n14_ n15_
   have hHeld : w34.cell? ⟨gb297, 0, none⟩ = some (.int .i64 a0_0) ∧ w34.cell? ⟨gb297, 1, none⟩ = some (.int .i64 a0_1) ∧ w34.cell? ⟨gb297, 2, none⟩ = some (.int .i64 a0_2) ∧ w34.cell? ⟨gb298, 0, none⟩ = some (.int .i64 a1_0) ∧ w34.cell? ⟨gb298, 1, none⟩ = some (.int .i64 a1_1) ∧ w34.cell? ⟨gb298, 2, none⟩ = some (.int .i64 a1_2) ∧ w34.cell? ⟨gb299, 0, none⟩ = some (.int .i64 a2_0) ∧ w34.cell? ⟨gb299, 1, none⟩ = some (.int .i64 a2_1) := hS_
   refine norm_ (a' := ?_) ?_ ?_
   rotate_left
   ·simp only [putAll, Act.put, List.setIfInBounds_toArray, List.set_cons_zero, List.set_cons_succ]
    rfl
   refine one_ (i := 11) (N := none) #[true, true, true, true, true, true, true, true, true, true, true, true, false] rfl rfl (one_of HT_.out (by kernel_rfl)) (by decide) (fun K hK => ?_)
   have hs35 : w34.cell? ⟨gb323, 0, none⟩ = some (.int .i64 0) := (kC BK323.out 0).trans rfl
   have hfs35 := kF BK323.out 0
   have hns35_0 := NB297_323.out
   have hns35_1 := NB298_323.out
   have hns35_2 := NB299_323.out
   have hns35_3 := NB311_323.out
   have hms35_0 := NB323_297.out
   have hms35_1 := NB323_298.out
   have hms35_2 := NB323_299.out
   have hms35_3 := NB323_311.out
   have hs36 : w34.cell? ⟨gb323, 1, none⟩ = some (.int .i64 0) := (kC BK323.out 1).trans rfl
   have hfs36 := kF BK323.out 1
   have hns36_0 := NB297_323.out
   have hns36_1 := NB298_323.out
   have hns36_2 := NB299_323.out
   have hns36_3 := NB311_323.out
   have hms36_0 := NB323_297.out
   have hms36_1 := NB323_298.out
   have hms36_2 := NB323_299.out
   have hms36_3 := NB323_311.out
   refine skip_ (w1 := ?_) (by rfl) rfl ?_ ?_
   rotate_left
   ·go_simp
    rfl
   refine hK.out _ _ ⟨((cell_far (p := ⟨gb323, _, none⟩) NB297_323.out _).trans (((cell_far (p := ⟨gb323, _, none⟩) NB297_323.out _).trans (hHeld.1)))), ((cell_far (p := ⟨gb323, _, none⟩) NB297_323.out _).trans (((cell_far (p := ⟨gb323, _, none⟩) NB297_323.out _).trans (hHeld.2.1)))), ((cell_far (p := ⟨gb323, _, none⟩) NB297_323.out _).trans (((cell_far (p := ⟨gb323, _, none⟩) NB297_323.out _).trans (hHeld.2.2.1)))), ((cell_far (p := ⟨gb323, _, none⟩) NB298_323.out _).trans (((cell_far (p := ⟨gb323, _, none⟩) NB298_323.out _).trans (hHeld.2.2.2.1)))), ((cell_far (p := ⟨gb323, _, none⟩) NB298_323.out _).trans (((cell_far (p := ⟨gb323, _, none⟩) NB298_323.out _).trans (hHeld.2.2.2.2.1)))), ((cell_far (p := ⟨gb323, _, none⟩) NB298_323.out _).trans (((cell_far (p := ⟨gb323, _, none⟩) NB298_323.out _).trans (hHeld.2.2.2.2.2.1)))), ((cell_far (p := ⟨gb323, _, none⟩) NB299_323.out _).trans (((cell_far (p := ⟨gb323, _, none⟩) NB299_323.out _).trans (hHeld.2.2.2.2.2.2.1)))), ((cell_far (p := ⟨gb323, _, none⟩) NB299_323.out _).trans (((cell_far (p := ⟨gb323, _, none⟩) NB299_323.out _).trans (hHeld.2.2.2.2.2.2.2))))⟩ (fun hHeld => ?_)
   clear hK K
   refine pure_ (i := 12) (N := some 10) (v := ?_) (a' := ?_) #[true, true, true, true, true, true, true, true, true, true, true, true, true] rfl rfl (any_of HT_.out (by kernel_rfl)) (fun _ _ _ h => h) (Or.inl ⟨by rfl, ?_⟩) ?_ ?_
   rotate_left
   ·intro w'
    go_simp
    with_reducible rfl
   rotate_left
   ·simp only [Act.put, List.setIfInBounds_toArray, List.set_cons_zero, List.set_cons_succ, i64_w, i32_w]
    rfl
   refine done_ (done_of HT_.out (by kernel_rfl)) ?_
   have hnb37 := NB323_297.out
   have hnc37 := NB297_323.out
   have hnb38 := NB323_298.out
   have hnc38 := NB298_323.out
   have hnb39 := NB323_299.out
   have hnc39 := NB299_323.out
   have hnb40 := NB323_311.out
   have hnc40 := NB311_323.out
   have hcz41_0 : w34.cell? ⟨gb323, 0, none⟩ = some (.int .i64 0) := (kC BK323.out 0).trans rfl
   have hcz41_1 : w34.cell? ⟨gb323, 1, none⟩ = some (.int .i64 0) := (kC BK323.out 1).trans rfl
   have hfz41_0 := kF BK323.out 0
   have hfz41_1 := kF BK323.out 1
   have hnb42 := NB311_297.out
   have hnc42 := NB297_311.out
   have hnb43 := NB311_298.out
   have hnc43 := NB298_311.out
   have hnb44 := NB311_299.out
   have hnc44 := NB299_311.out
   have hcz45_0 : w34.cell? ⟨gb311, 0, none⟩ = some (.int .i64 t308) := (kC BK311.out 0).trans rfl
   have hcz45_1 : w34.cell? ⟨gb311, 1, none⟩ = some (.int .i64 t309) := (kC BK311.out 1).trans rfl
   have hfz45_0 := kF BK311.out 0
   have hfz45_1 := kF BK311.out 1
   try go_wp2_with (first | ((with_reducible refine gate_callee (f := 14) rfl ?_); refine goesL_ (some 33) rfl rfl Try.func14 (by kernel_rfl) rfl #[.agg #[.int .i64 t320, .int .i64 t321], .agg #[.int .i64 t308, .int .i64 t309]] rfl (by (try simp only [List.map_toArray, List.map_cons, List.map_nil]); first | done | rfl | (simp only [List.length_drop, List.length_take]; rfl)) ?_; (with_reducible refine (laws_eqTurn.calls t320 t321 t308 t309 true _ A12.out).mono ?_); rintro e w46 ⟨rfl, hb⟩; refine ⟨_, rfl, ?_⟩; have n0_ := Am (kB (g := gb297) (o := .cells #[.int .i64 a0_0, .int .i64 a0_1, .int .i64 a0_2] 25 (0, 0)) (by (with_reducible repeat (first | refine kN ?_ _ | refine kD ?_ | refine kA ?_ _)); refine kR ?_ NB297_323.out _; (with_reducible repeat (first | refine kN ?_ _ | refine kD ?_ | refine kA ?_ _)); refine kR ?_ NB297_323.out _; (with_reducible repeat (first | refine kN ?_ _ | refine kD ?_ | refine kA ?_ _)); exact BK297.out) hb); have n1_ := Am (kB (g := gb298) (o := .cells #[.int .i64 a1_0, .int .i64 a1_1, .int .i64 a1_2] 25 (0, 0)) (by (with_reducible repeat (first | refine kN ?_ _ | refine kD ?_ | refine kA ?_ _)); refine kR ?_ NB298_323.out _; (with_reducible repeat (first | refine kN ?_ _ | refine kD ?_ | refine kA ?_ _)); refine kR ?_ NB298_323.out _; (with_reducible repeat (first | refine kN ?_ _ | refine kD ?_ | refine kA ?_ _)); exact BK298.out) hb); have n2_ := Am (kB (g := gb299) (o := .cells #[.int .i64 a2_0, .int .i64 a2_1] 23 (0, 0)) (by (with_reducible repeat (first | refine kN ?_ _ | refine kD ?_ | refine kA ?_ _)); refine kR ?_ NB299_323.out _; (with_reducible repeat (first | refine kN ?_ _ | refine kD ?_ | refine kA ?_ _)); refine kR ?_ NB299_323.out _; (with_reducible repeat (first | refine kN ?_ _ | refine kD ?_ | refine kA ?_ _)); exact BK299.out) hb); have n3_ := Am (kB (g := gb311) (o := .cells #[.int .i64 t308, .int .i64 t309] 26 (0, 0)) (by (with_reducible repeat (first | refine kN ?_ _ | refine kD ?_ | refine kA ?_ _)); refine kR ?_ NB311_323.out _; (with_reducible repeat (first | refine kN ?_ _ | refine kD ?_ | refine kA ?_ _)); refine kR ?_ NB311_323.out _; (with_reducible repeat (first | refine kN ?_ _ | refine kD ?_ | refine kA ?_ _)); exact BK311.out) hb); have n4_ := Am (kB (g := gb323) (o := .cells #[.int .i64 t320, .int .i64 t321] 26 (0, 0)) (by (with_reducible repeat (first | refine kN ?_ _ | refine kD ?_ | refine kA ?_ _)); refine kP (cs := #[.int .i64 t320, .int .i64 0]) ?_ 1 _ rfl; (with_reducible repeat (first | refine kN ?_ _ | refine kD ?_ | refine kA ?_ _)); refine kP (cs := #[.int .i64 0, .int .i64 0]) ?_ 0 _ rfl; (with_reducible repeat (first | refine kN ?_ _ | refine kD ?_ | refine kA ?_ _)); exact BK323.out) hb); have n5_ := Am (bT (by repeat (first | (with_reducible first | exact HB.out | apply bA | apply bN | apply bD | refine bS ?_ GE297.out | refine bS ?_ GE298.out | refine bS ?_ GE299.out | refine bS ?_ GE311.out | refine bS ?_ GE323.out) | exact HB.out)) hb); clear BK297; clear BK298; clear BK299; clear BK311; clear BK323; clear HB; have BK297 := n0_; have BK298 := n1_; have BK299 := n2_; have BK311 := n3_; have BK323 := n4_; have HB := n5_; clear n0_ n1_ n2_ n3_ n4_ n5_; (try clear hb); (try clear hb2); (try clear hk); (try clear hi)))
   go_ret
   exact ⟨by first | rfl | (simp [errW_none, errW_some] <;> rfl) | (simp [*, errW_none, errW_some] <;> rfl), by repeat (first | (with_reducible first | exact HB.out | apply bA | apply bN | apply bD | refine bS ?_ GE297.out | refine bS ?_ GE298.out | refine bS ?_ GE299.out | refine bS ?_ GE311.out | refine bS ?_ GE323.out) | exact HB.out)⟩
 ·replace c13 := Bool.eq_false_iff.mpr c13
  subst c13
  have H1 : (some false) = some r := by rw [if_neg (show ¬ (false = true) by decide)] at H; exact H
  clear H
  have H := H1
  clear H1
  exact absurd ((Option.some.inj H).trans hlaw.out) (by decide)

/-- THE ONE PURE STATEMENT of laws_FnExactNextMeet: yours. -/
def laws_FnExactNextMeet.Pure : Prop := ∀ (a0_0 : Int) (a0_1 : Int) (a0_2 : Int) (a1_0 : Int) (a1_1 : Int) (a1_2 : Int) (a2_0 : Int) (a2_1 : Int), (Lit.int .i64 a0_0).wf = true → (Lit.int .i64 a0_1).wf = true → (Lit.int .i64 a0_2).wf = true → (Lit.int .i64 a1_0).wf = true → (Lit.int .i64 a1_1).wf = true → (Lit.int .i64 a1_2).wf = true → (Lit.int .i64 a2_0).wf = true → (Lit.int .i64 a2_1).wf = true → ∃ k, laws_FnExactNextMeet.f k a0_0 a0_1 a0_2 a1_0 a1_1 a1_2 a2_0 a2_1 = some true
theorem laws_FnExactNextMeet.walk (P : laws_FnExactNextMeet.Pure) (a0_0 : Int) (a0_1 : Int) (a0_2 : Int) (a1_0 : Int) (a1_1 : Int) (a1_2 : Int) (a2_0 : Int) (a2_1 : Int) (w : World) (w0_0 : (Lit.int .i64 a0_0).wf = true) (w0_1 : (Lit.int .i64 a0_1).wf = true) (w0_2 : (Lit.int .i64 a0_2).wf = true) (w1_0 : (Lit.int .i64 a1_0).wf = true) (w1_1 : (Lit.int .i64 a1_1).wf = true) (w1_2 : (Lit.int .i64 a1_2).wf = true) (w2_0 : (Lit.int .i64 a2_0).wf = true) (w2_1 : (Lit.int .i64 a2_1).wf = true) :
  Calls Try.prog 3 #[.agg #[.int .i64 a0_0, .int .i64 a0_1, .int .i64 a0_2], .agg #[.int .i64 a1_0, .int .i64 a1_1, .int .i64 a1_2], .agg #[.int .i64 a2_0, .int .i64 a2_1]] w fun e w' => e = .returned (.bool true) ∧ Below w.heap.size w w' := by
 obtain ⟨k, h⟩ := P a0_0 a0_1 a0_2 a1_0 a1_1 a1_2 a2_0 a2_1 w0_0 w0_1 w0_2 w1_0 w1_1 w1_2 w2_0 w2_1
 refine (laws_FnExactNextMeet.calls k a0_0 a0_1 a0_2 a1_0 a1_1 a1_2 a2_0 a2_1 true w ⟨rfl⟩ h).mono ?_
 rintro e w' ⟨rfl, hd⟩
 exact ⟨rfl, hd⟩

end Go.Proofs.Ytioggbokjfdoaaa.PFnExactNextMeet
