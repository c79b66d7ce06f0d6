-- WRITTEN BY A PROGRAM OF THIS SESSION (wip/tools): its own text, not the kit's printed one.
import Derived.Test.YtioggbokjfdoaaaPFnExactMeetPlacesx0
import Derived.Test.YtioggbokjfdoaaaPFnExactMeetPlacesx2
import Derived.Test.YtioggbokjfdoaaaPFnExactMeetPlacesx6
import Derived.Test.YtioggbokjfdoaaaPFnExactMeetPlacesx10
namespace Go.Proofs.Ytioggbokjfdoaaa.PFnExactMeetPlaces
open Go.RowKit Go.Proofs.YtioggbokjfdoaaaW.PrintWords Go.Proofs.YtioggbokjfdoaaaW.PrintLast Go.Proofs.YtioggbokjfdoaaaW.PrintMore
attribute [local go_sem] max2_int min2_int max_two min_two max_three min_three max_four min_four   -- for this text's walks alone
set_option linter.unusedVariables false
set_option linter.unusedSimpArgs false

/-! ### laws_FnExactMeetPlaces: function 9 -/
mutual
def laws_FnExactMeetPlaces.j0 : Nat → List (S26) → Bool → List (S26) → Bool → Int → Int → Int → Int → Int → Int → Option (Bool)
 | 0, _, _, _, _, _, _, _, _, _, _ => none
 | k + 1, x5, x6, x7, x37, x409000, x409001, x409002, x410000, x410001, x410002 => if x37 = true then (some false) else ((laws_markTurnS.f k x7 1).bind fun bt431 => ((laws_heldTurnS.f k bt431.2 1).bind fun t433 => (if t433 < 0 then (some false) else (if t433 = bt431.1 then ((laws_toHand.f x409000 x409001 x409002).bind fun bt434 => ((laws_toHand.f x410000 x410001 x410002).bind fun bt437 => ((impl_MeetPlaces.f k bt434.1 bt434.2.1 bt434.2.2 bt437.1 bt437.2.1 bt437.2.2).bind fun bt440 => ((laws_eqTurnS.f k bt440.1 x5).bind fun t444 => (if t444 = true then (laws_FnExactMeetPlaces.j1 k bt431.2 bt431.1 (bt440.2 != x6)) else (laws_FnExactMeetPlaces.j1 k bt431.2 bt431.1 true)))))) else (some false)))))
def laws_FnExactMeetPlaces.j1 : Nat → List (S26) → Int → Bool → Option (Bool)
 | 0, _, _, _ => none
 | k + 1, x7, x9, x65 => if x65 = true then (some false) else ((laws_heldTurnS.f k x7 1).bind fun t445 => (if t445 < 0 then (some false) else (if t445 = x9 then (some true) else (some false))))
end
def laws_FnExactMeetPlaces.f (k : Nat) (a0_0 : Int) (a0_1 : Int) (a0_2 : Int) (a1_0 : Int) (a1_1 : Int) (a1_2 : Int) : Option (Bool) := (laws_toHand.f a0_0 a0_1 a0_2).bind fun bt410 => ((laws_toHand.f a1_0 a1_1 a1_2).bind fun bt413 => ((spec_MeetPlaces.f k bt410.1 bt410.2.1 bt410.2.2 bt413.1 bt413.2.1 bt413.2.2).bind fun bt416 => ((laws_toHand.f a0_0 a0_1 a0_2).bind fun bt420 => ((laws_toHand.f a1_0 a1_1 a1_2).bind fun bt423 => ((impl_MeetPlaces.f k bt420.1 bt420.2.1 bt420.2.2 bt423.1 bt423.2.1 bt423.2.2).bind fun bt426 => ((laws_eqTurnS.f k bt426.1 bt416.1).bind fun t430 => (if t430 = true then (laws_FnExactMeetPlaces.j0 k bt416.1 bt416.2 bt426.1 (bt426.2 != bt416.2) a0_0 a0_1 a0_2 a1_0 a1_1 a1_2) else (laws_FnExactMeetPlaces.j0 k bt416.1 bt416.2 bt426.1 true a0_0 a0_1 a0_2 a1_0 a1_1 a1_2))))))))
theorem laws_FnExactMeetPlaces.mono_l : ∀ k, (∀ y0 y1 y2 y3 y4 y5 y6 y7 y8 y9, LeO (laws_FnExactMeetPlaces.j0 k y0 y1 y2 y3 y4 y5 y6 y7 y8 y9) (laws_FnExactMeetPlaces.j0 (k + 1) y0 y1 y2 y3 y4 y5 y6 y7 y8 y9)) ∧ (∀ y0 y1 y2, LeO (laws_FnExactMeetPlaces.j1 k y0 y1 y2) (laws_FnExactMeetPlaces.j1 (k + 1) y0 y1 y2))
 | 0 => ⟨fun _ _ _ _ _ _ _ _ _ _ r h => by simp [laws_FnExactMeetPlaces.j0] at h, fun _ _ _ r h => by simp [laws_FnExactMeetPlaces.j1] at h⟩
 | k + 1 => by
  obtain ⟨ih0, ih1⟩ := laws_FnExactMeetPlaces.mono_l k
  refine ⟨?_, ?_⟩
  ·intro y0 y1 y2 y3 y4 y5 y6 y7 y8 y9
   unfold laws_FnExactMeetPlaces.j0
   repeat' first
   | (with_reducible exact ih0 _ _ _ _ _ _ _ _ _ _)
   | (with_reducible exact ih1 _ _ _)
   | (with_reducible exact impl_MeetPlaces.mono _ _ _ _ _ _ _)
   | (with_reducible exact laws_eqTurnS.mono _ _ _)
   | (with_reducible exact laws_heldTurnS.mono _ _ _)
   | (with_reducible exact laws_markTurnS.mono _ _ _)
   | (with_reducible exact spec_MeetPlaces.mono _ _ _ _ _ _ _)
   | (with_reducible exact LeO.refl _)
   | (with_reducible exact LeO.none _)
   | (with_reducible refine LeO.ite ?_ ?_)
   | (with_reducible refine LeO.bind ?_ (fun _ => ?_))
   | exact ih0 _ _ _ _ _ _ _ _ _ _
   | exact ih1 _ _ _
   | exact impl_MeetPlaces.mono _ _ _ _ _ _ _
   | exact laws_eqTurnS.mono _ _ _
   | exact laws_heldTurnS.mono _ _ _
   | exact laws_markTurnS.mono _ _ _
   | exact spec_MeetPlaces.mono _ _ _ _ _ _ _
   | exact LeO.none _
   | refine LeO.ite ?_ ?_
   | refine LeO.bind ?_ (fun _ => ?_)
  ·intro y0 y1 y2
   unfold laws_FnExactMeetPlaces.j1
   repeat' first
   | (with_reducible exact ih0 _ _ _ _ _ _ _ _ _ _)
   | (with_reducible exact ih1 _ _ _)
   | (with_reducible exact impl_MeetPlaces.mono _ _ _ _ _ _ _)
   | (with_reducible exact laws_eqTurnS.mono _ _ _)
   | (with_reducible exact laws_heldTurnS.mono _ _ _)
   | (with_reducible exact laws_markTurnS.mono _ _ _)
   | (with_reducible exact spec_MeetPlaces.mono _ _ _ _ _ _ _)
   | (with_reducible exact LeO.refl _)
   | (with_reducible exact LeO.none _)
   | (with_reducible refine LeO.ite ?_ ?_)
   | (with_reducible refine LeO.bind ?_ (fun _ => ?_))
   | exact ih0 _ _ _ _ _ _ _ _ _ _
   | exact ih1 _ _ _
   | exact impl_MeetPlaces.mono _ _ _ _ _ _ _
   | exact laws_eqTurnS.mono _ _ _
   | exact laws_heldTurnS.mono _ _ _
   | exact laws_markTurnS.mono _ _ _
   | exact spec_MeetPlaces.mono _ _ _ _ _ _ _
   | exact LeO.none _
   | refine LeO.ite ?_ ?_
   | refine LeO.bind ?_ (fun _ => ?_)
theorem laws_FnExactMeetPlaces.mono : ∀ a0 a1 a2 a3 a4 a5 k, LeO (laws_FnExactMeetPlaces.f k a0 a1 a2 a3 a4 a5) (laws_FnExactMeetPlaces.f (k + 1) a0 a1 a2 a3 a4 a5) := by
 intro a0 a1 a2 a3 a4 a5 k
 obtain ⟨ih0, ih1⟩ := laws_FnExactMeetPlaces.mono_l k
 unfold laws_FnExactMeetPlaces.f
 repeat' first
   | (with_reducible exact ih0 _ _ _ _ _ _ _ _ _ _)
   | (with_reducible exact ih1 _ _ _)
   | (with_reducible exact impl_MeetPlaces.mono _ _ _ _ _ _ _)
   | (with_reducible exact laws_eqTurnS.mono _ _ _)
   | (with_reducible exact laws_heldTurnS.mono _ _ _)
   | (with_reducible exact laws_markTurnS.mono _ _ _)
   | (with_reducible exact spec_MeetPlaces.mono _ _ _ _ _ _ _)
   | (with_reducible exact LeO.refl _)
   | (with_reducible exact LeO.none _)
   | (with_reducible refine LeO.ite ?_ ?_)
   | (with_reducible refine LeO.bind ?_ (fun _ => ?_))
   | exact ih0 _ _ _ _ _ _ _ _ _ _
   | exact ih1 _ _ _
   | exact impl_MeetPlaces.mono _ _ _ _ _ _ _
   | exact laws_eqTurnS.mono _ _ _
   | exact laws_heldTurnS.mono _ _ _
   | exact laws_markTurnS.mono _ _ _
   | exact spec_MeetPlaces.mono _ _ _ _ _ _ _
   | exact LeO.none _
   | refine LeO.ite ?_ ?_
   | refine LeO.bind ?_ (fun _ => ?_)
def laws_FnExactMeetPlaces.T1 : Bool × List (List Nat × List Nat) := (true, [([], []), ([0], [0]), ([], []), ([2, 1], [2]), ([1, 3, 3], [1, 3]), ([4], [4]), ([5], [5]), ([5], [5]), ([6, 4, 0, 1, 2, 3, 4, 5, 6], [6]), ([7, 8, 0, 1, 2, 3, 4, 5, 6, 7, 8], [7])])
def laws_FnExactMeetPlaces.B1 : List Nat := [0, 1, 0, 7, 15, 31, 63, 63, 127, 511]
theorem laws_FnExactMeetPlaces.tab1 : rtab .any (opsOf Try.f9 1) = laws_FnExactMeetPlaces.T1 := by kernel_rfl
theorem laws_FnExactMeetPlaces.bits1 : waitsOk laws_FnExactMeetPlaces.T1.2 laws_FnExactMeetPlaces.B1 = true := by kernel_rfl
def laws_FnExactMeetPlaces.T2 : Bool × List (List Nat × List Nat) := (true, [([], []), ([0], [0]), ([], []), ([2, 1], [2]), ([1, 3, 3], [1, 3]), ([4], [4]), ([5], [5]), ([5], [5]), ([6, 4, 0, 1, 2, 3, 4, 5, 6], [6]), ([7, 8, 0, 1, 2, 3, 4, 5, 6, 7, 8], [7])])
def laws_FnExactMeetPlaces.B2 : List Nat := [0, 1, 0, 7, 15, 31, 63, 63, 127, 511]
theorem laws_FnExactMeetPlaces.tab2 : rtab .any (opsOf Try.f9 2) = laws_FnExactMeetPlaces.T2 := by kernel_rfl
theorem laws_FnExactMeetPlaces.bits2 : waitsOk laws_FnExactMeetPlaces.T2.2 laws_FnExactMeetPlaces.B2 = true := by kernel_rfl
def laws_FnExactMeetPlaces.T13 : Bool × List (List Nat × List Nat) := (true, [([], []), ([0], [0]), ([], []), ([2, 1], [2]), ([1, 3, 3], [1, 3]), ([4], [4]), ([5], [5]), ([5], [5]), ([6, 4, 0, 1, 2, 3, 4, 5, 6], [6]), ([7, 8, 0, 1, 2, 3, 4, 5, 6, 7, 8], [7])])
def laws_FnExactMeetPlaces.B13 : List Nat := [0, 1, 0, 7, 15, 31, 63, 63, 127, 511]
theorem laws_FnExactMeetPlaces.tab13 : rtab .any (opsOf Try.f9 13) = laws_FnExactMeetPlaces.T13 := by kernel_rfl
theorem laws_FnExactMeetPlaces.bits13 : waitsOk laws_FnExactMeetPlaces.T13.2 laws_FnExactMeetPlaces.B13 = true := by kernel_rfl
theorem laws_FnExactMeetPlaces.j0_no {k_} {y0} {y1} {y2} {y4} {y5} {y6} {y7} {y8} {y9} {r : Bool} (h : laws_FnExactMeetPlaces.j0 k_ y0 y1 y2 true y4 y5 y6 y7 y8 y9 = some r) : r = false := by
 cases k_ with
 | zero => simp [laws_FnExactMeetPlaces.j0] at h
 | succ k_ =>
  have e : laws_FnExactMeetPlaces.j0 (k_ + 1) y0 y1 y2 true y4 y5 y6 y7 y8 y9 = some false := by simp only [laws_FnExactMeetPlaces.j0]; first | rfl | (rw [if_pos rfl]) | simp
  rw [e] at h
  exact (Option.some.inj h).symm
theorem laws_FnExactMeetPlaces.j1_no {k_} {y0} {y1} {r : Bool} (h : laws_FnExactMeetPlaces.j1 k_ y0 y1 true = some r) : r = false := by
 cases k_ with
 | zero => simp [laws_FnExactMeetPlaces.j1] at h
 | succ k_ =>
  have e : laws_FnExactMeetPlaces.j1 (k_ + 1) y0 y1 true = some false := by simp only [laws_FnExactMeetPlaces.j1]; first | rfl | (rw [if_pos rfl]) | simp
  rw [e] at h
  exact (Option.some.inj h).symm
set_option maxHeartbeats 8000000 in
set_option maxRecDepth 100000 in
theorem laws_FnExactMeetPlaces.calls (k : Nat) (a0_0 : Int) (a0_1 : Int) (a0_2 : Int) (a1_0 : Int) (a1_1 : Int) (a1_2 : Int) (r : Bool) (w : World) (hlaw : Aside0 (r = true)) (h : laws_FnExactMeetPlaces.f k a0_0 a0_1 a0_2 a1_0 a1_1 a1_2 = some r) :
  Calls Try.prog 9 #[.agg #[.int .i64 a0_0, .int .i64 a0_1, .int .i64 a0_2], .agg #[.int .i64 a1_0, .int .i64 a1_1, .int .i64 a1_2]] w fun e w' => e = .returned (.bool r) ∧ Below w.heap.size w w' := by
 have hu25 := Try.underlying25
 have HB := Am (Below.refl w.heap.size w)
 have H : ((laws_toHand.f a0_0 a0_1 a0_2).bind fun bt410 => ((laws_toHand.f a1_0 a1_1 a1_2).bind fun bt413 => ((spec_MeetPlaces.f k bt410.1 bt410.2.1 bt410.2.2 bt413.1 bt413.2.1 bt413.2.2).bind fun bt416 => ((laws_toHand.f a0_0 a0_1 a0_2).bind fun bt420 => ((laws_toHand.f a1_0 a1_1 a1_2).bind fun bt423 => ((impl_MeetPlaces.f k bt420.1 bt420.2.1 bt420.2.2 bt423.1 bt423.2.1 bt423.2.2).bind fun bt426 => ((laws_eqTurnS.f k bt426.1 bt416.1).bind fun t430 => (if t430 = true then (laws_FnExactMeetPlaces.j0 k bt416.1 bt416.2 bt426.1 (bt426.2 != bt416.2) a0_0 a0_1 a0_2 a1_0 a1_1 a1_2) else (laws_FnExactMeetPlaces.j0 k bt416.1 bt416.2 bt426.1 true a0_0 a0_1 a0_2 a1_0 a1_1 a1_2))))))))) = some r := h
 clear h
 replace H := Option.bind_eq_some_iff.mp H
 obtain ⟨⟨t410, t411, t412⟩, A30, H⟩ := H
 replace H : ((laws_toHand.f a1_0 a1_1 a1_2).bind fun bt413 => ((spec_MeetPlaces.f k t410 t411 t412 bt413.1 bt413.2.1 bt413.2.2).bind fun bt416 => ((laws_toHand.f a0_0 a0_1 a0_2).bind fun bt420 => ((laws_toHand.f a1_0 a1_1 a1_2).bind fun bt423 => ((impl_MeetPlaces.f k bt420.1 bt420.2.1 bt420.2.2 bt423.1 bt423.2.1 bt423.2.2).bind fun bt426 => ((laws_eqTurnS.f k bt426.1 bt416.1).bind fun t430 => (if t430 = true then (laws_FnExactMeetPlaces.j0 k bt416.1 bt416.2 bt426.1 (bt426.2 != bt416.2) a0_0 a0_1 a0_2 a1_0 a1_1 a1_2) else (laws_FnExactMeetPlaces.j0 k bt416.1 bt416.2 bt426.1 true a0_0 a0_1 a0_2 a1_0 a1_1 a1_2)))))))) = some r := H
 have A3 := Am A30
 clear A30
 replace H := Option.bind_eq_some_iff.mp H
 obtain ⟨⟨t413, t414, t415⟩, A40, H⟩ := H
 replace H : ((spec_MeetPlaces.f k t410 t411 t412 t413 t414 t415).bind fun bt416 => ((laws_toHand.f a0_0 a0_1 a0_2).bind fun bt420 => ((laws_toHand.f a1_0 a1_1 a1_2).bind fun bt423 => ((impl_MeetPlaces.f k bt420.1 bt420.2.1 bt420.2.2 bt423.1 bt423.2.1 bt423.2.2).bind fun bt426 => ((laws_eqTurnS.f k bt426.1 bt416.1).bind fun t430 => (if t430 = true then (laws_FnExactMeetPlaces.j0 k bt416.1 bt416.2 bt426.1 (bt426.2 != bt416.2) a0_0 a0_1 a0_2 a1_0 a1_1 a1_2) else (laws_FnExactMeetPlaces.j0 k bt416.1 bt416.2 bt426.1 true a0_0 a0_1 a0_2 a1_0 a1_1 a1_2))))))) = some r := H
 have A4 := Am A40
 clear A40
 replace H := Option.bind_eq_some_iff.mp H
 obtain ⟨⟨t416, t419⟩, A50, H⟩ := H
 replace H : ((laws_toHand.f a0_0 a0_1 a0_2).bind fun bt420 => ((laws_toHand.f a1_0 a1_1 a1_2).bind fun bt423 => ((impl_MeetPlaces.f k bt420.1 bt420.2.1 bt420.2.2 bt423.1 bt423.2.1 bt423.2.2).bind fun bt426 => ((laws_eqTurnS.f k bt426.1 t416).bind fun t430 => (if t430 = true then (laws_FnExactMeetPlaces.j0 k t416 t419 bt426.1 (bt426.2 != t419) a0_0 a0_1 a0_2 a1_0 a1_1 a1_2) else (laws_FnExactMeetPlaces.j0 k t416 t419 bt426.1 true a0_0 a0_1 a0_2 a1_0 a1_1 a1_2)))))) = some r := H
 have A5 := Am A50
 clear A50
 replace H := Option.bind_eq_some_iff.mp H
 obtain ⟨⟨t420, t421, t422⟩, A60, H⟩ := H
 replace H : ((laws_toHand.f a1_0 a1_1 a1_2).bind fun bt423 => ((impl_MeetPlaces.f k t420 t421 t422 bt423.1 bt423.2.1 bt423.2.2).bind fun bt426 => ((laws_eqTurnS.f k bt426.1 t416).bind fun t430 => (if t430 = true then (laws_FnExactMeetPlaces.j0 k t416 t419 bt426.1 (bt426.2 != t419) a0_0 a0_1 a0_2 a1_0 a1_1 a1_2) else (laws_FnExactMeetPlaces.j0 k t416 t419 bt426.1 true a0_0 a0_1 a0_2 a1_0 a1_1 a1_2))))) = some r := H
 have A6 := Am A60
 clear A60
 replace H := Option.bind_eq_some_iff.mp H
 obtain ⟨⟨t423, t424, t425⟩, A70, H⟩ := H
 replace H : ((impl_MeetPlaces.f k t420 t421 t422 t423 t424 t425).bind fun bt426 => ((laws_eqTurnS.f k bt426.1 t416).bind fun t430 => (if t430 = true then (laws_FnExactMeetPlaces.j0 k t416 t419 bt426.1 (bt426.2 != t419) a0_0 a0_1 a0_2 a1_0 a1_1 a1_2) else (laws_FnExactMeetPlaces.j0 k t416 t419 bt426.1 true a0_0 a0_1 a0_2 a1_0 a1_1 a1_2)))) = some r := H
 have A7 := Am A70
 clear A70
 replace H := Option.bind_eq_some_iff.mp H
 obtain ⟨⟨t426, t429⟩, A80, H⟩ := H
 replace H : ((laws_eqTurnS.f k t426 t416).bind fun t430 => (if t430 = true then (laws_FnExactMeetPlaces.j0 k t416 t419 t426 (t429 != t419) a0_0 a0_1 a0_2 a1_0 a1_1 a1_2) else (laws_FnExactMeetPlaces.j0 k t416 t419 t426 true a0_0 a0_1 a0_2 a1_0 a1_1 a1_2))) = some r := H
 have A8 := Am A80
 clear A80
 have HC9 := Am H
 clear H
 go_enter Try.func9, Try.ntmps9
 try go_wp2_with (first | ((with_reducible refine gate_dst (N := 2) rfl ?_); refine box_event ?hg (N := 2) ?hd (cs := #[.int .i64 a0_0, .int .i64 a0_1, .int .i64 a0_2]) (t := 25) ?hr ?_; (case hd => rfl); (case hg => rfl); (case hr => first | (go_simp; done) | (go_simp; rfl)); intro gb408 hg w10 hbox hb; have n0_ := Am (bT (by repeat (first | (with_reducible first | exact HB.out | apply bA | apply bN | apply bD) | exact HB.out)) hb); have n1_ := Am (hbox); have n2_ := Am ((by rw [hg]; exact (bZ (by repeat (first | (with_reducible first | exact HB.out | apply bA | apply bN | apply bD) | exact HB.out))) : w.heap.size ≤ gb408)); have n3_ := Am ((by rw [hg]; exact (bZ (by repeat (first | (with_reducible first | exact HB.out | apply bA | apply bN | apply bD) | exact HB.out))) : w.heap.size ≤ gb408)); clear HB; have HB := n0_; have BK408 := n1_; have GW408 := n2_; have GE408 := n3_; clear n0_ n1_ n2_ n3_; clear hb hbox hg) | ((with_reducible refine gate_dst (N := 3) rfl ?_); refine box_event ?hg (N := 3) ?hd (cs := #[.int .i64 a1_0, .int .i64 a1_1, .int .i64 a1_2]) (t := 25) ?hr ?_; (case hd => rfl); (case hg => rfl); (case hr => first | (go_simp; done) | (go_simp; rfl)); intro gb409 hg w11 hbox hb; have n0_ := Am (kB (g := gb408) (o := .cells #[.int .i64 a0_0, .int .i64 a0_1, .int .i64 a0_2] 25 (0, 0)) (by (with_reducible repeat (first | refine kN ?_ _ | refine kD ?_ | refine kA ?_ _)); exact BK408.out) hb); have n1_ := Am (bT (by repeat (first | (with_reducible first | exact HB.out | apply bA | apply bN | apply bD | refine bS ?_ GE408.out) | exact HB.out)) hb); have n2_ := Am (hbox); have n3_ := Am ((by rw [hg]; exact (bZ (by repeat (first | (with_reducible first | exact HB.out | apply bA | apply bN | apply bD | refine bS ?_ GE408.out) | exact HB.out))) : w.heap.size ≤ gb409)); have n4_ := Am ((by rw [hg]; exact (bZ (by repeat (first | (with_reducible first | exact HB.out | apply bA | apply bN | apply bD | refine bS ?_ GE408.out) | exact HB.out))) : w.heap.size ≤ gb409)); have n5_ := Am ((by rw [hg]; exact Nat.ne_of_lt (kL (g := gb408) (o := .cells #[.int .i64 a0_0, .int .i64 a0_1, .int .i64 a0_2] 25 (0, 0)) (by (with_reducible repeat (first | refine kN ?_ _ | refine kD ?_ | refine kA ?_ _)); exact BK408.out)) : gb408 ≠ gb409)); have n6_ := Am ((by rw [hg]; exact Nat.ne_of_gt (kL (g := gb408) (o := .cells #[.int .i64 a0_0, .int .i64 a0_1, .int .i64 a0_2] 25 (0, 0)) (by (with_reducible repeat (first | refine kN ?_ _ | refine kD ?_ | refine kA ?_ _)); exact BK408.out)) : gb409 ≠ gb408)); clear BK408; clear HB; have BK408 := n0_; have HB := n1_; have BK409 := n2_; have GW409 := n3_; have GE409 := n4_; have NB408_409 := n5_; have NB409_408 := n6_; clear n0_ n1_ n2_ n3_ n4_ n5_ n6_; clear hb hbox hg))
 have n0_ := Am (kD BK408.out)
 have n1_ := Am (kD BK409.out)
 have n2_ := Am (bD HB.out)
 clear BK408
 clear BK409
 clear HB
 have BK408 := n0_
 have BK409 := n1_
 have HB := n2_
 clear n0_ n1_ n2_
 refine start_ (n := 10) (S := fun w' => w'.cell? ⟨gb408, 0, none⟩ = some (.int .i64 a0_0) ∧ w'.cell? ⟨gb408, 1, none⟩ = some (.int .i64 a0_1) ∧ w'.cell? ⟨gb408, 2, none⟩ = some (.int .i64 a0_2) ∧ w'.cell? ⟨gb409, 0, none⟩ = some (.int .i64 a1_0) ∧ w'.cell? ⟨gb409, 1, none⟩ = some (.int .i64 a1_1) ∧ w'.cell? ⟨gb409, 2, none⟩ = some (.int .i64 a1_2)) (ds := []) #[false, false, false, false, false, false, false, false, false, false] (by kernel_rfl) rfl rfl ⟨(kC BK408.out 0).trans rfl, (kC BK408.out 1).trans rfl, (kC BK408.out 2).trans rfl, (kC BK409.out 0).trans rfl, (kC BK409.out 1).trans rfl, (kC BK409.out 2).trans rfl⟩ (fun hHeld => ?_); refine with_tabW laws_FnExactMeetPlaces.tab1 laws_FnExactMeetPlaces.bits1 (fun HT_ HW_ => ?_)
 generalize w11.drew = w12 at BK408 BK409 HB hHeld ⊢
 refine take_ (i := 0) (N := some 14) (v := ?_) (a' := ?_) #[true, false, false, false, false, false, false, false, false, false] rfl rfl (take_ofW HT_.out HW_.out (by kernel_rfl)) (fun _ _ _ h => h) (Or.inl ⟨by rfl, ?_⟩) hHeld ?_ ?_
 rotate_left
 ·rintro w' ⟨s0, s1, s2, s3, s4, s5⟩
  go_simp
  with_reducible rfl
 rotate_left
 ·simp only [Act.put, List.setIfInBounds_toArray, List.set_cons_zero, List.set_cons_succ, i64_w, i32_w]
  rfl
 refine take_ (i := 2) (N := some 16) (v := ?_) (a' := ?_) #[true, false, true, false, false, false, false, false, false, false] rfl rfl (take_ofW HT_.out HW_.out (by kernel_rfl)) (fun _ _ _ h => h) (Or.inl ⟨by rfl, ?_⟩) hHeld ?_ ?_
 rotate_left
 ·rintro w' ⟨s0, s1, s2, s3, s4, s5⟩
  go_simp
  with_reducible rfl
 rotate_left
 ·simp only [Act.put, List.setIfInBounds_toArray, List.set_cons_zero, List.set_cons_succ, i64_w, i32_w]
  rfl
 refine one_ (i := 1) (N := some 15) #[true, true, true, false, false, false, false, false, false, false] rfl rfl (one_of HT_.out (by kernel_rfl)) (by decide) (fun K hK => ?_)
 refine goes_ Try.func11 (by kernel_rfl) rfl #[.agg #[.int .i64 a0_0, .int .i64 a0_1, .int .i64 a0_2]] (by rfl) rfl rfl (by (try simp only [List.map_toArray, List.map_cons, List.map_nil]); first | done | rfl | (simp only [List.length_drop, List.length_take]; rfl)) ?_
 with_reducible refine (laws_toHand.calls a0_0 a0_1 a0_2 t410 t411 t412 _ A3.out).mono ?_
 rintro e w13 ⟨rfl, hb⟩
 refine ⟨_, rfl, ?_⟩
 have n0_ := Am (kB (g := gb408) (o := .cells #[.int .i64 a0_0, .int .i64 a0_1, .int .i64 a0_2] 25 (0, 0)) (by (with_reducible repeat (first | refine kN ?_ _ | refine kD ?_ | refine kA ?_ _)); exact BK408.out) hb)
 have n1_ := Am (kB (g := gb409) (o := .cells #[.int .i64 a1_0, .int .i64 a1_1, .int .i64 a1_2] 25 (0, 0)) (by (with_reducible repeat (first | refine kN ?_ _ | refine kD ?_ | refine kA ?_ _)); exact BK409.out) hb)
 have n2_ := Am (bT (by repeat (first | (with_reducible first | exact HB.out | apply bA | apply bN | apply bD | refine bS ?_ GE408.out | refine bS ?_ GE409.out) | exact HB.out)) hb)
 clear BK408
 clear BK409
 clear HB
 have BK408 := n0_
 have BK409 := n1_
 have HB := n2_
 clear n0_ n1_ n2_
 (try clear hb)
 (try clear hb2)
 (try clear hk)
 (try clear hi)
 refine hK.out _ _ ⟨(kC BK408.out 0).trans rfl, (kC BK408.out 1).trans rfl, (kC BK408.out 2).trans rfl, (kC BK409.out 0).trans rfl, (kC BK409.out 1).trans rfl, (kC BK409.out 2).trans rfl⟩ (fun hHeld => ?_)
 clear hK K
 refine norm_ (a' := ?_) ?_ ?_
 rotate_left
 ·show Act.put _ (some 15) _ = _
  simp only [Act.put, List.setIfInBounds_toArray, List.set_cons_zero, List.set_cons_succ, i64_w, i32_w]
  rfl
 refine one_ (i := 3) (N := some 17) #[true, true, true, true, false, false, false, false, false, false] rfl rfl (one_of HT_.out (by kernel_rfl)) (by decide) (fun K hK => ?_)
 refine goes_ Try.func11 (by kernel_rfl) rfl #[.agg #[.int .i64 a1_0, .int .i64 a1_1, .int .i64 a1_2]] (by rfl) rfl rfl (by (try simp only [List.map_toArray, List.map_cons, List.map_nil]); first | done | rfl | (simp only [List.length_drop, List.length_take]; rfl)) ?_
 with_reducible refine (laws_toHand.calls a1_0 a1_1 a1_2 t413 t414 t415 _ A4.out).mono ?_
 rintro e w14 ⟨rfl, hb⟩
 refine ⟨_, rfl, ?_⟩
 have n0_ := Am (kB (g := gb408) (o := .cells #[.int .i64 a0_0, .int .i64 a0_1, .int .i64 a0_2] 25 (0, 0)) (by (with_reducible repeat (first | refine kN ?_ _ | refine kD ?_ | refine kA ?_ _)); exact BK408.out) hb)
 have n1_ := Am (kB (g := gb409) (o := .cells #[.int .i64 a1_0, .int .i64 a1_1, .int .i64 a1_2] 25 (0, 0)) (by (with_reducible repeat (first | refine kN ?_ _ | refine kD ?_ | refine kA ?_ _)); exact BK409.out) hb)
 have n2_ := Am (bT (by repeat (first | (with_reducible first | exact HB.out | apply bA | apply bN | apply bD | refine bS ?_ GE408.out | refine bS ?_ GE409.out) | exact HB.out)) hb)
 clear BK408
 clear BK409
 clear HB
 have BK408 := n0_
 have BK409 := n1_
 have HB := n2_
 clear n0_ n1_ n2_
 (try clear hb)
 (try clear hb2)
 (try clear hk)
 (try clear hi)
 refine hK.out _ _ ⟨(kC BK408.out 0).trans rfl, (kC BK408.out 1).trans rfl, (kC BK408.out 2).trans rfl, (kC BK409.out 0).trans rfl, (kC BK409.out 1).trans rfl, (kC BK409.out 2).trans rfl⟩ (fun hHeld => ?_)
 clear hK K
 refine norm_ (a' := ?_) ?_ ?_
 rotate_left
 ·show Act.put _ (some 17) _ = _
  simp only [Act.put, List.setIfInBounds_toArray, List.set_cons_zero, List.set_cons_succ, i64_w, i32_w]
  rfl
 refine one_ (i := 4) (N := some 18) #[true, true, true, true, true, false, false, false, false, false] rfl rfl (one_of HT_.out (by kernel_rfl)) (by decide) (fun K hK => ?_)
 refine goes_ Try.func54 (by kernel_rfl) rfl #[.agg #[.int .i64 t410, .int .i64 t411, .int .i64 t412], .agg #[.int .i64 t413, .int .i64 t414, .int .i64 t415]] (by rfl) rfl rfl (by (try simp only [List.map_toArray, List.map_cons, List.map_nil]); first | done | rfl | (simp only [List.length_drop, List.length_take]; rfl)) ?_
 with_reducible refine (spec_MeetPlaces.calls k t410 t411 t412 t413 t414 t415 t416 t419 _ A5.out).mono ?_
 rintro e w15 ⟨v417, rfl, ho0, hb⟩
 refine ⟨_, rfl, ?_⟩
 have n0_ := Am (Kd.R_lower ho0 (bZ (by repeat (first | (with_reducible first | exact HB.out | apply bA | apply bN | apply bD | refine bS ?_ GE408.out | refine bS ?_ GE409.out) | exact HB.out))))
 have n1_ := Am (kB (g := gb408) (o := .cells #[.int .i64 a0_0, .int .i64 a0_1, .int .i64 a0_2] 25 (0, 0)) (by (with_reducible repeat (first | refine kN ?_ _ | refine kD ?_ | refine kA ?_ _)); exact BK408.out) hb)
 have n2_ := Am (kB (g := gb409) (o := .cells #[.int .i64 a1_0, .int .i64 a1_1, .int .i64 a1_2] 25 (0, 0)) (by (with_reducible repeat (first | refine kN ?_ _ | refine kD ?_ | refine kA ?_ _)); exact BK409.out) hb)
 have n3_ := Am (bT (by repeat (first | (with_reducible first | exact HB.out | apply bA | apply bN | apply bD | refine bS ?_ GE408.out | refine bS ?_ GE409.out) | exact HB.out)) hb)
 clear BK408
 clear BK409
 clear HB
 have HO418 := n0_
 have BK408 := n1_
 have BK409 := n2_
 have HB := n3_
 clear n0_ n1_ n2_ n3_
 (try clear hb)
 (try clear hb2)
 (try clear hk)
 (try clear hi)
 (try clear ho0)
 refine hK.out _ _ ⟨(kC BK408.out 0).trans rfl, (kC BK408.out 1).trans rfl, (kC BK408.out 2).trans rfl, (kC BK409.out 0).trans rfl, (kC BK409.out 1).trans rfl, (kC BK409.out 2).trans rfl⟩ (fun hHeld => ?_)
 clear hK K
 refine norm_ (a' := ?_) ?_ ?_
 rotate_left
 ·show Act.put _ (some 18) _ = _
  simp only [Act.put, List.setIfInBounds_toArray, List.set_cons_zero, List.set_cons_succ, i64_w, i32_w]
  rfl
 refine pure_ (i := 5) (N := some 13) (v := ?_) (a' := ?_) #[true, true, true, true, true, true, false, false, false, false] rfl rfl (any_of HT_.out (by kernel_rfl)) (fun _ _ _ h => h) (Or.inl ⟨by rfl, ?_⟩) ?_ ?_
 rotate_left
 ·intro w'
  go_simp
  with_reducible rfl
 rotate_left
 ·simp only [Act.put, List.setIfInBounds_toArray, List.set_cons_zero, List.set_cons_succ, i64_w, i32_w]
  rfl
 refine pure_ (i := 6) (N := some 19) (v := ?_) (a' := ?_) #[true, true, true, true, true, true, true, false, false, false] rfl rfl (any_of HT_.out (by kernel_rfl)) (fun _ _ _ h => h) (Or.inl ⟨by rfl, ?_⟩) ?_ ?_
 rotate_left
 ·intro w'
  go_simp
  with_reducible rfl
 rotate_left
 ·simp only [Act.put, List.setIfInBounds_toArray, List.set_cons_zero, List.set_cons_succ, i64_w, i32_w]
  rfl
 refine pure_ (i := 7) (N := some 20) (v := ?_) (a' := ?_) #[true, true, true, true, true, true, true, true, false, false] rfl rfl (any_of HT_.out (by kernel_rfl)) (fun _ _ _ h => h) (Or.inl ⟨by rfl, ?_⟩) ?_ ?_
 rotate_left
 ·intro w'
  go_simp
  with_reducible rfl
 rotate_left
 ·simp only [Act.put, List.setIfInBounds_toArray, List.set_cons_zero, List.set_cons_succ, i64_w, i32_w]
  rfl
 refine pure_ (i := 8) (N := some 5) (v := ?_) (a' := ?_) #[true, true, true, true, true, true, true, true, true, false] rfl rfl (any_of HT_.out (by kernel_rfl)) (fun _ _ _ h => h) (Or.inl ⟨by rfl, ?_⟩) ?_ ?_
 rotate_left
 ·intro w'
  go_simp
  with_reducible rfl
 rotate_left
 ·simp only [Act.put, List.setIfInBounds_toArray, List.set_cons_zero, List.set_cons_succ, i64_w, i32_w]
  rfl
 refine pure_ (i := 9) (N := some 6) (v := ?_) (a' := ?_) #[true, true, true, true, true, true, true, true, true, true] rfl rfl (any_of HT_.out (by kernel_rfl)) (fun _ _ _ h => h) (Or.inl ⟨by rfl, ?_⟩) ?_ ?_
 rotate_left
 ·intro w'
  go_simp
  with_reducible rfl
 rotate_left
 ·simp only [Act.put, List.setIfInBounds_toArray, List.set_cons_zero, List.set_cons_succ, i64_w, i32_w]
  rfl
 refine done_ (done_of HT_.out (by kernel_rfl)) ?_
 try go_wp2
 have n0_ := Am (Kd.R_drew HO418.out)
 have n1_ := Am (kD BK408.out)
 have n2_ := Am (kD BK409.out)
 have n3_ := Am (bD HB.out)
 clear HO418
 clear BK408
 clear BK409
 clear HB
 have HO418 := n0_
 have BK408 := n1_
 have BK409 := n2_
 have HB := n3_
 clear n0_ n1_ n2_ n3_
 refine start_ (n := 10) (S := fun w' => w'.cell? ⟨gb408, 0, none⟩ = some (.int .i64 a0_0) ∧ w'.cell? ⟨gb408, 1, none⟩ = some (.int .i64 a0_1) ∧ w'.cell? ⟨gb408, 2, none⟩ = some (.int .i64 a0_2) ∧ w'.cell? ⟨gb409, 0, none⟩ = some (.int .i64 a1_0) ∧ w'.cell? ⟨gb409, 1, none⟩ = some (.int .i64 a1_1) ∧ w'.cell? ⟨gb409, 2, none⟩ = some (.int .i64 a1_2)) (ds := []) #[false, false, false, false, false, false, false, false, false, false] (by kernel_rfl) rfl rfl ⟨(kC BK408.out 0).trans rfl, (kC BK408.out 1).trans rfl, (kC BK408.out 2).trans rfl, (kC BK409.out 0).trans rfl, (kC BK409.out 1).trans rfl, (kC BK409.out 2).trans rfl⟩ (fun hHeld => ?_); refine with_tabW laws_FnExactMeetPlaces.tab2 laws_FnExactMeetPlaces.bits2 (fun HT_ HW_ => ?_)
 generalize w15.drew = w16 at HO418 BK408 BK409 HB hHeld ⊢
 refine take_ (i := 0) (N := some 22) (v := ?_) (a' := ?_) #[true, false, false, false, false, false, false, false, false, false] rfl rfl (take_ofW HT_.out HW_.out (by kernel_rfl)) (fun _ _ _ h => h) (Or.inl ⟨by rfl, ?_⟩) hHeld ?_ ?_
 rotate_left
 ·rintro w' ⟨s0, s1, s2, s3, s4, s5⟩
  go_simp
  with_reducible rfl
 rotate_left
 ·simp only [Act.put, List.setIfInBounds_toArray, List.set_cons_zero, List.set_cons_succ, i64_w, i32_w]
  rfl
 refine take_ (i := 2) (N := some 24) (v := ?_) (a' := ?_) #[true, false, true, false, false, false, false, false, false, false] rfl rfl (take_ofW HT_.out HW_.out (by kernel_rfl)) (fun _ _ _ h => h) (Or.inl ⟨by rfl, ?_⟩) hHeld ?_ ?_
 rotate_left
 ·rintro w' ⟨s0, s1, s2, s3, s4, s5⟩
  go_simp
  with_reducible rfl
 rotate_left
 ·simp only [Act.put, List.setIfInBounds_toArray, List.set_cons_zero, List.set_cons_succ, i64_w, i32_w]
  rfl
 refine one_ (i := 1) (N := some 23) #[true, true, true, false, false, false, false, false, false, false] rfl rfl (one_of HT_.out (by kernel_rfl)) (by decide) (fun K hK => ?_)
 refine goes_ Try.func11 (by kernel_rfl) rfl #[.agg #[.int .i64 a0_0, .int .i64 a0_1, .int .i64 a0_2]] (by rfl) rfl rfl (by (try simp only [List.map_toArray, List.map_cons, List.map_nil]); first | done | rfl | (simp only [List.length_drop, List.length_take]; rfl)) ?_
 with_reducible refine (laws_toHand.calls a0_0 a0_1 a0_2 t420 t421 t422 _ A6.out).mono ?_
 rintro e w17 ⟨rfl, hb⟩
 refine ⟨_, rfl, ?_⟩
 have n0_ := Am (Kd.R_below (by (with_reducible repeat (first | apply Kd.R_alloc | apply Kd.R_drewN | apply Kd.R_drew)); exact HO418.out) hb)
 have n1_ := Am (kB (g := gb408) (o := .cells #[.int .i64 a0_0, .int .i64 a0_1, .int .i64 a0_2] 25 (0, 0)) (by (with_reducible repeat (first | refine kN ?_ _ | refine kD ?_ | refine kA ?_ _)); exact BK408.out) hb)
 have n2_ := Am (kB (g := gb409) (o := .cells #[.int .i64 a1_0, .int .i64 a1_1, .int .i64 a1_2] 25 (0, 0)) (by (with_reducible repeat (first | refine kN ?_ _ | refine kD ?_ | refine kA ?_ _)); exact BK409.out) hb)
 have n3_ := Am (bT (by repeat (first | (with_reducible first | exact HB.out | apply bA | apply bN | apply bD | refine bS ?_ GE408.out | refine bS ?_ GE409.out) | exact HB.out)) hb)
 clear HO418
 clear BK408
 clear BK409
 clear HB
 have HO418 := n0_
 have BK408 := n1_
 have BK409 := n2_
 have HB := n3_
 clear n0_ n1_ n2_ n3_
 (try clear hb)
 (try clear hb2)
 (try clear hk)
 (try clear hi)
 refine hK.out _ _ ⟨(kC BK408.out 0).trans rfl, (kC BK408.out 1).trans rfl, (kC BK408.out 2).trans rfl, (kC BK409.out 0).trans rfl, (kC BK409.out 1).trans rfl, (kC BK409.out 2).trans rfl⟩ (fun hHeld => ?_)
 clear hK K
 refine norm_ (a' := ?_) ?_ ?_
 rotate_left
 ·show Act.put _ (some 23) _ = _
  simp only [Act.put, List.setIfInBounds_toArray, List.set_cons_zero, List.set_cons_succ, i64_w, i32_w]
  rfl
 refine one_ (i := 3) (N := some 25) #[true, true, true, true, false, false, false, false, false, false] rfl rfl (one_of HT_.out (by kernel_rfl)) (by decide) (fun K hK => ?_)
 refine goes_ Try.func11 (by kernel_rfl) rfl #[.agg #[.int .i64 a1_0, .int .i64 a1_1, .int .i64 a1_2]] (by rfl) rfl rfl (by (try simp only [List.map_toArray, List.map_cons, List.map_nil]); first | done | rfl | (simp only [List.length_drop, List.length_take]; rfl)) ?_
 with_reducible refine (laws_toHand.calls a1_0 a1_1 a1_2 t423 t424 t425 _ A7.out).mono ?_
 rintro e w18 ⟨rfl, hb⟩
 refine ⟨_, rfl, ?_⟩
 have n0_ := Am (Kd.R_below (by (with_reducible repeat (first | apply Kd.R_alloc | apply Kd.R_drewN | apply Kd.R_drew)); exact HO418.out) hb)
 have n1_ := Am (kB (g := gb408) (o := .cells #[.int .i64 a0_0, .int .i64 a0_1, .int .i64 a0_2] 25 (0, 0)) (by (with_reducible repeat (first | refine kN ?_ _ | refine kD ?_ | refine kA ?_ _)); exact BK408.out) hb)
 have n2_ := Am (kB (g := gb409) (o := .cells #[.int .i64 a1_0, .int .i64 a1_1, .int .i64 a1_2] 25 (0, 0)) (by (with_reducible repeat (first | refine kN ?_ _ | refine kD ?_ | refine kA ?_ _)); exact BK409.out) hb)
 have n3_ := Am (bT (by repeat (first | (with_reducible first | exact HB.out | apply bA | apply bN | apply bD | refine bS ?_ GE408.out | refine bS ?_ GE409.out) | exact HB.out)) hb)
 clear HO418
 clear BK408
 clear BK409
 clear HB
 have HO418 := n0_
 have BK408 := n1_
 have BK409 := n2_
 have HB := n3_
 clear n0_ n1_ n2_ n3_
 (try clear hb)
 (try clear hb2)
 (try clear hk)
 (try clear hi)
 refine hK.out _ _ ⟨(kC BK408.out 0).trans rfl, (kC BK408.out 1).trans rfl, (kC BK408.out 2).trans rfl, (kC BK409.out 0).trans rfl, (kC BK409.out 1).trans rfl, (kC BK409.out 2).trans rfl⟩ (fun hHeld => ?_)
 clear hK K
 refine norm_ (a' := ?_) ?_ ?_
 rotate_left
 ·show Act.put _ (some 25) _ = _
  simp only [Act.put, List.setIfInBounds_toArray, List.set_cons_zero, List.set_cons_succ, i64_w, i32_w]
  rfl
 refine one_ (i := 4) (N := some 26) #[true, true, true, true, true, false, false, false, false, false] rfl rfl (one_of HT_.out (by kernel_rfl)) (by decide) (fun K hK => ?_)
 refine goes_ Try.func55 (by kernel_rfl) rfl #[.agg #[.int .i64 t420, .int .i64 t421, .int .i64 t422], .agg #[.int .i64 t423, .int .i64 t424, .int .i64 t425]] (by rfl) rfl rfl (by (try simp only [List.map_toArray, List.map_cons, List.map_nil]); first | done | rfl | (simp only [List.length_drop, List.length_take]; rfl)) ?_
 with_reducible refine (impl_MeetPlaces.calls k t420 t421 t422 t423 t424 t425 t426 t429 _ A8.out).mono ?_
 rintro e w19 ⟨v427, rfl, ho0, hb⟩
 refine ⟨_, rfl, ?_⟩
 have n0_ := Am (Kd.R_elder' (by (with_reducible repeat (first | apply Kd.R_alloc | apply Kd.R_drewN | apply Kd.R_drew)); exact HO418.out) (Kd.R_base ho0) hb)
 have n1_ := Am (Kd.R_lower (Kd.R_new' ho0 (Kd.R_lt (by (with_reducible repeat (first | apply Kd.R_alloc | apply Kd.R_drewN | apply Kd.R_drew)); exact HO418.out))) (bZ (by repeat (first | (with_reducible first | exact HB.out | apply bA | apply bN | apply bD | refine bS ?_ GE408.out | refine bS ?_ GE409.out) | exact HB.out))))
 have n2_ := Am (kB (g := gb408) (o := .cells #[.int .i64 a0_0, .int .i64 a0_1, .int .i64 a0_2] 25 (0, 0)) (by (with_reducible repeat (first | refine kN ?_ _ | refine kD ?_ | refine kA ?_ _)); exact BK408.out) hb)
 have n3_ := Am (kB (g := gb409) (o := .cells #[.int .i64 a1_0, .int .i64 a1_1, .int .i64 a1_2] 25 (0, 0)) (by (with_reducible repeat (first | refine kN ?_ _ | refine kD ?_ | refine kA ?_ _)); exact BK409.out) hb)
 have n4_ := Am (bT (by repeat (first | (with_reducible first | exact HB.out | apply bA | apply bN | apply bD | refine bS ?_ GE408.out | refine bS ?_ GE409.out) | exact HB.out)) hb)
 clear HO418
 clear BK408
 clear BK409
 clear HB
 have HO418 := n0_
 have HO428 := n1_
 have BK408 := n2_
 have BK409 := n3_
 have HB := n4_
 clear n0_ n1_ n2_ n3_ n4_
 (try clear hb)
 (try clear hb2)
 (try clear hk)
 (try clear hi)
 (try clear ho0)
 refine hK.out _ _ ⟨(kC BK408.out 0).trans rfl, (kC BK408.out 1).trans rfl, (kC BK408.out 2).trans rfl, (kC BK409.out 0).trans rfl, (kC BK409.out 1).trans rfl, (kC BK409.out 2).trans rfl⟩ (fun hHeld => ?_)
 clear hK K
 refine norm_ (a' := ?_) ?_ ?_
 rotate_left
 ·show Act.put _ (some 26) _ = _
  simp only [Act.put, List.setIfInBounds_toArray, List.set_cons_zero, List.set_cons_succ, i64_w, i32_w]
  rfl
 refine pure_ (i := 5) (N := some 21) (v := ?_) (a' := ?_) #[true, true, true, true, true, true, false, false, false, false] rfl rfl (any_of HT_.out (by kernel_rfl)) (fun _ _ _ h => h) (Or.inl ⟨by rfl, ?_⟩) ?_ ?_
 rotate_left
 ·intro w'
  go_simp
  with_reducible rfl
 rotate_left
 ·simp only [Act.put, List.setIfInBounds_toArray, List.set_cons_zero, List.set_cons_succ, i64_w, i32_w]
  rfl
 refine pure_ (i := 6) (N := some 27) (v := ?_) (a' := ?_) #[true, true, true, true, true, true, true, false, false, false] rfl rfl (any_of HT_.out (by kernel_rfl)) (fun _ _ _ h => h) (Or.inl ⟨by rfl, ?_⟩) ?_ ?_
 rotate_left
 ·intro w'
  go_simp
  with_reducible rfl
 rotate_left
 ·simp only [Act.put, List.setIfInBounds_toArray, List.set_cons_zero, List.set_cons_succ, i64_w, i32_w]
  rfl
 refine pure_ (i := 7) (N := some 28) (v := ?_) (a' := ?_) #[true, true, true, true, true, true, true, true, false, false] rfl rfl (any_of HT_.out (by kernel_rfl)) (fun _ _ _ h => h) (Or.inl ⟨by rfl, ?_⟩) ?_ ?_
 rotate_left
 ·intro w'
  go_simp
  with_reducible rfl
 rotate_left
 ·simp only [Act.put, List.setIfInBounds_toArray, List.set_cons_zero, List.set_cons_succ, i64_w, i32_w]
  rfl
 refine pure_ (i := 8) (N := some 7) (v := ?_) (a' := ?_) #[true, true, true, true, true, true, true, true, true, false] rfl rfl (any_of HT_.out (by kernel_rfl)) (fun _ _ _ h => h) (Or.inl ⟨by rfl, ?_⟩) ?_ ?_
 rotate_left
 ·intro w'
  go_simp
  with_reducible rfl
 rotate_left
 ·simp only [Act.put, List.setIfInBounds_toArray, List.set_cons_zero, List.set_cons_succ, i64_w, i32_w]
  rfl
 refine pure_ (i := 9) (N := some 8) (v := ?_) (a' := ?_) #[true, true, true, true, true, true, true, true, true, true] rfl rfl (any_of HT_.out (by kernel_rfl)) (fun _ _ _ h => h) (Or.inl ⟨by rfl, ?_⟩) ?_ ?_
 rotate_left
 ·intro w'
  go_simp
  with_reducible rfl
 rotate_left
 ·simp only [Act.put, List.setIfInBounds_toArray, List.set_cons_zero, List.set_cons_succ, i64_w, i32_w]
  rfl
 refine done_ (done_of HT_.out (by kernel_rfl)) ?_
 go_upto_region 3 with (fail)
 go_cut [37] (fun v37 wc => ∃ (kq : Nat) (x37_8 : Bool), v37 = .bool x37_8 ∧ Aside0 (laws_FnExactMeetPlaces.j0 kq t416 t419 t426 x37_8 a0_0 a0_1 a0_2 a1_0 a1_1 a1_2 = some r) ∧ Aside0 (kq ≤ k) ∧ Aside0 (Kd.R k26 26 wc w.heap.size (fun k_ => some k_ ≠ (v427 : Value).ownBlock) v417 t416) ∧ Aside0 (Kd.R k26 26 wc w.heap.size (fun k_ => some k_ ≠ (v417 : Value).ownBlock) v427 t426) ∧ Aside0 (wc.heap[gb408]? = some (.cells #[.int .i64 a0_0, .int .i64 a0_1, .int .i64 a0_2] 25 (0, 0))) ∧ Aside0 (wc.heap[gb409]? = some (.cells #[.int .i64 a1_0, .int .i64 a1_1, .int .i64 a1_2] 25 (0, 0))) ∧ Aside0 (Below w.heap.size w wc))
 case first =>
  have H := HC9.out
  clear HC9
  replace H := Option.bind_eq_some_iff.mp H
  obtain ⟨t430, A200, H⟩ := H
  replace H : (if t430 = true then (laws_FnExactMeetPlaces.j0 k t416 t419 t426 (t429 != t419) a0_0 a0_1 a0_2 a1_0 a1_1 a1_2) else (laws_FnExactMeetPlaces.j0 k t416 t419 t426 true a0_0 a0_1 a0_2 a1_0 a1_1 a1_2)) = some r := H
  have A20 := Am A200
  clear A200
  by_cases c21 : t430 = true
  ·subst c21
   have H1 : (laws_FnExactMeetPlaces.j0 k t416 t419 t426 (t429 != t419) a0_0 a0_1 a0_2 a1_0 a1_1 a1_2) = some r := by rw [if_pos rfl] at H; exact H
   clear H
   have H := H1
   clear H1
   have H' := Am H
   clear H
   obtain ⟨Ao22, co22, eo22⟩ := Kd.R_slice HO428.out
   subst eo22
   obtain ⟨Ao23, co23, eo23⟩ := Kd.R_slice HO418.out
   subst eo23
   go_wp2_with (first | ((with_reducible refine gate_callee (f := 17) rfl ?_); refine goesL_ (some 31) rfl rfl Try.func17 (by kernel_rfl) rfl #[.slice Ao22 t426.length co22, .slice Ao23 t416.length co23] rfl (by (try simp only [List.map_toArray, List.map_cons, List.map_nil]); first | done | rfl | (simp only [List.length_drop, List.length_take]; rfl)) ?_; (with_reducible refine (laws_eqTurnS.calls k _ _ t426 _ _ t416 true _ ?side1 ?side2 ?side3 ?side4 A20.out).mono ?_); (case side1 => repeat (first | exact (Kd.R_reads' HO428.out).2.2 | (with_reducible refine Kd.C_alloc ?_ _) | (with_reducible refine Kd.C_drewN ?_ _) | (with_reducible refine Kd.C_drew ?_))); (case side2 => exact (Kd.R_reads' HO428.out).2.1); (case side3 => repeat (first | exact (Kd.R_reads' HO418.out).2.2 | (with_reducible refine Kd.C_alloc ?_ _) | (with_reducible refine Kd.C_drewN ?_ _) | (with_reducible refine Kd.C_drew ?_))); (case side4 => exact (Kd.R_reads' HO418.out).2.1); rintro e w24 ⟨rfl, hb⟩; refine ⟨_, rfl, ?_⟩; have n0_ := Am (Kd.R_below (by (with_reducible repeat (first | apply Kd.R_alloc | apply Kd.R_drewN | apply Kd.R_drew)); exact HO418.out) hb); have n1_ := Am (Kd.R_below (by (with_reducible repeat (first | apply Kd.R_alloc | apply Kd.R_drewN | apply Kd.R_drew)); exact HO428.out) hb); have n2_ := Am (kB (g := gb408) (o := .cells #[.int .i64 a0_0, .int .i64 a0_1, .int .i64 a0_2] 25 (0, 0)) (by (with_reducible repeat (first | refine kN ?_ _ | refine kD ?_ | refine kA ?_ _)); exact BK408.out) hb); have n3_ := Am (kB (g := gb409) (o := .cells #[.int .i64 a1_0, .int .i64 a1_1, .int .i64 a1_2] 25 (0, 0)) (by (with_reducible repeat (first | refine kN ?_ _ | refine kD ?_ | refine kA ?_ _)); exact BK409.out) hb); have n4_ := Am (bT (by repeat (first | (with_reducible first | exact HB.out | apply bA | apply bN | apply bD | refine bS ?_ GE408.out | refine bS ?_ GE409.out) | exact HB.out)) hb); clear HO418; clear HO428; clear BK408; clear BK409; clear HB; have HO418 := n0_; have HO428 := n1_; have BK408 := n2_; have BK409 := n3_; have HB := n4_; clear n0_ n1_ n2_ n3_ n4_; (try clear hb); (try clear hb2); (try clear hk); (try clear hi)))
   go_meet
   case rel => exact ⟨_, ((t429 != t419)), (by first | rfl | (simp; done) | (simp [*]; done)), H', ⟨by first | omega | exact Nat.le_refl _⟩, ⟨by (with_reducible repeat (first | apply Kd.R_alloc | apply Kd.R_drewN | apply Kd.R_drew)); exact Kd.R_mono HO418.out (fun _ hk => hk.2)⟩, ⟨by (with_reducible repeat (first | apply Kd.R_alloc | apply Kd.R_drewN | apply Kd.R_drew)); exact Kd.R_mono HO428.out (fun _ hk => hk.2)⟩, ⟨by (with_reducible repeat (first | refine kN ?_ _ | refine kD ?_ | refine kA ?_ _)); exact BK408.out⟩, ⟨by (with_reducible repeat (first | refine kN ?_ _ | refine kD ?_ | refine kA ?_ _)); exact BK409.out⟩, ⟨by repeat (first | (with_reducible first | exact HB.out | apply bA | apply bN | apply bD | refine bS ?_ GE408.out | refine bS ?_ GE409.out) | exact HB.out)⟩⟩
  ·replace c21 := Bool.eq_false_iff.mpr c21
   subst c21
   have H1 : (laws_FnExactMeetPlaces.j0 k t416 t419 t426 true a0_0 a0_1 a0_2 a1_0 a1_1 a1_2) = some r := by rw [if_neg (show ¬ (false = true) by decide)] at H; exact H
   clear H
   have H := H1
   clear H1
   exact absurd ((laws_FnExactMeetPlaces.j0_no H).symm.trans hlaw.out) (by decide)
 case rest =>
  clear HC9
  try clear c1
  try clear c2
  try clear p2
  try clear c5
  try clear c9
  try clear c11
  try clear c17
  try clear c21
  obtain ⟨kq, x37_8, rfl, HA, HJ8, HO_5, HO_7, BK408, BK409, HB⟩ := hcut
  cases kq with
  | zero => exact absurd HA.out (by simp [laws_FnExactMeetPlaces.j0])
  | succ kj8 =>
   have H := HA.out
   clear HA
   simp only [laws_FnExactMeetPlaces.j0] at H
   by_cases c25 : x37_8 = true
   ·subst c25
    have H1 : (some false) = some r := by rw [if_pos rfl] at H; exact H
    clear H
    have H := H1
    clear H1
    exact absurd ((Option.some.inj H).trans hlaw.out) (by decide)
   ·replace c25 := Bool.eq_false_iff.mpr c25
    subst c25
    have H1 : ((laws_markTurnS.f kj8 t426 1).bind fun bt431 => ((laws_heldTurnS.f kj8 bt431.2 1).bind fun t433 => (if t433 < 0 then (some false) else (if t433 = bt431.1 then ((laws_toHand.f a0_0 a0_1 a0_2).bind fun bt434 => ((laws_toHand.f a1_0 a1_1 a1_2).bind fun bt437 => ((impl_MeetPlaces.f kj8 bt434.1 bt434.2.1 bt434.2.2 bt437.1 bt437.2.1 bt437.2.2).bind fun bt440 => ((laws_eqTurnS.f kj8 bt440.1 t416).bind fun t444 => (if t444 = true then (laws_FnExactMeetPlaces.j1 kj8 bt431.2 bt431.1 (bt440.2 != t419)) else (laws_FnExactMeetPlaces.j1 kj8 bt431.2 bt431.1 true)))))) else (some false))))) = some r := by rw [if_neg (show ¬ (false = true) by decide)] at H; exact H
    clear H
    have H := H1
    clear H1
    replace H := Option.bind_eq_some_iff.mp H
    obtain ⟨⟨t431, t432⟩, A260, H⟩ := H
    replace H : ((laws_heldTurnS.f kj8 t432 1).bind fun t433 => (if t433 < 0 then (some false) else (if t433 = t431 then ((laws_toHand.f a0_0 a0_1 a0_2).bind fun bt434 => ((laws_toHand.f a1_0 a1_1 a1_2).bind fun bt437 => ((impl_MeetPlaces.f kj8 bt434.1 bt434.2.1 bt434.2.2 bt437.1 bt437.2.1 bt437.2.2).bind fun bt440 => ((laws_eqTurnS.f kj8 bt440.1 t416).bind fun t444 => (if t444 = true then (laws_FnExactMeetPlaces.j1 kj8 t432 t431 (bt440.2 != t419)) else (laws_FnExactMeetPlaces.j1 kj8 t432 t431 true)))))) else (some false)))) = some r := H
    have A26 := Am A260
    clear A260
    replace H := Option.bind_eq_some_iff.mp H
    obtain ⟨t433, A270, H⟩ := H
    replace H : (if t433 < 0 then (some false) else (if t433 = t431 then ((laws_toHand.f a0_0 a0_1 a0_2).bind fun bt434 => ((laws_toHand.f a1_0 a1_1 a1_2).bind fun bt437 => ((impl_MeetPlaces.f kj8 bt434.1 bt434.2.1 bt434.2.2 bt437.1 bt437.2.1 bt437.2.2).bind fun bt440 => ((laws_eqTurnS.f kj8 bt440.1 t416).bind fun t444 => (if t444 = true then (laws_FnExactMeetPlaces.j1 kj8 t432 t431 (bt440.2 != t419)) else (laws_FnExactMeetPlaces.j1 kj8 t432 t431 true)))))) else (some false))) = some r := H
    have A27 := Am A270
    clear A270
    by_cases c28 : t433 < 0
    ·rw [if_pos c28] at H
     have c28b0 : decide (t433 < 0) = true := decide_eq_true c28
     clear c28
     exact absurd ((Option.some.inj H).trans hlaw.out) (by decide)
    ·rw [if_neg c28] at H
     have c28b0 : decide (t433 < 0) = false := decide_eq_false c28
     clear c28
     by_cases c29 : t433 = t431
     ·rw [if_pos c29] at H
      have c29b0 : (t433 == t431) = true := beq_iff_eq.mpr c29
      have c29b1 : (t433 != t431) = false := bne_eq_false_iff_eq.mpr c29
      clear c29
      replace H := Option.bind_eq_some_iff.mp H
      obtain ⟨⟨t434, t435, t436⟩, A300, H⟩ := H
      replace H : ((laws_toHand.f a1_0 a1_1 a1_2).bind fun bt437 => ((impl_MeetPlaces.f kj8 t434 t435 t436 bt437.1 bt437.2.1 bt437.2.2).bind fun bt440 => ((laws_eqTurnS.f kj8 bt440.1 t416).bind fun t444 => (if t444 = true then (laws_FnExactMeetPlaces.j1 kj8 t432 t431 (bt440.2 != t419)) else (laws_FnExactMeetPlaces.j1 kj8 t432 t431 true))))) = some r := H
      have A30 := Am A300
      clear A300
      replace H := Option.bind_eq_some_iff.mp H
      obtain ⟨⟨t437, t438, t439⟩, A310, H⟩ := H
      replace H : ((impl_MeetPlaces.f kj8 t434 t435 t436 t437 t438 t439).bind fun bt440 => ((laws_eqTurnS.f kj8 bt440.1 t416).bind fun t444 => (if t444 = true then (laws_FnExactMeetPlaces.j1 kj8 t432 t431 (bt440.2 != t419)) else (laws_FnExactMeetPlaces.j1 kj8 t432 t431 true)))) = some r := H
      have A31 := Am A310
      clear A310
      replace H := Option.bind_eq_some_iff.mp H
      obtain ⟨⟨t440, t443⟩, A320, H⟩ := H
      replace H : ((laws_eqTurnS.f kj8 t440 t416).bind fun t444 => (if t444 = true then (laws_FnExactMeetPlaces.j1 kj8 t432 t431 (t443 != t419)) else (laws_FnExactMeetPlaces.j1 kj8 t432 t431 true))) = some r := H
      have A32 := Am A320
      clear A320
      have HC33 := Am H
      clear H
      obtain ⟨Ao34, co34, eo34⟩ := Kd.R_slice HO_7.out
      subst eo34
      try go_wp2_with (first | ((with_reducible refine gate_callee (f := 18) rfl ?_); refine goesL_ (some 40) rfl rfl Try.func18 (by kernel_rfl) rfl #[.slice Ao34 t426.length co34, .int .i64 1] rfl (by (try simp only [List.map_toArray, List.map_cons, List.map_nil]); first | done | rfl | (simp only [List.length_drop, List.length_take]; rfl)) ?_; (with_reducible refine (laws_markTurnS.calls kj8 (fun k_ => some k_ = (.slice Ao34 t426.length co34 : Value).ownBlock) (.slice Ao34 t426.length co34) t426 1 t431 t432 w _ ?side1 ?side2 A26.out).mono ?_); (case side1 => repeat (first | (with_reducible first | exact HB.out | apply bA | apply bN | apply bD | refine bS ?_ GE408.out | refine bS ?_ GE409.out) | exact HB.out)); (case side2 => exact Kd.R_tight rfl HO_7.out); rintro e w35 ⟨rfl, hy0, hb, hkp⟩; refine ⟨_, rfl, ?_⟩; have n0_ := Am (Kd.R_mono (ok' := fun k_ => some k_ ≠ (.slice Ao34 t426.length co34 : Value).ownBlock) (Kd.R_keptB (HO_5.out) hkp (fun k_ hk_ hs_ => (hk_) hs_)) (fun k_ hk_ => hk_.1)); have n1_ := Am (Kd.R_reok rfl hy0 (fun k_ e_ => HO_7.out.1 k_ e_)); have n2_ := Am (blk_kept (by (with_reducible repeat (first | refine kN ?_ _ | refine kD ?_ | refine kA ?_ _)); exact BK408.out) hkp (fun hs_ => (fun e_ => (Kd.R_ne HO_7.out BK408.out (by decide)) e_) hs_)); have n3_ := Am (blk_kept (by (with_reducible repeat (first | refine kN ?_ _ | refine kD ?_ | refine kA ?_ _)); exact BK409.out) hkp (fun hs_ => (fun e_ => (Kd.R_ne HO_7.out BK409.out (by decide)) e_) hs_)); have n4_ := Am (hb); clear HO_5; clear HO_7; clear BK408; clear BK409; clear HB; have HO_5 := n0_; have HO_7 := n1_; have BK408 := n2_; have BK409 := n3_; have HB := n4_; clear n0_ n1_ n2_ n3_ n4_; (try clear hb); (try clear hkp); (try clear hy0)) | ((with_reducible refine gate_callee (f := 19) rfl ?_); refine goesL_ (some 43) rfl rfl Try.func19 (by kernel_rfl) rfl #[.slice Ao34 t432.length co34, .int .i64 1] rfl (by (try simp only [List.map_toArray, List.map_cons, List.map_nil]); first | done | (rw [show t432.length = t426.length from (Kd.R_reads' HO_7.out).1.symm] <;> rfl) | rfl | (simp only [List.length_drop, List.length_take]; rfl)) ?_; (with_reducible refine (laws_heldTurnS.calls kj8 _ _ t432 1 t433 _ ?side1 ?side2 A27.out).mono ?_); (case side1 => repeat (first | exact (Kd.R_reads' HO_7.out).2.2 | (with_reducible refine Kd.C_alloc ?_ _) | (with_reducible refine Kd.C_drewN ?_ _) | (with_reducible refine Kd.C_drew ?_))); (case side2 => rw [show t432.length = t426.length from (Kd.R_reads' HO_7.out).1.symm]; exact (Kd.R_reads' HO_7.out).2.1); rintro e w' ⟨rfl, ⟨nd, rfl⟩⟩; refine ⟨_, rfl, ?_⟩))
      (try (rw [drewN_self w35]; generalize hq_ : World.drewN w35 _ = w35; have n0_ : Aside0 (Kd.R k26 26 w35 w.heap.size (fun k_ => some k_ ≠ (.slice Ao34 t426.length co34 : Value).ownBlock) v417 t416) := ⟨by rw [← hq_]; exact (by (with_reducible repeat (first | apply Kd.R_alloc | apply Kd.R_drewN | apply Kd.R_drew)); exact HO_5.out)⟩; have n1_ : Aside0 (Kd.R k26 26 w35 w.heap.size (fun k_ => some k_ ≠ (v417 : Value).ownBlock) (.slice Ao34 t426.length co34) t432) := ⟨by rw [← hq_]; exact (by (with_reducible repeat (first | apply Kd.R_alloc | apply Kd.R_drewN | apply Kd.R_drew)); exact HO_7.out)⟩; have n2_ : Aside0 (w35.heap[gb408]? = some (.cells #[.int .i64 a0_0, .int .i64 a0_1, .int .i64 a0_2] 25 (0, 0))) := ⟨by rw [← hq_]; exact (by (with_reducible repeat (first | refine kN ?_ _ | refine kD ?_ | refine kA ?_ _)); exact BK408.out)⟩; have n3_ : Aside0 (w35.heap[gb409]? = some (.cells #[.int .i64 a1_0, .int .i64 a1_1, .int .i64 a1_2] 25 (0, 0))) := ⟨by rw [← hq_]; exact (by (with_reducible repeat (first | refine kN ?_ _ | refine kD ?_ | refine kA ?_ _)); exact BK409.out)⟩; have n4_ : Aside0 (Below w.heap.size w w35) := ⟨by rw [← hq_]; exact (by repeat (first | (with_reducible first | exact HB.out | apply bA | apply bN | apply bD | refine bS ?_ GE408.out | refine bS ?_ GE409.out) | exact HB.out))⟩; clear HO_5 HO_7 BK408 BK409 HB hq_; have HO_5 := n0_; have HO_7 := n1_; have BK408 := n2_; have BK409 := n3_; have HB := n4_; clear n0_ n1_ n2_ n3_ n4_))
      have n0_ := Am (Kd.R_drew HO_5.out)
      have n1_ := Am (Kd.R_drew HO_7.out)
      have n2_ := Am (kD BK408.out)
      have n3_ := Am (kD BK409.out)
      have n4_ := Am (bD HB.out)
      clear HO_5
      clear HO_7
      clear BK408
      clear BK409
      clear HB
      have HO_5 := n0_
      have HO_7 := n1_
      have BK408 := n2_
      have BK409 := n3_
      have HB := n4_
      clear n0_ n1_ n2_ n3_ n4_
      refine start_ (n := 10) (S := fun w' => w'.cell? ⟨gb408, 0, none⟩ = some (.int .i64 a0_0) ∧ w'.cell? ⟨gb408, 1, none⟩ = some (.int .i64 a0_1) ∧ w'.cell? ⟨gb408, 2, none⟩ = some (.int .i64 a0_2) ∧ w'.cell? ⟨gb409, 0, none⟩ = some (.int .i64 a1_0) ∧ w'.cell? ⟨gb409, 1, none⟩ = some (.int .i64 a1_1) ∧ w'.cell? ⟨gb409, 2, none⟩ = some (.int .i64 a1_2)) (ds := []) #[false, false, false, false, false, false, false, false, false, false] (by kernel_rfl) rfl rfl ⟨(kC BK408.out 0).trans rfl, (kC BK408.out 1).trans rfl, (kC BK408.out 2).trans rfl, (kC BK409.out 0).trans rfl, (kC BK409.out 1).trans rfl, (kC BK409.out 2).trans rfl⟩ (fun hHeld => ?_); refine with_tabW laws_FnExactMeetPlaces.tab13 laws_FnExactMeetPlaces.bits13 (fun HT_ HW_ => ?_)
      generalize w35.drew = w36 at HO_5 HO_7 BK408 BK409 HB hHeld ⊢
      refine take_ (i := 0) (N := some 50) (v := ?_) (a' := ?_) #[true, false, false, false, false, false, false, false, false, false] rfl rfl (take_ofW HT_.out HW_.out (by kernel_rfl)) (fun _ _ _ h => h) (Or.inl ⟨by rfl, ?_⟩) hHeld ?_ ?_
      rotate_left
      ·rintro w' ⟨s0, s1, s2, s3, s4, s5⟩
       go_simp
       with_reducible rfl
      rotate_left
      ·simp only [Act.put, List.setIfInBounds_toArray, List.set_cons_zero, List.set_cons_succ, i64_w, i32_w]
       rfl
      refine take_ (i := 2) (N := some 52) (v := ?_) (a' := ?_) #[true, false, true, false, false, false, false, false, false, false] rfl rfl (take_ofW HT_.out HW_.out (by kernel_rfl)) (fun _ _ _ h => h) (Or.inl ⟨by rfl, ?_⟩) hHeld ?_ ?_
      rotate_left
      ·rintro w' ⟨s0, s1, s2, s3, s4, s5⟩
       go_simp
       with_reducible rfl
      rotate_left
      ·simp only [Act.put, List.setIfInBounds_toArray, List.set_cons_zero, List.set_cons_succ, i64_w, i32_w]
       rfl
      refine one_ (i := 1) (N := some 51) #[true, true, true, false, false, false, false, false, false, false] rfl rfl (one_of HT_.out (by kernel_rfl)) (by decide) (fun K hK => ?_)
      refine goes_ Try.func11 (by kernel_rfl) rfl #[.agg #[.int .i64 a0_0, .int .i64 a0_1, .int .i64 a0_2]] (by rfl) rfl rfl (by (try simp only [List.map_toArray, List.map_cons, List.map_nil]); first | done | rfl | (simp only [List.length_drop, List.length_take]; rfl)) ?_
      with_reducible refine (laws_toHand.calls a0_0 a0_1 a0_2 t434 t435 t436 _ A30.out).mono ?_
      rintro e w37 ⟨rfl, hb⟩
      refine ⟨_, rfl, ?_⟩
      have n0_ := Am (Kd.R_below (by (with_reducible repeat (first | apply Kd.R_alloc | apply Kd.R_drewN | apply Kd.R_drew)); exact HO_5.out) hb)
      have n1_ := Am (Kd.R_below (by (with_reducible repeat (first | apply Kd.R_alloc | apply Kd.R_drewN | apply Kd.R_drew)); exact HO_7.out) hb)
      have n2_ := Am (kB (g := gb408) (o := .cells #[.int .i64 a0_0, .int .i64 a0_1, .int .i64 a0_2] 25 (0, 0)) (by (with_reducible repeat (first | refine kN ?_ _ | refine kD ?_ | refine kA ?_ _)); exact BK408.out) hb)
      have n3_ := Am (kB (g := gb409) (o := .cells #[.int .i64 a1_0, .int .i64 a1_1, .int .i64 a1_2] 25 (0, 0)) (by (with_reducible repeat (first | refine kN ?_ _ | refine kD ?_ | refine kA ?_ _)); exact BK409.out) hb)
      have n4_ := Am (bT (by repeat (first | (with_reducible first | exact HB.out | apply bA | apply bN | apply bD | refine bS ?_ GE408.out | refine bS ?_ GE409.out) | exact HB.out)) hb)
      clear HO_5
      clear HO_7
      clear BK408
      clear BK409
      clear HB
      have HO_5 := n0_
      have HO_7 := n1_
      have BK408 := n2_
      have BK409 := n3_
      have HB := n4_
      clear n0_ n1_ n2_ n3_ n4_
      (try clear hb)
      (try clear hb2)
      (try clear hk)
      (try clear hi)
      refine hK.out _ _ ⟨(kC BK408.out 0).trans rfl, (kC BK408.out 1).trans rfl, (kC BK408.out 2).trans rfl, (kC BK409.out 0).trans rfl, (kC BK409.out 1).trans rfl, (kC BK409.out 2).trans rfl⟩ (fun hHeld => ?_)
      clear hK K
      refine norm_ (a' := ?_) ?_ ?_
      rotate_left
      ·show Act.put _ (some 51) _ = _
       simp only [Act.put, List.setIfInBounds_toArray, List.set_cons_zero, List.set_cons_succ, i64_w, i32_w]
       rfl
      refine one_ (i := 3) (N := some 53) #[true, true, true, true, false, false, false, false, false, false] rfl rfl (one_of HT_.out (by kernel_rfl)) (by decide) (fun K hK => ?_)
      refine goes_ Try.func11 (by kernel_rfl) rfl #[.agg #[.int .i64 a1_0, .int .i64 a1_1, .int .i64 a1_2]] (by rfl) rfl rfl (by (try simp only [List.map_toArray, List.map_cons, List.map_nil]); first | done | rfl | (simp only [List.length_drop, List.length_take]; rfl)) ?_
      with_reducible refine (laws_toHand.calls a1_0 a1_1 a1_2 t437 t438 t439 _ A31.out).mono ?_
      rintro e w38 ⟨rfl, hb⟩
      refine ⟨_, rfl, ?_⟩
      have n0_ := Am (Kd.R_below (by (with_reducible repeat (first | apply Kd.R_alloc | apply Kd.R_drewN | apply Kd.R_drew)); exact HO_5.out) hb)
      have n1_ := Am (Kd.R_below (by (with_reducible repeat (first | apply Kd.R_alloc | apply Kd.R_drewN | apply Kd.R_drew)); exact HO_7.out) hb)
      have n2_ := Am (kB (g := gb408) (o := .cells #[.int .i64 a0_0, .int .i64 a0_1, .int .i64 a0_2] 25 (0, 0)) (by (with_reducible repeat (first | refine kN ?_ _ | refine kD ?_ | refine kA ?_ _)); exact BK408.out) hb)
      have n3_ := Am (kB (g := gb409) (o := .cells #[.int .i64 a1_0, .int .i64 a1_1, .int .i64 a1_2] 25 (0, 0)) (by (with_reducible repeat (first | refine kN ?_ _ | refine kD ?_ | refine kA ?_ _)); exact BK409.out) hb)
      have n4_ := Am (bT (by repeat (first | (with_reducible first | exact HB.out | apply bA | apply bN | apply bD | refine bS ?_ GE408.out | refine bS ?_ GE409.out) | exact HB.out)) hb)
      clear HO_5
      clear HO_7
      clear BK408
      clear BK409
      clear HB
      have HO_5 := n0_
      have HO_7 := n1_
      have BK408 := n2_
      have BK409 := n3_
      have HB := n4_
      clear n0_ n1_ n2_ n3_ n4_
      (try clear hb)
      (try clear hb2)
      (try clear hk)
      (try clear hi)
      refine hK.out _ _ ⟨(kC BK408.out 0).trans rfl, (kC BK408.out 1).trans rfl, (kC BK408.out 2).trans rfl, (kC BK409.out 0).trans rfl, (kC BK409.out 1).trans rfl, (kC BK409.out 2).trans rfl⟩ (fun hHeld => ?_)
      clear hK K
      refine norm_ (a' := ?_) ?_ ?_
      rotate_left
      ·show Act.put _ (some 53) _ = _
       simp only [Act.put, List.setIfInBounds_toArray, List.set_cons_zero, List.set_cons_succ, i64_w, i32_w]
       rfl
      refine one_ (i := 4) (N := some 54) #[true, true, true, true, true, false, false, false, false, false] rfl rfl (one_of HT_.out (by kernel_rfl)) (by decide) (fun K hK => ?_)
      refine goes_ Try.func55 (by kernel_rfl) rfl #[.agg #[.int .i64 t434, .int .i64 t435, .int .i64 t436], .agg #[.int .i64 t437, .int .i64 t438, .int .i64 t439]] (by rfl) rfl rfl (by (try simp only [List.map_toArray, List.map_cons, List.map_nil]); first | done | rfl | (simp only [List.length_drop, List.length_take]; rfl)) ?_
      with_reducible refine (impl_MeetPlaces.calls kj8 t434 t435 t436 t437 t438 t439 t440 t443 _ A32.out).mono ?_
      rintro e w39 ⟨v441, rfl, ho0, hb⟩
      refine ⟨_, rfl, ?_⟩
      have n0_ := Am (Kd.R_elder' (by (with_reducible repeat (first | apply Kd.R_alloc | apply Kd.R_drewN | apply Kd.R_drew)); exact HO_5.out) (Kd.R_base ho0) hb)
      have n1_ := Am (Kd.R_elder' (by (with_reducible repeat (first | apply Kd.R_alloc | apply Kd.R_drewN | apply Kd.R_drew)); exact HO_7.out) (Kd.R_base ho0) hb)
      have n2_ := Am (Kd.R_lower (Kd.R_new' (Kd.R_new' ho0 (Kd.R_lt (by (with_reducible repeat (first | apply Kd.R_alloc | apply Kd.R_drewN | apply Kd.R_drew)); exact HO_5.out))) (Kd.R_lt (by (with_reducible repeat (first | apply Kd.R_alloc | apply Kd.R_drewN | apply Kd.R_drew)); exact HO_7.out))) (bZ (by repeat (first | (with_reducible first | exact HB.out | apply bA | apply bN | apply bD | refine bS ?_ GE408.out | refine bS ?_ GE409.out) | exact HB.out))))
      have n3_ := Am (kB (g := gb408) (o := .cells #[.int .i64 a0_0, .int .i64 a0_1, .int .i64 a0_2] 25 (0, 0)) (by (with_reducible repeat (first | refine kN ?_ _ | refine kD ?_ | refine kA ?_ _)); exact BK408.out) hb)
      have n4_ := Am (kB (g := gb409) (o := .cells #[.int .i64 a1_0, .int .i64 a1_1, .int .i64 a1_2] 25 (0, 0)) (by (with_reducible repeat (first | refine kN ?_ _ | refine kD ?_ | refine kA ?_ _)); exact BK409.out) hb)
      have n5_ := Am (bT (by repeat (first | (with_reducible first | exact HB.out | apply bA | apply bN | apply bD | refine bS ?_ GE408.out | refine bS ?_ GE409.out) | exact HB.out)) hb)
      clear HO_5
      clear HO_7
      clear BK408
      clear BK409
      clear HB
      have HO_5 := n0_
      have HO_7 := n1_
      have HO442 := n2_
      have BK408 := n3_
      have BK409 := n4_
      have HB := n5_
      clear n0_ n1_ n2_ n3_ n4_ n5_
      (try clear hb)
      (try clear hb2)
      (try clear hk)
      (try clear hi)
      (try clear ho0)
      refine hK.out _ _ ⟨(kC BK408.out 0).trans rfl, (kC BK408.out 1).trans rfl, (kC BK408.out 2).trans rfl, (kC BK409.out 0).trans rfl, (kC BK409.out 1).trans rfl, (kC BK409.out 2).trans rfl⟩ (fun hHeld => ?_)
      clear hK K
      refine norm_ (a' := ?_) ?_ ?_
      rotate_left
      ·show Act.put _ (some 54) _ = _
       simp only [Act.put, List.setIfInBounds_toArray, List.set_cons_zero, List.set_cons_succ, i64_w, i32_w]
       rfl
      refine pure_ (i := 5) (N := some 49) (v := ?_) (a' := ?_) #[true, true, true, true, true, true, false, false, false, false] rfl rfl (any_of HT_.out (by kernel_rfl)) (fun _ _ _ h => h) (Or.inl ⟨by rfl, ?_⟩) ?_ ?_
      rotate_left
      ·intro w'
       go_simp
       with_reducible rfl
      rotate_left
      ·simp only [Act.put, List.setIfInBounds_toArray, List.set_cons_zero, List.set_cons_succ, i64_w, i32_w]
       rfl
      refine pure_ (i := 6) (N := some 55) (v := ?_) (a' := ?_) #[true, true, true, true, true, true, true, false, false, false] rfl rfl (any_of HT_.out (by kernel_rfl)) (fun _ _ _ h => h) (Or.inl ⟨by rfl, ?_⟩) ?_ ?_
      rotate_left
      ·intro w'
       go_simp
       with_reducible rfl
      rotate_left
      ·simp only [Act.put, List.setIfInBounds_toArray, List.set_cons_zero, List.set_cons_succ, i64_w, i32_w]
       rfl
      refine pure_ (i := 7) (N := some 56) (v := ?_) (a' := ?_) #[true, true, true, true, true, true, true, true, false, false] rfl rfl (any_of HT_.out (by kernel_rfl)) (fun _ _ _ h => h) (Or.inl ⟨by rfl, ?_⟩) ?_ ?_
      rotate_left
      ·intro w'
       go_simp
       with_reducible rfl
      rotate_left
      ·simp only [Act.put, List.setIfInBounds_toArray, List.set_cons_zero, List.set_cons_succ, i64_w, i32_w]
       rfl
      refine pure_ (i := 8) (N := some 11) (v := ?_) (a' := ?_) #[true, true, true, true, true, true, true, true, true, false] rfl rfl (any_of HT_.out (by kernel_rfl)) (fun _ _ _ h => h) (Or.inl ⟨by rfl, ?_⟩) ?_ ?_
      rotate_left
      ·intro w'
       go_simp
       with_reducible rfl
      rotate_left
      ·simp only [Act.put, List.setIfInBounds_toArray, List.set_cons_zero, List.set_cons_succ, i64_w, i32_w]
       rfl
      refine pure_ (i := 9) (N := some 12) (v := ?_) (a' := ?_) #[true, true, true, true, true, true, true, true, true, true] rfl rfl (any_of HT_.out (by kernel_rfl)) (fun _ _ _ h => h) (Or.inl ⟨by rfl, ?_⟩) ?_ ?_
      rotate_left
      ·intro w'
       go_simp
       with_reducible rfl
      rotate_left
      ·simp only [Act.put, List.setIfInBounds_toArray, List.set_cons_zero, List.set_cons_succ, i64_w, i32_w]
       rfl
      refine done_ (done_of HT_.out (by kernel_rfl)) ?_
      go_upto_region 14 with (fail)
      go_cut [65] (fun v65 wc => ∃ (kq : Nat) (x65_32 : Bool), v65 = .bool x65_32 ∧ Aside0 (laws_FnExactMeetPlaces.j1 kq t432 t431 x65_32 = some r) ∧ Aside0 (kq ≤ kj8) ∧ Aside0 (Kd.R k26 26 wc w.heap.size (fun _ => True) (.slice Ao34 t426.length co34) t432) ∧ Aside0 (wc.heap[gb408]? = some (.cells #[.int .i64 a0_0, .int .i64 a0_1, .int .i64 a0_2] 25 (0, 0))) ∧ Aside0 (wc.heap[gb409]? = some (.cells #[.int .i64 a1_0, .int .i64 a1_1, .int .i64 a1_2] 25 (0, 0))) ∧ Aside0 (Below w.heap.size w wc))
      case first =>
       have H := HC33.out
       clear HC33
       replace H := Option.bind_eq_some_iff.mp H
       obtain ⟨t444, A400, H⟩ := H
       replace H : (if t444 = true then (laws_FnExactMeetPlaces.j1 kj8 t432 t431 (t443 != t419)) else (laws_FnExactMeetPlaces.j1 kj8 t432 t431 true)) = some r := H
       have A40 := Am A400
       clear A400
       by_cases c41 : t444 = true
       ·subst c41
        have H1 : (laws_FnExactMeetPlaces.j1 kj8 t432 t431 (t443 != t419)) = some r := by rw [if_pos rfl] at H; exact H
        clear H
        have H := H1
        clear H1
        have H' := Am H
        clear H
        obtain ⟨Ao42, co42, eo42⟩ := Kd.R_slice HO442.out
        subst eo42
        obtain ⟨Ao43, co43, eo43⟩ := Kd.R_slice HO_5.out
        subst eo43
        go_wp2_with (first | ((with_reducible refine gate_callee (f := 17) rfl ?_); refine goesL_ (some 59) rfl rfl Try.func17 (by kernel_rfl) rfl #[.slice Ao42 t440.length co42, .slice Ao43 t416.length co43] rfl (by (try simp only [List.map_toArray, List.map_cons, List.map_nil]); first | done | rfl | (simp only [List.length_drop, List.length_take]; rfl)) ?_; (with_reducible refine (laws_eqTurnS.calls kj8 _ _ t440 _ _ t416 true _ ?side1 ?side2 ?side3 ?side4 A40.out).mono ?_); (case side1 => repeat (first | exact (Kd.R_reads' HO442.out).2.2 | (with_reducible refine Kd.C_alloc ?_ _) | (with_reducible refine Kd.C_drewN ?_ _) | (with_reducible refine Kd.C_drew ?_))); (case side2 => exact (Kd.R_reads' HO442.out).2.1); (case side3 => repeat (first | exact (Kd.R_reads' HO_5.out).2.2 | (with_reducible refine Kd.C_alloc ?_ _) | (with_reducible refine Kd.C_drewN ?_ _) | (with_reducible refine Kd.C_drew ?_))); (case side4 => exact (Kd.R_reads' HO_5.out).2.1); rintro e w44 ⟨rfl, hb⟩; refine ⟨_, rfl, ?_⟩; have n0_ := Am (Kd.R_below (by (with_reducible repeat (first | apply Kd.R_alloc | apply Kd.R_drewN | apply Kd.R_drew)); exact HO_5.out) hb); have n1_ := Am (Kd.R_below (by (with_reducible repeat (first | apply Kd.R_alloc | apply Kd.R_drewN | apply Kd.R_drew)); exact HO_7.out) hb); have n2_ := Am (Kd.R_below (by (with_reducible repeat (first | apply Kd.R_alloc | apply Kd.R_drewN | apply Kd.R_drew)); exact HO442.out) hb); have n3_ := Am (kB (g := gb408) (o := .cells #[.int .i64 a0_0, .int .i64 a0_1, .int .i64 a0_2] 25 (0, 0)) (by (with_reducible repeat (first | refine kN ?_ _ | refine kD ?_ | refine kA ?_ _)); exact BK408.out) hb); have n4_ := Am (kB (g := gb409) (o := .cells #[.int .i64 a1_0, .int .i64 a1_1, .int .i64 a1_2] 25 (0, 0)) (by (with_reducible repeat (first | refine kN ?_ _ | refine kD ?_ | refine kA ?_ _)); exact BK409.out) hb); have n5_ := Am (bT (by repeat (first | (with_reducible first | exact HB.out | apply bA | apply bN | apply bD | refine bS ?_ GE408.out | refine bS ?_ GE409.out) | exact HB.out)) hb); clear HO_5; clear HO_7; clear HO442; clear BK408; clear BK409; clear HB; have HO_5 := n0_; have HO_7 := n1_; have HO442 := n2_; have BK408 := n3_; have BK409 := n4_; have HB := n5_; clear n0_ n1_ n2_ n3_ n4_ n5_; (try clear hb); (try clear hb2); (try clear hk); (try clear hi)))
        go_meet
        case rel => exact ⟨_, ((t443 != t419)), (by first | rfl | (simp; done) | (simp [*]; done)), H', ⟨by have := HJ8.out; first | omega | exact Nat.le_refl _⟩, ⟨by (with_reducible repeat (first | apply Kd.R_alloc | apply Kd.R_drewN | apply Kd.R_drew)); exact Kd.R_mono HO_7.out (fun _ hk => trivial)⟩, ⟨by (with_reducible repeat (first | refine kN ?_ _ | refine kD ?_ | refine kA ?_ _)); exact BK408.out⟩, ⟨by (with_reducible repeat (first | refine kN ?_ _ | refine kD ?_ | refine kA ?_ _)); exact BK409.out⟩, ⟨by repeat (first | (with_reducible first | exact HB.out | apply bA | apply bN | apply bD | refine bS ?_ GE408.out | refine bS ?_ GE409.out) | exact HB.out)⟩⟩
       ·replace c41 := Bool.eq_false_iff.mpr c41
        subst c41
        have H1 : (laws_FnExactMeetPlaces.j1 kj8 t432 t431 true) = some r := by rw [if_neg (show ¬ (false = true) by decide)] at H; exact H
        clear H
        have H := H1
        clear H1
        exact absurd ((laws_FnExactMeetPlaces.j1_no H).symm.trans hlaw.out) (by decide)
      case rest =>
       clear HC33
       try clear c1
       try clear c2
       try clear p2
       try clear c4
       try clear c5
       try clear c9
       try clear c11
       try clear c17
       try clear c18
       try clear c19
       try clear c21
       try clear c25
       try clear c28
       try clear c28b0
       try clear c29
       try clear c29b0
       try clear c29b1
       try clear c41
       try clear p2
       obtain ⟨kq, x65_32, rfl, HA, HJ32, HO_7, BK408, BK409, HB⟩ := hcut
       have hl7_32 := (Kd.R_reads' HO_7.out).1
       rw [hl7_32] at HO_7
       (try simp only [hl7_32])
       (try simp only [hl7_32] at BK408)
       (try simp only [hl7_32] at BK409)
       cases kq with
       | zero => exact absurd HA.out (by simp [laws_FnExactMeetPlaces.j1])
       | succ kj32 =>
        have H := HA.out
        clear HA
        simp only [laws_FnExactMeetPlaces.j1] at H
        by_cases c45 : x65_32 = true
        ·subst c45
         have H1 : (some false) = some r := by rw [if_pos rfl] at H; exact H
         clear H
         have H := H1
         clear H1
         exact absurd ((Option.some.inj H).trans hlaw.out) (by decide)
        ·replace c45 := Bool.eq_false_iff.mpr c45
         subst c45
         have H1 : ((laws_heldTurnS.f kj32 t432 1).bind fun t445 => (if t445 < 0 then (some false) else (if t445 = t431 then (some true) else (some false)))) = some r := by rw [if_neg (show ¬ (false = true) by decide)] at H; exact H
         clear H
         have H := H1
         clear H1
         replace H := Option.bind_eq_some_iff.mp H
         obtain ⟨t445, A460, H⟩ := H
         replace H : (if t445 < 0 then (some false) else (if t445 = t431 then (some true) else (some false))) = some r := H
         have A46 := Am A460
         clear A460
         by_cases c47 : t445 < 0
         ·rw [if_pos c47] at H
          have c47b0 : decide (t445 < 0) = true := decide_eq_true c47
          clear c47
          exact absurd ((Option.some.inj H).trans hlaw.out) (by decide)
         ·rw [if_neg c47] at H
          have c47b0 : decide (t445 < 0) = false := decide_eq_false c47
          clear c47
          by_cases c48 : t445 = t431
          ·rw [if_pos c48] at H
           have c48b0 : (t445 == t431) = true := beq_iff_eq.mpr c48
           have c48b1 : (t445 != t431) = false := bne_eq_false_iff_eq.mpr c48
           clear c48
           obtain rfl := Option.some.inj H
           go_wp2_with (first | ((with_reducible refine gate_callee (f := 19) rfl ?_); refine goesL_ (some 68) rfl rfl Try.func19 (by kernel_rfl) rfl #[.slice Ao34 t432.length co34, .int .i64 1] rfl (by (try simp only [List.map_toArray, List.map_cons, List.map_nil]); first | done | rfl | (simp only [List.length_drop, List.length_take]; rfl)) ?_; (with_reducible refine (laws_heldTurnS.calls kj32 _ _ t432 1 t445 _ ?side1 ?side2 A46.out).mono ?_); (case side1 => repeat (first | exact (Kd.R_reads' HO_7.out).2.2 | (with_reducible refine Kd.C_alloc ?_ _) | (with_reducible refine Kd.C_drewN ?_ _) | (with_reducible refine Kd.C_drew ?_))); (case side2 => exact (Kd.R_reads' HO_7.out).2.1); rintro e w' ⟨rfl, ⟨nd, rfl⟩⟩; refine ⟨_, rfl, ?_⟩))
           go_ret
           exact ⟨by first | rfl | (simp [errW_none, errW_some] <;> rfl) | (simp [*, errW_none, errW_some] <;> rfl), by repeat (first | (with_reducible first | exact HB.out | apply bA | apply bN | apply bD | refine bS ?_ GE408.out | refine bS ?_ GE409.out) | exact HB.out)⟩
          ·rw [if_neg c48] at H
           have c48b0 : (t445 == t431) = false := beq_eq_false_iff_ne.mpr c48
           have c48b1 : (t445 != t431) = true := bne_iff_ne.mpr c48
           exact absurd ((Option.some.inj H).trans hlaw.out) (by decide)
     ·rw [if_neg c29] at H
      have c29b0 : (t433 == t431) = false := beq_eq_false_iff_ne.mpr c29
      have c29b1 : (t433 != t431) = true := bne_iff_ne.mpr c29
      exact absurd ((Option.some.inj H).trans hlaw.out) (by decide)

/-- THE ONE PURE STATEMENT of laws_FnExactMeetPlaces: yours. -/
def laws_FnExactMeetPlaces.Pure : Prop := ∀ (a0_0 : Int) (a0_1 : Int) (a0_2 : Int) (a1_0 : Int) (a1_1 : Int) (a1_2 : Int), (Lit.int .i64 a0_0).wf = true → (Lit.int .i64 a0_1).wf = true → (Lit.int .i64 a0_2).wf = true → (Lit.int .i64 a1_0).wf = true → (Lit.int .i64 a1_1).wf = true → (Lit.int .i64 a1_2).wf = true → ∃ k, laws_FnExactMeetPlaces.f k a0_0 a0_1 a0_2 a1_0 a1_1 a1_2 = some true
theorem laws_FnExactMeetPlaces.walk (P : laws_FnExactMeetPlaces.Pure) (a0_0 : Int) (a0_1 : Int) (a0_2 : Int) (a1_0 : Int) (a1_1 : Int) (a1_2 : Int) (w : World) (w0_0 : (Lit.int .i64 a0_0).wf = true) (w0_1 : (Lit.int .i64 a0_1).wf = true) (w0_2 : (Lit.int .i64 a0_2).wf = true) (w1_0 : (Lit.int .i64 a1_0).wf = true) (w1_1 : (Lit.int .i64 a1_1).wf = true) (w1_2 : (Lit.int .i64 a1_2).wf = true) :
  Calls Try.prog 9 #[.agg #[.int .i64 a0_0, .int .i64 a0_1, .int .i64 a0_2], .agg #[.int .i64 a1_0, .int .i64 a1_1, .int .i64 a1_2]] w fun e w' => e = .returned (.bool true) ∧ Below w.heap.size w w' := by
 obtain ⟨k, h⟩ := P a0_0 a0_1 a0_2 a1_0 a1_1 a1_2 w0_0 w0_1 w0_2 w1_0 w1_1 w1_2
 refine (laws_FnExactMeetPlaces.calls k a0_0 a0_1 a0_2 a1_0 a1_1 a1_2 true w ⟨rfl⟩ h).mono ?_
 rintro e w' ⟨rfl, hd⟩
 exact ⟨rfl, hd⟩

end Go.Proofs.Ytioggbokjfdoaaa.PFnExactMeetPlaces
