-- WRITTEN BY A PROGRAM OF THIS SESSION (wip/tools): its own text, not the kit's printed one.
import Derived.Test.YtioggbokjfdoaaaPFnExactThreeMeetx0
import Derived.Test.YtioggbokjfdoaaaPFnExactThreeMeetx2
import Derived.Test.YtioggbokjfdoaaaPFnExactThreeMeetx4
import Derived.Test.YtioggbokjfdoaaaPFnExactThreeMeetx9
import Derived.Test.YtioggbokjfdoaaaPFnExactThreeMeetx10
namespace Go.Proofs.Ytioggbokjfdoaaa.PFnExactThreeMeet
open Go.RowKit Go.Proofs.YtioggbokjfdoaaaW.PrintWords Go.Proofs.YtioggbokjfdoaaaW.PrintLast Go.Proofs.YtioggbokjfdoaaaW.PrintMore
attribute [local go_sem] max2_int min2_int max_two min_two max_three min_three max_four min_four   -- for this text's walks alone
set_option linter.unusedVariables false
set_option linter.unusedSimpArgs false

/-! ### laws_FnExactThreeMeet: function 4 -/
mutual
def laws_FnExactThreeMeet.j0 : Nat → List (S26) → Bool → List (S26) → Bool → Int → Int → Int → Int → Int → Int → Int → Int → Int → Option (Bool)
 | 0, _, _, _, _, _, _, _, _, _, _, _, _, _ => none
 | k + 1, x7, x8, x9, x43, x329000, x329001, x329002, x330000, x330001, x330002, x331000, x331001, x331002 => if x43 = true then (some false) else ((laws_markTurnS.f k x9 1).bind fun bt358 => ((laws_heldTurnS.f k bt358.2 1).bind fun t360 => (if t360 < 0 then (some false) else (if t360 = bt358.1 then ((laws_toHand.f x329000 x329001 x329002).bind fun bt361 => ((laws_toHand.f x330000 x330001 x330002).bind fun bt364 => ((laws_toHand.f x331000 x331001 x331002).bind fun bt367 => ((impl_ThreeMeet.f k bt361.1 bt361.2.1 bt361.2.2 bt364.1 bt364.2.1 bt364.2.2 bt367.1 bt367.2.1 bt367.2.2).bind fun bt370 => ((laws_eqTurnS.f k bt370.1 x7).bind fun t374 => (if t374 = true then (laws_FnExactThreeMeet.j1 k bt358.2 bt358.1 (bt370.2 != x8)) else (laws_FnExactThreeMeet.j1 k bt358.2 bt358.1 true))))))) else (some false)))))
def laws_FnExactThreeMeet.j1 : Nat → List (S26) → Int → Bool → Option (Bool)
 | 0, _, _, _ => none
 | k + 1, x9, x11, x73 => if x73 = true then (some false) else ((laws_heldTurnS.f k x9 1).bind fun t375 => (if t375 < 0 then (some false) else (if t375 = x11 then (some true) else (some false))))
end
def laws_FnExactThreeMeet.f (k : Nat) (a0_0 : Int) (a0_1 : Int) (a0_2 : Int) (a1_0 : Int) (a1_1 : Int) (a1_2 : Int) (a2_0 : Int) (a2_1 : Int) (a2_2 : Int) : Option (Bool) := (laws_toHand.f a0_0 a0_1 a0_2).bind fun bt331 => ((laws_toHand.f a1_0 a1_1 a1_2).bind fun bt334 => ((laws_toHand.f a2_0 a2_1 a2_2).bind fun bt337 => ((spec_ThreeMeet.f k bt331.1 bt331.2.1 bt331.2.2 bt334.1 bt334.2.1 bt334.2.2 bt337.1 bt337.2.1 bt337.2.2).bind fun bt340 => ((laws_toHand.f a0_0 a0_1 a0_2).bind fun bt344 => ((laws_toHand.f a1_0 a1_1 a1_2).bind fun bt347 => ((laws_toHand.f a2_0 a2_1 a2_2).bind fun bt350 => ((impl_ThreeMeet.f k bt344.1 bt344.2.1 bt344.2.2 bt347.1 bt347.2.1 bt347.2.2 bt350.1 bt350.2.1 bt350.2.2).bind fun bt353 => ((laws_eqTurnS.f k bt353.1 bt340.1).bind fun t357 => (if t357 = true then (laws_FnExactThreeMeet.j0 k bt340.1 bt340.2 bt353.1 (bt353.2 != bt340.2) a0_0 a0_1 a0_2 a1_0 a1_1 a1_2 a2_0 a2_1 a2_2) else (laws_FnExactThreeMeet.j0 k bt340.1 bt340.2 bt353.1 true a0_0 a0_1 a0_2 a1_0 a1_1 a1_2 a2_0 a2_1 a2_2))))))))))
theorem laws_FnExactThreeMeet.mono_l : ∀ k, (∀ y0 y1 y2 y3 y4 y5 y6 y7 y8 y9 y10 y11 y12, LeO (laws_FnExactThreeMeet.j0 k y0 y1 y2 y3 y4 y5 y6 y7 y8 y9 y10 y11 y12) (laws_FnExactThreeMeet.j0 (k + 1) y0 y1 y2 y3 y4 y5 y6 y7 y8 y9 y10 y11 y12)) ∧ (∀ y0 y1 y2, LeO (laws_FnExactThreeMeet.j1 k y0 y1 y2) (laws_FnExactThreeMeet.j1 (k + 1) y0 y1 y2))
 | 0 => ⟨fun _ _ _ _ _ _ _ _ _ _ _ _ _ r h => by simp [laws_FnExactThreeMeet.j0] at h, fun _ _ _ r h => by simp [laws_FnExactThreeMeet.j1] at h⟩
 | k + 1 => by
  obtain ⟨ih0, ih1⟩ := laws_FnExactThreeMeet.mono_l k
  refine ⟨?_, ?_⟩
  ·intro y0 y1 y2 y3 y4 y5 y6 y7 y8 y9 y10 y11 y12
   unfold laws_FnExactThreeMeet.j0
   repeat' first
   | (with_reducible exact ih0 _ _ _ _ _ _ _ _ _ _ _ _ _)
   | (with_reducible exact ih1 _ _ _)
   | (with_reducible exact impl_ThreeMeet.mono _ _ _ _ _ _ _ _ _ _)
   | (with_reducible exact laws_eqTurnS.mono _ _ _)
   | (with_reducible exact laws_heldTurnS.mono _ _ _)
   | (with_reducible exact laws_markTurnS.mono _ _ _)
   | (with_reducible exact spec_ThreeMeet.mono _ _ _ _ _ _ _ _ _ _)
   | (with_reducible exact LeO.refl _)
   | (with_reducible exact LeO.none _)
   | (with_reducible refine LeO.ite ?_ ?_)
   | (with_reducible refine LeO.bind ?_ (fun _ => ?_))
   | exact ih0 _ _ _ _ _ _ _ _ _ _ _ _ _
   | exact ih1 _ _ _
   | exact impl_ThreeMeet.mono _ _ _ _ _ _ _ _ _ _
   | exact laws_eqTurnS.mono _ _ _
   | exact laws_heldTurnS.mono _ _ _
   | exact laws_markTurnS.mono _ _ _
   | exact spec_ThreeMeet.mono _ _ _ _ _ _ _ _ _ _
   | exact LeO.none _
   | refine LeO.ite ?_ ?_
   | refine LeO.bind ?_ (fun _ => ?_)
  ·intro y0 y1 y2
   unfold laws_FnExactThreeMeet.j1
   repeat' first
   | (with_reducible exact ih0 _ _ _ _ _ _ _ _ _ _ _ _ _)
   | (with_reducible exact ih1 _ _ _)
   | (with_reducible exact impl_ThreeMeet.mono _ _ _ _ _ _ _ _ _ _)
   | (with_reducible exact laws_eqTurnS.mono _ _ _)
   | (with_reducible exact laws_heldTurnS.mono _ _ _)
   | (with_reducible exact laws_markTurnS.mono _ _ _)
   | (with_reducible exact spec_ThreeMeet.mono _ _ _ _ _ _ _ _ _ _)
   | (with_reducible exact LeO.refl _)
   | (with_reducible exact LeO.none _)
   | (with_reducible refine LeO.ite ?_ ?_)
   | (with_reducible refine LeO.bind ?_ (fun _ => ?_))
   | exact ih0 _ _ _ _ _ _ _ _ _ _ _ _ _
   | exact ih1 _ _ _
   | exact impl_ThreeMeet.mono _ _ _ _ _ _ _ _ _ _
   | exact laws_eqTurnS.mono _ _ _
   | exact laws_heldTurnS.mono _ _ _
   | exact laws_markTurnS.mono _ _ _
   | exact spec_ThreeMeet.mono _ _ _ _ _ _ _ _ _ _
   | exact LeO.none _
   | refine LeO.ite ?_ ?_
   | refine LeO.bind ?_ (fun _ => ?_)
theorem laws_FnExactThreeMeet.mono : ∀ a0 a1 a2 a3 a4 a5 a6 a7 a8 k, LeO (laws_FnExactThreeMeet.f k a0 a1 a2 a3 a4 a5 a6 a7 a8) (laws_FnExactThreeMeet.f (k + 1) a0 a1 a2 a3 a4 a5 a6 a7 a8) := by
 intro a0 a1 a2 a3 a4 a5 a6 a7 a8 k
 obtain ⟨ih0, ih1⟩ := laws_FnExactThreeMeet.mono_l k
 unfold laws_FnExactThreeMeet.f
 repeat' first
   | (with_reducible exact ih0 _ _ _ _ _ _ _ _ _ _ _ _ _)
   | (with_reducible exact ih1 _ _ _)
   | (with_reducible exact impl_ThreeMeet.mono _ _ _ _ _ _ _ _ _ _)
   | (with_reducible exact laws_eqTurnS.mono _ _ _)
   | (with_reducible exact laws_heldTurnS.mono _ _ _)
   | (with_reducible exact laws_markTurnS.mono _ _ _)
   | (with_reducible exact spec_ThreeMeet.mono _ _ _ _ _ _ _ _ _ _)
   | (with_reducible exact LeO.refl _)
   | (with_reducible exact LeO.none _)
   | (with_reducible refine LeO.ite ?_ ?_)
   | (with_reducible refine LeO.bind ?_ (fun _ => ?_))
   | exact ih0 _ _ _ _ _ _ _ _ _ _ _ _ _
   | exact ih1 _ _ _
   | exact impl_ThreeMeet.mono _ _ _ _ _ _ _ _ _ _
   | exact laws_eqTurnS.mono _ _ _
   | exact laws_heldTurnS.mono _ _ _
   | exact laws_markTurnS.mono _ _ _
   | exact spec_ThreeMeet.mono _ _ _ _ _ _ _ _ _ _
   | exact LeO.none _
   | refine LeO.ite ?_ ?_
   | refine LeO.bind ?_ (fun _ => ?_)
def laws_FnExactThreeMeet.T1 : Bool × List (List Nat × List Nat) := (true, [([], []), ([0], [0]), ([], []), ([2, 1], [2]), ([], []), ([4, 3], [4]), ([1, 3, 5, 5], [1, 3, 5]), ([6], [6]), ([7], [7]), ([7], [7]), ([8, 6, 0, 1, 2, 3, 4, 5, 6, 7, 8], [8]), ([9, 10, 0, 1, 2, 3, 4, 5, 6, 7, 8, 9, 10], [9])])
def laws_FnExactThreeMeet.B1 : List Nat := [0, 1, 0, 7, 0, 31, 63, 127, 255, 255, 511, 2047]
theorem laws_FnExactThreeMeet.tab1 : rtab .any (opsOf Try.f4 1) = laws_FnExactThreeMeet.T1 := by kernel_rfl
theorem laws_FnExactThreeMeet.bits1 : waitsOk laws_FnExactThreeMeet.T1.2 laws_FnExactThreeMeet.B1 = true := by kernel_rfl
def laws_FnExactThreeMeet.T2 : Bool × List (List Nat × List Nat) := (true, [([], []), ([0], [0]), ([], []), ([2, 1], [2]), ([], []), ([4, 3], [4]), ([1, 3, 5, 5], [1, 3, 5]), ([6], [6]), ([7], [7]), ([7], [7]), ([8, 6, 0, 1, 2, 3, 4, 5, 6, 7, 8], [8]), ([9, 10, 0, 1, 2, 3, 4, 5, 6, 7, 8, 9, 10], [9])])
def laws_FnExactThreeMeet.B2 : List Nat := [0, 1, 0, 7, 0, 31, 63, 127, 255, 255, 511, 2047]
theorem laws_FnExactThreeMeet.tab2 : rtab .any (opsOf Try.f4 2) = laws_FnExactThreeMeet.T2 := by kernel_rfl
theorem laws_FnExactThreeMeet.bits2 : waitsOk laws_FnExactThreeMeet.T2.2 laws_FnExactThreeMeet.B2 = true := by kernel_rfl
def laws_FnExactThreeMeet.T13 : Bool × List (List Nat × List Nat) := (true, [([], []), ([0], [0]), ([], []), ([2, 1], [2]), ([], []), ([4, 3], [4]), ([1, 3, 5, 5], [1, 3, 5]), ([6], [6]), ([7], [7]), ([7], [7]), ([8, 6, 0, 1, 2, 3, 4, 5, 6, 7, 8], [8]), ([9, 10, 0, 1, 2, 3, 4, 5, 6, 7, 8, 9, 10], [9])])
def laws_FnExactThreeMeet.B13 : List Nat := [0, 1, 0, 7, 0, 31, 63, 127, 255, 255, 511, 2047]
theorem laws_FnExactThreeMeet.tab13 : rtab .any (opsOf Try.f4 13) = laws_FnExactThreeMeet.T13 := by kernel_rfl
theorem laws_FnExactThreeMeet.bits13 : waitsOk laws_FnExactThreeMeet.T13.2 laws_FnExactThreeMeet.B13 = true := by kernel_rfl
theorem laws_FnExactThreeMeet.j0_no {k_} {y0} {y1} {y2} {y4} {y5} {y6} {y7} {y8} {y9} {y10} {y11} {y12} {r : Bool} (h : laws_FnExactThreeMeet.j0 k_ y0 y1 y2 true y4 y5 y6 y7 y8 y9 y10 y11 y12 = some r) : r = false := by
 cases k_ with
 | zero => simp [laws_FnExactThreeMeet.j0] at h
 | succ k_ =>
  have e : laws_FnExactThreeMeet.j0 (k_ + 1) y0 y1 y2 true y4 y5 y6 y7 y8 y9 y10 y11 y12 = some false := by simp only [laws_FnExactThreeMeet.j0]; first | rfl | (rw [if_pos rfl]) | simp
  rw [e] at h
  exact (Option.some.inj h).symm
theorem laws_FnExactThreeMeet.j1_no {k_} {y0} {y1} {r : Bool} (h : laws_FnExactThreeMeet.j1 k_ y0 y1 true = some r) : r = false := by
 cases k_ with
 | zero => simp [laws_FnExactThreeMeet.j1] at h
 | succ k_ =>
  have e : laws_FnExactThreeMeet.j1 (k_ + 1) y0 y1 true = some false := by simp only [laws_FnExactThreeMeet.j1]; first | rfl | (rw [if_pos rfl]) | simp
  rw [e] at h
  exact (Option.some.inj h).symm
set_option maxHeartbeats 8000000 in
set_option maxRecDepth 100000 in
theorem laws_FnExactThreeMeet.calls (k : Nat) (a0_0 : Int) (a0_1 : Int) (a0_2 : Int) (a1_0 : Int) (a1_1 : Int) (a1_2 : Int) (a2_0 : Int) (a2_1 : Int) (a2_2 : Int) (r : Bool) (w : World) (hlaw : Aside0 (r = true)) (h : laws_FnExactThreeMeet.f k a0_0 a0_1 a0_2 a1_0 a1_1 a1_2 a2_0 a2_1 a2_2 = some r) :
  Calls Try.prog 4 #[.agg #[.int .i64 a0_0, .int .i64 a0_1, .int .i64 a0_2], .agg #[.int .i64 a1_0, .int .i64 a1_1, .int .i64 a1_2], .agg #[.int .i64 a2_0, .int .i64 a2_1, .int .i64 a2_2]] w fun e w' => e = .returned (.bool r) ∧ Below w.heap.size w w' := by
 have hu25 := Try.underlying25
 have HB := Am (Below.refl w.heap.size w)
 have H : ((laws_toHand.f a0_0 a0_1 a0_2).bind fun bt331 => ((laws_toHand.f a1_0 a1_1 a1_2).bind fun bt334 => ((laws_toHand.f a2_0 a2_1 a2_2).bind fun bt337 => ((spec_ThreeMeet.f k bt331.1 bt331.2.1 bt331.2.2 bt334.1 bt334.2.1 bt334.2.2 bt337.1 bt337.2.1 bt337.2.2).bind fun bt340 => ((laws_toHand.f a0_0 a0_1 a0_2).bind fun bt344 => ((laws_toHand.f a1_0 a1_1 a1_2).bind fun bt347 => ((laws_toHand.f a2_0 a2_1 a2_2).bind fun bt350 => ((impl_ThreeMeet.f k bt344.1 bt344.2.1 bt344.2.2 bt347.1 bt347.2.1 bt347.2.2 bt350.1 bt350.2.1 bt350.2.2).bind fun bt353 => ((laws_eqTurnS.f k bt353.1 bt340.1).bind fun t357 => (if t357 = true then (laws_FnExactThreeMeet.j0 k bt340.1 bt340.2 bt353.1 (bt353.2 != bt340.2) a0_0 a0_1 a0_2 a1_0 a1_1 a1_2 a2_0 a2_1 a2_2) else (laws_FnExactThreeMeet.j0 k bt340.1 bt340.2 bt353.1 true a0_0 a0_1 a0_2 a1_0 a1_1 a1_2 a2_0 a2_1 a2_2))))))))))) = some r := h
 clear h
 replace H := Option.bind_eq_some_iff.mp H
 obtain ⟨⟨t331, t332, t333⟩, A40, H⟩ := H
 try dsimp only at H
 have A4 := Am A40
 clear A40
 replace H := Option.bind_eq_some_iff.mp H
 obtain ⟨⟨t334, t335, t336⟩, A50, H⟩ := H
 try dsimp only at H
 have A5 := Am A50
 clear A50
 replace H := Option.bind_eq_some_iff.mp H
 obtain ⟨⟨t337, t338, t339⟩, A60, H⟩ := H
 try dsimp only at H
 have A6 := Am A60
 clear A60
 replace H := Option.bind_eq_some_iff.mp H
 obtain ⟨⟨t340, t343⟩, A70, H⟩ := H
 try dsimp only at H
 have A7 := Am A70
 clear A70
 replace H := Option.bind_eq_some_iff.mp H
 obtain ⟨⟨t344, t345, t346⟩, A80, H⟩ := H
 try dsimp only at H
 have A8 := Am A80
 clear A80
 replace H := Option.bind_eq_some_iff.mp H
 obtain ⟨⟨t347, t348, t349⟩, A90, H⟩ := H
 try dsimp only at H
 have A9 := Am A90
 clear A90
 replace H := Option.bind_eq_some_iff.mp H
 obtain ⟨⟨t350, t351, t352⟩, A100, H⟩ := H
 try dsimp only at H
 have A10 := Am A100
 clear A100
 replace H := Option.bind_eq_some_iff.mp H
 obtain ⟨⟨t353, t356⟩, A110, H⟩ := H
 try dsimp only at H
 have A11 := Am A110
 clear A110
 have HC12 := Am H
 clear H
 go_enter Try.func4, Try.ntmps4
 try go_wp2_with (first | ((with_reducible refine gate_dst (N := 3) rfl ?_); refine box_event ?hg (N := 3) ?hd (cs := #[.int .i64 a0_0, .int .i64 a0_1, .int .i64 a0_2]) (t := 25) ?hr ?_; (case hd => rfl); (case hg => rfl); (case hr => first | (go_simp; done) | (go_simp; rfl)); intro gb328 hg w13 hbox hb; have hv := hvK (w := w) hb (by repeat (first | (with_reducible first | exact HB.out | apply bA | apply bN | apply bD) | exact HB.out)); have n0_ := Am (bT hv hb); have n1_ := Am (hbox); have GW328 := kG hg hv; have GE328 := kG hg hv; clear HB; have HB := n0_; have BK328 := n1_; clear n0_ n1_ hv; clear hb hbox hg) | ((with_reducible refine gate_dst (N := 4) rfl ?_); refine box_event ?hg (N := 4) ?hd (cs := #[.int .i64 a1_0, .int .i64 a1_1, .int .i64 a1_2]) (t := 25) ?hr ?_; (case hd => rfl); (case hg => rfl); (case hr => first | (go_simp; done) | (go_simp; rfl)); intro gb329 hg w14 hbox hb; have hp0 := hpA BK328.out hb (fun _ _ h_ => by (with_reducible repeat (first | refine kN ?_ _ | refine kD ?_ | refine kA ?_ _)); exact h_); have hv := hvK (w := w) hb (by repeat (first | (with_reducible first | exact HB.out | apply bA | apply bN | apply bD | refine bX ?_ (by assumption)) | exact HB.out)); have n1_ := Am (bT hv hb); have n2_ := Am (hbox); have GW329 := kG hg hv; have GE329 := kG hg hv; have hp1 := hpK BK328.out hb (fun _ _ h_ => by (with_reducible repeat (first | refine kN ?_ _ | refine kD ?_ | refine kA ?_ _)); exact h_); have NB328_329 := kX hg (hp1 BK328.out); have NB329_328 := kY hg (hp1 BK328.out); clear HB; replace BK328 := hp0 BK328; have HB := n1_; have BK329 := n2_; clear n1_ n2_ hp0 hp1 hv; clear hb hbox hg) | ((with_reducible refine gate_dst (N := 5) rfl ?_); refine box_event ?hg (N := 5) ?hd (cs := #[.int .i64 a2_0, .int .i64 a2_1, .int .i64 a2_2]) (t := 25) ?hr ?_; (case hd => rfl); (case hg => rfl); (case hr => first | (go_simp; done) | (go_simp; rfl)); intro gb330 hg w15 hbox hb; have hp0 := hpA BK328.out hb (fun _ _ h_ => by (with_reducible repeat (first | refine kN ?_ _ | refine kD ?_ | refine kA ?_ _)); exact h_); have hv := hvK (w := w) hb (by repeat (first | (with_reducible first | exact HB.out | apply bA | apply bN | apply bD | refine bX ?_ (by assumption)) | exact HB.out)); have n2_ := Am (bT hv hb); have n3_ := Am (hbox); have GW330 := kG hg hv; have GE330 := kG hg hv; have hp1 := hpK BK328.out hb (fun _ _ h_ => by (with_reducible repeat (first | refine kN ?_ _ | refine kD ?_ | refine kA ?_ _)); exact h_); have NB328_330 := kX hg (hp1 BK328.out); have NB330_328 := kY hg (hp1 BK328.out); have NB329_330 := kX hg (hp1 BK329.out); have NB330_329 := kY hg (hp1 BK329.out); clear HB; replace BK328 := hp0 BK328; replace BK329 := hp0 BK329; have HB := n2_; have BK330 := n3_; clear n2_ n3_ hp0 hp1 hv; clear hb hbox hg))
 have n0_ := Am (kD BK328.out)
 have n1_ := Am (kD BK329.out)
 have n2_ := Am (kD BK330.out)
 have n3_ := Am (bD HB.out)
 clear BK328 BK329 BK330 HB
 have BK328 := n0_; have BK329 := n1_; have BK330 := n2_; have HB := n3_
 clear n0_ n1_ n2_ n3_
 refine start_ (n := 12) (S := fun w' => w'.cell? ⟨gb328, 0, none⟩ = some (.int .i64 a0_0) ∧ w'.cell? ⟨gb328, 1, none⟩ = some (.int .i64 a0_1) ∧ w'.cell? ⟨gb328, 2, none⟩ = some (.int .i64 a0_2) ∧ w'.cell? ⟨gb329, 0, none⟩ = some (.int .i64 a1_0) ∧ w'.cell? ⟨gb329, 1, none⟩ = some (.int .i64 a1_1) ∧ w'.cell? ⟨gb329, 2, none⟩ = some (.int .i64 a1_2) ∧ w'.cell? ⟨gb330, 0, none⟩ = some (.int .i64 a2_0) ∧ w'.cell? ⟨gb330, 1, none⟩ = some (.int .i64 a2_1) ∧ w'.cell? ⟨gb330, 2, none⟩ = some (.int .i64 a2_2)) (ds := []) (pT 12 0) (by kernel_rfl) rfl rfl ⟨c30 BK328.out, c31 BK328.out, c32 BK328.out, c30 BK329.out, c31 BK329.out, c32 BK329.out, c30 BK330.out, c31 BK330.out, c32 BK330.out⟩ (fun hHeld => ?_); refine with_tabW laws_FnExactThreeMeet.tab1 laws_FnExactThreeMeet.bits1 (fun HT_ HW_ => ?_)
 generalize w15.drew = w16 at BK328 BK329 BK330 HB hHeld ⊢
 refine tI (v := ?_) (a' := ?_) rfl (take_ofW HT_.out HW_.out (by kernel_rfl)) (fun _ _ _ h => h) (Or.inl ⟨by rfl, ?_⟩) hHeld ?_ ?_
 rotate_left
 ·rintro w' ⟨s0, s1, s2, s3, s4, s5, s6, s7, s8⟩
  go_simp
  with_reducible rfl
 rotate_left
 ·show Act.put _ (some _) _ = _
  simp only [Act.put, List.setIfInBounds_toArray, List.set_cons_zero, List.set_cons_succ, i64_w, i32_w]
  rfl
 refine take_ (i := 2) (N := some 18) (v := ?_) (a' := ?_) #[true, false, true, false, false, false, false, false, false, false, false, false] rfl rfl (take_ofW HT_.out HW_.out (by kernel_rfl)) (fun _ _ _ h => h) (Or.inl ⟨by rfl, ?_⟩) hHeld ?_ ?_
 rotate_left
 ·rintro w' ⟨s0, s1, s2, s3, s4, s5, s6, s7, s8⟩
  go_simp
  with_reducible rfl
 rotate_left
 ·simp only [Act.put, List.setIfInBounds_toArray, List.set_cons_zero, List.set_cons_succ, i64_w, i32_w]
  rfl
 refine take_ (i := 4) (N := some 20) (v := ?_) (a' := ?_) #[true, false, true, false, true, false, false, false, false, false, false, false] rfl rfl (take_ofW HT_.out HW_.out (by kernel_rfl)) (fun _ _ _ h => h) (Or.inl ⟨by rfl, ?_⟩) hHeld ?_ ?_
 rotate_left
 ·rintro w' ⟨s0, s1, s2, s3, s4, s5, s6, s7, s8⟩
  go_simp
  with_reducible rfl
 rotate_left
 ·simp only [Act.put, List.setIfInBounds_toArray, List.set_cons_zero, List.set_cons_succ, i64_w, i32_w]
  rfl
 refine one_ (i := 1) (N := some 17) #[true, true, true, false, true, false, false, false, false, false, false, false] rfl rfl (one_of HT_.out (by kernel_rfl)) (by decide) (fun K hK => ?_)
 refine goes_ Try.func11 (by kernel_rfl) rfl #[.agg #[.int .i64 a0_0, .int .i64 a0_1, .int .i64 a0_2]] (by rfl) rfl rfl (by (try simp only [List.map_toArray, List.map_cons, List.map_nil]); first | done | rfl | (simp only [List.length_drop, List.length_take]; rfl)) ?_
 with_reducible refine (laws_toHand.calls a0_0 a0_1 a0_2 t331 t332 t333 _ A4.out).mono ?_
 rintro e w17 ⟨rfl, hb⟩
 refine ⟨_, rfl, ?_⟩
 have hp0 := hpA BK328.out hb (fun _ _ h_ => by (with_reducible repeat (first | refine kN ?_ _ | refine kD ?_ | refine kA ?_ _)); exact h_)
 have hv := hvK (w := w) hb (by repeat (first | (with_reducible first | exact HB.out | apply bA | apply bN | apply bD | refine bX ?_ (by assumption)) | exact HB.out))
 have n3_ := Am (bT hv hb)
 clear HB
 replace BK328 := hp0 BK328; replace BK329 := hp0 BK329; replace BK330 := hp0 BK330
 have HB := n3_
 clear n3_ hp0 hv
 (try clear hb)
 refine hK.out _ _ ⟨c30 BK328.out, c31 BK328.out, c32 BK328.out, c30 BK329.out, c31 BK329.out, c32 BK329.out, c30 BK330.out, c31 BK330.out, c32 BK330.out⟩ (fun hHeld => ?_)
 clear hK K
 refine norm_ (a' := ?_) ?_ ?_
 rotate_left
 ·show Act.put _ (some 17) _ = _
  simp only [Act.put, List.setIfInBounds_toArray, List.set_cons_zero, List.set_cons_succ, i64_w, i32_w]
  rfl
 refine one_ (i := 3) (N := some 19) (pT 12 5) rfl rfl (one_of HT_.out (by kernel_rfl)) (by decide) (fun K hK => ?_)
 refine goes_ Try.func11 (by kernel_rfl) rfl #[.agg #[.int .i64 a1_0, .int .i64 a1_1, .int .i64 a1_2]] (by rfl) rfl rfl (by (try simp only [List.map_toArray, List.map_cons, List.map_nil]); first | done | rfl | (simp only [List.length_drop, List.length_take]; rfl)) ?_
 with_reducible refine (laws_toHand.calls a1_0 a1_1 a1_2 t334 t335 t336 _ A5.out).mono ?_
 rintro e w18 ⟨rfl, hb⟩
 refine ⟨_, rfl, ?_⟩
 have hp0 := hpA BK328.out hb (fun _ _ h_ => by (with_reducible repeat (first | refine kN ?_ _ | refine kD ?_ | refine kA ?_ _)); exact h_)
 have hv := hvK (w := w) hb (by repeat (first | (with_reducible first | exact HB.out | apply bA | apply bN | apply bD | refine bX ?_ (by assumption)) | exact HB.out))
 have n3_ := Am (bT hv hb)
 clear HB
 replace BK328 := hp0 BK328; replace BK329 := hp0 BK329; replace BK330 := hp0 BK330
 have HB := n3_
 clear n3_ hp0 hv
 (try clear hb)
 refine hK.out _ _ ⟨c30 BK328.out, c31 BK328.out, c32 BK328.out, c30 BK329.out, c31 BK329.out, c32 BK329.out, c30 BK330.out, c31 BK330.out, c32 BK330.out⟩ (fun hHeld => ?_)
 clear hK K
 refine norm_ (a' := ?_) ?_ ?_
 rotate_left
 ·show Act.put _ (some 19) _ = _
  simp only [Act.put, List.setIfInBounds_toArray, List.set_cons_zero, List.set_cons_succ, i64_w, i32_w]
  rfl
 refine one_ (i := 5) (N := some 21) (pT 12 6) rfl rfl (one_of HT_.out (by kernel_rfl)) (by decide) (fun K hK => ?_)
 refine goes_ Try.func11 (by kernel_rfl) rfl #[.agg #[.int .i64 a2_0, .int .i64 a2_1, .int .i64 a2_2]] (by rfl) rfl rfl (by (try simp only [List.map_toArray, List.map_cons, List.map_nil]); first | done | rfl | (simp only [List.length_drop, List.length_take]; rfl)) ?_
 with_reducible refine (laws_toHand.calls a2_0 a2_1 a2_2 t337 t338 t339 _ A6.out).mono ?_
 rintro e w19 ⟨rfl, hb⟩
 refine ⟨_, rfl, ?_⟩
 have hp0 := hpA BK328.out hb (fun _ _ h_ => by (with_reducible repeat (first | refine kN ?_ _ | refine kD ?_ | refine kA ?_ _)); exact h_)
 have hv := hvK (w := w) hb (by repeat (first | (with_reducible first | exact HB.out | apply bA | apply bN | apply bD | refine bX ?_ (by assumption)) | exact HB.out))
 have n3_ := Am (bT hv hb)
 clear HB
 replace BK328 := hp0 BK328; replace BK329 := hp0 BK329; replace BK330 := hp0 BK330
 have HB := n3_
 clear n3_ hp0 hv
 (try clear hb)
 refine hK.out _ _ ⟨c30 BK328.out, c31 BK328.out, c32 BK328.out, c30 BK329.out, c31 BK329.out, c32 BK329.out, c30 BK330.out, c31 BK330.out, c32 BK330.out⟩ (fun hHeld => ?_)
 clear hK K
 refine norm_ (a' := ?_) ?_ ?_
 rotate_left
 ·show Act.put _ (some 21) _ = _
  simp only [Act.put, List.setIfInBounds_toArray, List.set_cons_zero, List.set_cons_succ, i64_w, i32_w]
  rfl
 refine one_ (i := 6) (N := some 22) (pT 12 7) rfl rfl (one_of HT_.out (by kernel_rfl)) (by decide) (fun K hK => ?_)
 refine goes_ Try.func15 (by kernel_rfl) rfl #[.agg #[.int .i64 t331, .int .i64 t332, .int .i64 t333], .agg #[.int .i64 t334, .int .i64 t335, .int .i64 t336], .agg #[.int .i64 t337, .int .i64 t338, .int .i64 t339]] (by rfl) rfl rfl (by (try simp only [List.map_toArray, List.map_cons, List.map_nil]); first | done | rfl | (simp only [List.length_drop, List.length_take]; rfl)) ?_
 with_reducible refine (spec_ThreeMeet.calls k t331 t332 t333 t334 t335 t336 t337 t338 t339 t340 t343 _ A7.out).mono ?_
 rintro e w20 ⟨v341, rfl, ho0, hb⟩
 refine ⟨_, rfl, ?_⟩
 have n0_ := Am (Kd.R_lower ho0 (bZ (by repeat (first | (with_reducible first | exact HB.out | apply bA | apply bN | apply bD | refine bX ?_ (by assumption)) | exact HB.out))))
 have hp0 := hpA BK328.out hb (fun _ _ h_ => by (with_reducible repeat (first | refine kN ?_ _ | refine kD ?_ | refine kA ?_ _)); exact h_)
 have hv := hvK (w := w) hb (by repeat (first | (with_reducible first | exact HB.out | apply bA | apply bN | apply bD | refine bX ?_ (by assumption)) | exact HB.out))
 have n4_ := Am (bT hv hb)
 clear HB
 have HO342 := n0_
 replace BK328 := hp0 BK328; replace BK329 := hp0 BK329; replace BK330 := hp0 BK330
 have HB := n4_
 clear n0_ n4_ hp0 hv
 (try clear hb)
 refine hK.out _ _ ⟨c30 BK328.out, c31 BK328.out, c32 BK328.out, c30 BK329.out, c31 BK329.out, c32 BK329.out, c30 BK330.out, c31 BK330.out, c32 BK330.out⟩ (fun hHeld => ?_)
 clear hK K
 refine norm_ (a' := ?_) ?_ ?_
 rotate_left
 ·show Act.put _ (some 22) _ = _
  simp only [Act.put, List.setIfInBounds_toArray, List.set_cons_zero, List.set_cons_succ, i64_w, i32_w]
  rfl
 iterate 5
  refine pI (v := ?_) (a' := ?_) rfl (any_of HT_.out (by kernel_rfl)) (fun _ _ _ h => h) (Or.inl ⟨by rfl, ?_⟩) ?_ ?_
  rotate_left
  ·intro w'
   go_simp
   with_reducible rfl
  rotate_left
  ·show Act.put _ (some _) _ = _
   simp only [Act.put, List.setIfInBounds_toArray, List.set_cons_zero, List.set_cons_succ, i64_w, i32_w]
   rfl
 refine done_ (done_of HT_.out (by kernel_rfl)) ?_
 try go_wp2
 have n0_ := Am (Kd.R_drew HO342.out)
 have n1_ := Am (kD BK328.out)
 have n2_ := Am (kD BK329.out)
 have n3_ := Am (kD BK330.out)
 have n4_ := Am (bD HB.out)
 clear HO342 BK328 BK329 BK330 HB
 have HO342 := n0_; have BK328 := n1_; have BK329 := n2_; have BK330 := n3_; have HB := n4_
 clear n0_ n1_ n2_ n3_ n4_
 refine start_ (n := 12) (S := fun w' => w'.cell? ⟨gb328, 0, none⟩ = some (.int .i64 a0_0) ∧ w'.cell? ⟨gb328, 1, none⟩ = some (.int .i64 a0_1) ∧ w'.cell? ⟨gb328, 2, none⟩ = some (.int .i64 a0_2) ∧ w'.cell? ⟨gb329, 0, none⟩ = some (.int .i64 a1_0) ∧ w'.cell? ⟨gb329, 1, none⟩ = some (.int .i64 a1_1) ∧ w'.cell? ⟨gb329, 2, none⟩ = some (.int .i64 a1_2) ∧ w'.cell? ⟨gb330, 0, none⟩ = some (.int .i64 a2_0) ∧ w'.cell? ⟨gb330, 1, none⟩ = some (.int .i64 a2_1) ∧ w'.cell? ⟨gb330, 2, none⟩ = some (.int .i64 a2_2)) (ds := []) (pT 12 0) (by kernel_rfl) rfl rfl ⟨c30 BK328.out, c31 BK328.out, c32 BK328.out, c30 BK329.out, c31 BK329.out, c32 BK329.out, c30 BK330.out, c31 BK330.out, c32 BK330.out⟩ (fun hHeld => ?_); refine with_tabW laws_FnExactThreeMeet.tab2 laws_FnExactThreeMeet.bits2 (fun HT_ HW_ => ?_)
 generalize w20.drew = w21 at HO342 BK328 BK329 BK330 HB hHeld ⊢
 refine tI (v := ?_) (a' := ?_) rfl (take_ofW HT_.out HW_.out (by kernel_rfl)) (fun _ _ _ h => h) (Or.inl ⟨by rfl, ?_⟩) hHeld ?_ ?_
 rotate_left
 ·rintro w' ⟨s0, s1, s2, s3, s4, s5, s6, s7, s8⟩
  go_simp
  with_reducible rfl
 rotate_left
 ·show Act.put _ (some _) _ = _
  simp only [Act.put, List.setIfInBounds_toArray, List.set_cons_zero, List.set_cons_succ, i64_w, i32_w]
  rfl
 refine take_ (i := 2) (N := some 28) (v := ?_) (a' := ?_) #[true, false, true, false, false, false, false, false, false, false, false, false] rfl rfl (take_ofW HT_.out HW_.out (by kernel_rfl)) (fun _ _ _ h => h) (Or.inl ⟨by rfl, ?_⟩) hHeld ?_ ?_
 rotate_left
 ·rintro w' ⟨s0, s1, s2, s3, s4, s5, s6, s7, s8⟩
  go_simp
  with_reducible rfl
 rotate_left
 ·simp only [Act.put, List.setIfInBounds_toArray, List.set_cons_zero, List.set_cons_succ, i64_w, i32_w]
  rfl
 refine take_ (i := 4) (N := some 30) (v := ?_) (a' := ?_) #[true, false, true, false, true, false, false, false, false, false, false, false] rfl rfl (take_ofW HT_.out HW_.out (by kernel_rfl)) (fun _ _ _ h => h) (Or.inl ⟨by rfl, ?_⟩) hHeld ?_ ?_
 rotate_left
 ·rintro w' ⟨s0, s1, s2, s3, s4, s5, s6, s7, s8⟩
  go_simp
  with_reducible rfl
 rotate_left
 ·simp only [Act.put, List.setIfInBounds_toArray, List.set_cons_zero, List.set_cons_succ, i64_w, i32_w]
  rfl
 refine one_ (i := 1) (N := some 27) #[true, true, true, false, true, false, false, false, false, false, false, false] rfl rfl (one_of HT_.out (by kernel_rfl)) (by decide) (fun K hK => ?_)
 refine goes_ Try.func11 (by kernel_rfl) rfl #[.agg #[.int .i64 a0_0, .int .i64 a0_1, .int .i64 a0_2]] (by rfl) rfl rfl (by (try simp only [List.map_toArray, List.map_cons, List.map_nil]); first | done | rfl | (simp only [List.length_drop, List.length_take]; rfl)) ?_
 with_reducible refine (laws_toHand.calls a0_0 a0_1 a0_2 t344 t345 t346 _ A8.out).mono ?_
 rintro e w22 ⟨rfl, hb⟩
 refine ⟨_, rfl, ?_⟩
 have n0_ := Am (Kd.R_below (by (with_reducible repeat (first | apply Kd.R_alloc | apply Kd.R_drewN | apply Kd.R_drew)); exact HO342.out) hb)
 have hp0 := hpA BK328.out hb (fun _ _ h_ => by (with_reducible repeat (first | refine kN ?_ _ | refine kD ?_ | refine kA ?_ _)); exact h_)
 have hv := hvK (w := w) hb (by repeat (first | (with_reducible first | exact HB.out | apply bA | apply bN | apply bD | refine bX ?_ (by assumption)) | exact HB.out))
 have n4_ := Am (bT hv hb)
 clear HO342 HB
 have HO342 := n0_
 replace BK328 := hp0 BK328; replace BK329 := hp0 BK329; replace BK330 := hp0 BK330
 have HB := n4_
 clear n0_ n4_ hp0 hv
 (try clear hb)
 refine hK.out _ _ ⟨c30 BK328.out, c31 BK328.out, c32 BK328.out, c30 BK329.out, c31 BK329.out, c32 BK329.out, c30 BK330.out, c31 BK330.out, c32 BK330.out⟩ (fun hHeld => ?_)
 clear hK K
 refine norm_ (a' := ?_) ?_ ?_
 rotate_left
 ·show Act.put _ (some 27) _ = _
  simp only [Act.put, List.setIfInBounds_toArray, List.set_cons_zero, List.set_cons_succ, i64_w, i32_w]
  rfl
 refine one_ (i := 3) (N := some 29) (pT 12 5) rfl rfl (one_of HT_.out (by kernel_rfl)) (by decide) (fun K hK => ?_)
 refine goes_ Try.func11 (by kernel_rfl) rfl #[.agg #[.int .i64 a1_0, .int .i64 a1_1, .int .i64 a1_2]] (by rfl) rfl rfl (by (try simp only [List.map_toArray, List.map_cons, List.map_nil]); first | done | rfl | (simp only [List.length_drop, List.length_take]; rfl)) ?_
 with_reducible refine (laws_toHand.calls a1_0 a1_1 a1_2 t347 t348 t349 _ A9.out).mono ?_
 rintro e w23 ⟨rfl, hb⟩
 refine ⟨_, rfl, ?_⟩
 have n0_ := Am (Kd.R_below (by (with_reducible repeat (first | apply Kd.R_alloc | apply Kd.R_drewN | apply Kd.R_drew)); exact HO342.out) hb)
 have hp0 := hpA BK328.out hb (fun _ _ h_ => by (with_reducible repeat (first | refine kN ?_ _ | refine kD ?_ | refine kA ?_ _)); exact h_)
 have hv := hvK (w := w) hb (by repeat (first | (with_reducible first | exact HB.out | apply bA | apply bN | apply bD | refine bX ?_ (by assumption)) | exact HB.out))
 have n4_ := Am (bT hv hb)
 clear HO342 HB
 have HO342 := n0_
 replace BK328 := hp0 BK328; replace BK329 := hp0 BK329; replace BK330 := hp0 BK330
 have HB := n4_
 clear n0_ n4_ hp0 hv
 (try clear hb)
 refine hK.out _ _ ⟨c30 BK328.out, c31 BK328.out, c32 BK328.out, c30 BK329.out, c31 BK329.out, c32 BK329.out, c30 BK330.out, c31 BK330.out, c32 BK330.out⟩ (fun hHeld => ?_)
 clear hK K
 refine norm_ (a' := ?_) ?_ ?_
 rotate_left
 ·show Act.put _ (some 29) _ = _
  simp only [Act.put, List.setIfInBounds_toArray, List.set_cons_zero, List.set_cons_succ, i64_w, i32_w]
  rfl
 refine one_ (i := 5) (N := some 31) (pT 12 6) rfl rfl (one_of HT_.out (by kernel_rfl)) (by decide) (fun K hK => ?_)
 refine goes_ Try.func11 (by kernel_rfl) rfl #[.agg #[.int .i64 a2_0, .int .i64 a2_1, .int .i64 a2_2]] (by rfl) rfl rfl (by (try simp only [List.map_toArray, List.map_cons, List.map_nil]); first | done | rfl | (simp only [List.length_drop, List.length_take]; rfl)) ?_
 with_reducible refine (laws_toHand.calls a2_0 a2_1 a2_2 t350 t351 t352 _ A10.out).mono ?_
 rintro e w24 ⟨rfl, hb⟩
 refine ⟨_, rfl, ?_⟩
 have n0_ := Am (Kd.R_below (by (with_reducible repeat (first | apply Kd.R_alloc | apply Kd.R_drewN | apply Kd.R_drew)); exact HO342.out) hb)
 have hp0 := hpA BK328.out hb (fun _ _ h_ => by (with_reducible repeat (first | refine kN ?_ _ | refine kD ?_ | refine kA ?_ _)); exact h_)
 have hv := hvK (w := w) hb (by repeat (first | (with_reducible first | exact HB.out | apply bA | apply bN | apply bD | refine bX ?_ (by assumption)) | exact HB.out))
 have n4_ := Am (bT hv hb)
 clear HO342 HB
 have HO342 := n0_
 replace BK328 := hp0 BK328; replace BK329 := hp0 BK329; replace BK330 := hp0 BK330
 have HB := n4_
 clear n0_ n4_ hp0 hv
 (try clear hb)
 refine hK.out _ _ ⟨c30 BK328.out, c31 BK328.out, c32 BK328.out, c30 BK329.out, c31 BK329.out, c32 BK329.out, c30 BK330.out, c31 BK330.out, c32 BK330.out⟩ (fun hHeld => ?_)
 clear hK K
 refine norm_ (a' := ?_) ?_ ?_
 rotate_left
 ·show Act.put _ (some 31) _ = _
  simp only [Act.put, List.setIfInBounds_toArray, List.set_cons_zero, List.set_cons_succ, i64_w, i32_w]
  rfl
 refine one_ (i := 6) (N := some 32) (pT 12 7) rfl rfl (one_of HT_.out (by kernel_rfl)) (by decide) (fun K hK => ?_)
 refine goes_ Try.func16 (by kernel_rfl) rfl #[.agg #[.int .i64 t344, .int .i64 t345, .int .i64 t346], .agg #[.int .i64 t347, .int .i64 t348, .int .i64 t349], .agg #[.int .i64 t350, .int .i64 t351, .int .i64 t352]] (by rfl) rfl rfl (by (try simp only [List.map_toArray, List.map_cons, List.map_nil]); first | done | rfl | (simp only [List.length_drop, List.length_take]; rfl)) ?_
 with_reducible refine (impl_ThreeMeet.calls k t344 t345 t346 t347 t348 t349 t350 t351 t352 t353 t356 _ A11.out).mono ?_
 rintro e w25 ⟨v354, rfl, ho0, hb⟩
 refine ⟨_, rfl, ?_⟩
 have n0_ := Am (Kd.R_elder' (by (with_reducible repeat (first | apply Kd.R_alloc | apply Kd.R_drewN | apply Kd.R_drew)); exact HO342.out) (Kd.R_base ho0) hb)
 have n1_ := Am (Kd.R_lower (Kd.R_new' ho0 (Kd.R_lt (by (with_reducible repeat (first | apply Kd.R_alloc | apply Kd.R_drewN | apply Kd.R_drew)); exact HO342.out))) (bZ (by repeat (first | (with_reducible first | exact HB.out | apply bA | apply bN | apply bD | refine bX ?_ (by assumption)) | exact HB.out))))
 have hp0 := hpA BK328.out hb (fun _ _ h_ => by (with_reducible repeat (first | refine kN ?_ _ | refine kD ?_ | refine kA ?_ _)); exact h_)
 have hv := hvK (w := w) hb (by repeat (first | (with_reducible first | exact HB.out | apply bA | apply bN | apply bD | refine bX ?_ (by assumption)) | exact HB.out))
 have n5_ := Am (bT hv hb)
 clear HO342 HB
 have HO342 := n0_; have HO355 := n1_
 replace BK328 := hp0 BK328; replace BK329 := hp0 BK329; replace BK330 := hp0 BK330
 have HB := n5_
 clear n0_ n1_ n5_ hp0 hv
 (try clear hb)
 refine hK.out _ _ ⟨c30 BK328.out, c31 BK328.out, c32 BK328.out, c30 BK329.out, c31 BK329.out, c32 BK329.out, c30 BK330.out, c31 BK330.out, c32 BK330.out⟩ (fun hHeld => ?_)
 clear hK K
 refine norm_ (a' := ?_) ?_ ?_
 rotate_left
 ·show Act.put _ (some 32) _ = _
  simp only [Act.put, List.setIfInBounds_toArray, List.set_cons_zero, List.set_cons_succ, i64_w, i32_w]
  rfl
 iterate 5
  refine pI (v := ?_) (a' := ?_) rfl (any_of HT_.out (by kernel_rfl)) (fun _ _ _ h => h) (Or.inl ⟨by rfl, ?_⟩) ?_ ?_
  rotate_left
  ·intro w'
   go_simp
   with_reducible rfl
  rotate_left
  ·show Act.put _ (some _) _ = _
   simp only [Act.put, List.setIfInBounds_toArray, List.set_cons_zero, List.set_cons_succ, i64_w, i32_w]
   rfl
 refine done_ (done_of HT_.out (by kernel_rfl)) ?_
 go_upto_region 3 with (fail)
 go_cut [43] (fun v43 wc => ∃ (kq : Nat) (x43_11 : Bool), v43 = .bool x43_11 ∧ Aside0 (laws_FnExactThreeMeet.j0 kq t340 t343 t353 x43_11 a0_0 a0_1 a0_2 a1_0 a1_1 a1_2 a2_0 a2_1 a2_2 = some r) ∧ Aside0 (kq ≤ k) ∧ Aside0 (Kd.R k26 26 wc w.heap.size (fun k_ => some k_ ≠ (v354 : Value).ownBlock) v341 t340) ∧ Aside0 (Kd.R k26 26 wc w.heap.size (fun k_ => some k_ ≠ (v341 : Value).ownBlock) v354 t353) ∧ Aside0 (wc.heap[gb328]? = some (.cells #[.int .i64 a0_0, .int .i64 a0_1, .int .i64 a0_2] 25 (0, 0))) ∧ Aside0 (wc.heap[gb329]? = some (.cells #[.int .i64 a1_0, .int .i64 a1_1, .int .i64 a1_2] 25 (0, 0))) ∧ Aside0 (wc.heap[gb330]? = some (.cells #[.int .i64 a2_0, .int .i64 a2_1, .int .i64 a2_2] 25 (0, 0))) ∧ Aside0 (Below w.heap.size w wc))
 case first =>
  have H := HC12.out
  clear HC12
  replace H := Option.bind_eq_some_iff.mp H
  obtain ⟨t357, A260, H⟩ := H
  try dsimp only at H
  have A26 := Am A260
  clear A260
  by_cases c27 : t357 = true
  ·subst c27
   have H1 : (laws_FnExactThreeMeet.j0 k t340 t343 t353 (t356 != t343) a0_0 a0_1 a0_2 a1_0 a1_1 a1_2 a2_0 a2_1 a2_2) = some r := by rw [if_pos rfl] at H; exact H
   clear H
   have H := H1
   clear H1
   have H' := Am H
   clear H
   obtain ⟨Ao28, co28, eo28⟩ := Kd.R_slice HO355.out
   subst eo28
   obtain ⟨Ao29, co29, eo29⟩ := Kd.R_slice HO342.out
   subst eo29
   go_wp2_with (first | ((with_reducible refine gate_callee (f := 17) rfl ?_); refine goesL_ (some 37) rfl rfl Try.func17 (by kernel_rfl) rfl #[.slice Ao28 t353.length co28, .slice Ao29 t340.length co29] rfl (by (try simp only [List.map_toArray, List.map_cons, List.map_nil]); first | done | rfl | (simp only [List.length_drop, List.length_take]; rfl)) ?_; (with_reducible refine (laws_eqTurnS.calls k _ _ t353 _ _ t340 true _ ?side1 ?side2 ?side3 ?side4 A26.out).mono ?_); (case side1 => repeat (first | exact (Kd.R_reads' HO355.out).2.2 | (with_reducible refine Kd.C_alloc ?_ _) | (with_reducible refine Kd.C_drewN ?_ _) | (with_reducible refine Kd.C_drew ?_))); (case side2 => exact (Kd.R_reads' HO355.out).2.1); (case side3 => repeat (first | exact (Kd.R_reads' HO342.out).2.2 | (with_reducible refine Kd.C_alloc ?_ _) | (with_reducible refine Kd.C_drewN ?_ _) | (with_reducible refine Kd.C_drew ?_))); (case side4 => exact (Kd.R_reads' HO342.out).2.1); rintro e w30 ⟨rfl, hb⟩; refine ⟨_, rfl, ?_⟩; have n0_ := Am (Kd.R_below (by (with_reducible repeat (first | apply Kd.R_alloc | apply Kd.R_drewN | apply Kd.R_drew)); exact HO342.out) hb); have n1_ := Am (Kd.R_below (by (with_reducible repeat (first | apply Kd.R_alloc | apply Kd.R_drewN | apply Kd.R_drew)); exact HO355.out) hb); have hp0 := hpA BK328.out hb (fun _ _ h_ => by (with_reducible repeat (first | refine kN ?_ _ | refine kD ?_ | refine kA ?_ _)); exact h_); have hv := hvK (w := w) hb (by repeat (first | (with_reducible first | exact HB.out | apply bA | apply bN | apply bD | refine bX ?_ (by assumption)) | exact HB.out)); have n5_ := Am (bT hv hb); clear HO342; clear HO355; clear HB; have HO342 := n0_; have HO355 := n1_; replace BK328 := hp0 BK328; replace BK329 := hp0 BK329; replace BK330 := hp0 BK330; have HB := n5_; clear n0_ n1_ n5_ hp0 hv; (try clear hb)))
   go_meet
   case rel =>
    refine ⟨_, ((t356 != t343)), (by first | rfl | (simp; done) | (simp [*]; done)), H', ⟨by first | omega | exact Nat.le_refl _⟩, ⟨by (with_reducible repeat (first | apply Kd.R_alloc | apply Kd.R_drewN | apply Kd.R_drew)); exact Kd.R_mono HO342.out (fun _ hk => hk.2)⟩, ⟨by (with_reducible repeat (first | apply Kd.R_alloc | apply Kd.R_drewN | apply Kd.R_drew)); exact Kd.R_mono HO355.out (fun _ hk => hk.2)⟩, ⟨?_⟩, ⟨?_⟩, ⟨?_⟩, ⟨by repeat (first | (with_reducible first | exact HB.out | apply bA | apply bN | apply bD | refine bX ?_ (by assumption)) | exact HB.out)⟩⟩
    all_goals ((with_reducible repeat (first | refine kN ?_ _ | refine kD ?_ | refine kA ?_ _)); exact Aside0.out (by assumption))
  replace c27 := Bool.eq_false_iff.mpr c27
  subst c27
  have H1 : (laws_FnExactThreeMeet.j0 k t340 t343 t353 true a0_0 a0_1 a0_2 a1_0 a1_1 a1_2 a2_0 a2_1 a2_2) = some r := by rw [if_neg (show ¬ (false = true) by decide)] at H; exact H
  clear H
  have H := H1
  clear H1
  exact absurd ((laws_FnExactThreeMeet.j0_no H).symm.trans hlaw.out) (by decide)
 clear HC12
 obtain ⟨kq, x43_11, rfl, HA, HJ11, HO_7, HO_9, BK328, BK329, BK330, HB⟩ := hcut
 cases kq with
 | zero => exact absurd HA.out (by simp [laws_FnExactThreeMeet.j0])
 | succ kj11 =>
  have H := HA.out
  clear HA
  simp only [laws_FnExactThreeMeet.j0] at H
  by_cases c31 : x43_11 = true
  ·subst c31
   have H1 : (some false) = some r := by rw [if_pos rfl] at H; exact H
   clear H
   have H := H1
   clear H1
   exact absurd ((Option.some.inj H).trans hlaw.out) (by decide)
  replace c31 := Bool.eq_false_iff.mpr c31
  subst c31
  have H1 : ((laws_markTurnS.f kj11 t353 1).bind fun bt358 => ((laws_heldTurnS.f kj11 bt358.2 1).bind fun t360 => (if t360 < 0 then (some false) else (if t360 = bt358.1 then ((laws_toHand.f a0_0 a0_1 a0_2).bind fun bt361 => ((laws_toHand.f a1_0 a1_1 a1_2).bind fun bt364 => ((laws_toHand.f a2_0 a2_1 a2_2).bind fun bt367 => ((impl_ThreeMeet.f kj11 bt361.1 bt361.2.1 bt361.2.2 bt364.1 bt364.2.1 bt364.2.2 bt367.1 bt367.2.1 bt367.2.2).bind fun bt370 => ((laws_eqTurnS.f kj11 bt370.1 t340).bind fun t374 => (if t374 = true then (laws_FnExactThreeMeet.j1 kj11 bt358.2 bt358.1 (bt370.2 != t343)) else (laws_FnExactThreeMeet.j1 kj11 bt358.2 bt358.1 true))))))) else (some false))))) = some r := by rw [if_neg (show ¬ (false = true) by decide)] at H; exact H
  clear H
  have H := H1
  clear H1
  replace H := Option.bind_eq_some_iff.mp H
  obtain ⟨⟨t358, t359⟩, A320, H⟩ := H
  try dsimp only at H
  have A32 := Am A320
  clear A320
  replace H := Option.bind_eq_some_iff.mp H
  obtain ⟨t360, A330, H⟩ := H
  try dsimp only at H
  have A33 := Am A330
  clear A330
  by_cases c34 : t360 < 0
  ·rw [if_pos c34] at H
   have c34b0 : decide (t360 < 0) = true := decide_eq_true c34
   clear c34
   exact absurd ((Option.some.inj H).trans hlaw.out) (by decide)
  rw [if_neg c34] at H
  have c34b0 : decide (t360 < 0) = false := decide_eq_false c34
  clear c34
  by_cases c35 : t360 = t358
  ·rw [if_pos c35] at H
   have c35b0 : (t360 == t358) = true := beq_iff_eq.mpr c35
   have c35b1 : (t360 != t358) = false := bne_eq_false_iff_eq.mpr c35
   clear c35
   replace H := Option.bind_eq_some_iff.mp H
   obtain ⟨⟨t361, t362, t363⟩, A360, H⟩ := H
   try dsimp only at H
   have A36 := Am A360
   clear A360
   replace H := Option.bind_eq_some_iff.mp H
   obtain ⟨⟨t364, t365, t366⟩, A370, H⟩ := H
   try dsimp only at H
   have A37 := Am A370
   clear A370
   replace H := Option.bind_eq_some_iff.mp H
   obtain ⟨⟨t367, t368, t369⟩, A380, H⟩ := H
   try dsimp only at H
   have A38 := Am A380
   clear A380
   replace H := Option.bind_eq_some_iff.mp H
   obtain ⟨⟨t370, t373⟩, A390, H⟩ := H
   try dsimp only at H
   have A39 := Am A390
   clear A390
   have HC40 := Am H
   clear H
   obtain ⟨Ao41, co41, eo41⟩ := Kd.R_slice HO_9.out
   subst eo41
   try go_wp2_with (first | ((with_reducible refine gate_callee (f := 18) rfl ?_); refine goesL_ (some 46) rfl rfl Try.func18 (by kernel_rfl) rfl #[.slice Ao41 t353.length co41, .int .i64 1] rfl (by (try simp only [List.map_toArray, List.map_cons, List.map_nil]); first | done | rfl | (simp only [List.length_drop, List.length_take]; rfl)) ?_; (with_reducible refine (laws_markTurnS.calls kj11 (fun k_ => some k_ = (.slice Ao41 t353.length co41 : Value).ownBlock) (.slice Ao41 t353.length co41) t353 1 t358 t359 w _ ?side1 ?side2 A32.out).mono ?_); (case side1 => repeat (first | (with_reducible first | exact HB.out | apply bA | apply bN | apply bD | refine bX ?_ (by assumption)) | exact HB.out)); (case side2 => exact Kd.R_tight rfl HO_9.out); rintro e w42 ⟨rfl, hy0, hb, hkp⟩; refine ⟨_, rfl, ?_⟩; have n0_ := Am (Kd.R_mono (ok' := fun k_ => some k_ ≠ (.slice Ao41 t353.length co41 : Value).ownBlock) (Kd.R_keptB (HO_7.out) hkp (fun k_ hk_ hs_ => (hk_) hs_)) (fun k_ hk_ => hk_.1)); have n1_ := Am (Kd.R_reok rfl hy0 (fun k_ e_ => HO_9.out.1 k_ e_)); have n2_ := Am (blk_kept (by (with_reducible repeat (first | refine kN ?_ _ | refine kD ?_ | refine kA ?_ _)); exact BK328.out) hkp (fun hs_ => (fun e_ => (Kd.R_ne HO_9.out BK328.out (by decide)) e_) hs_)); have n3_ := Am (blk_kept (by (with_reducible repeat (first | refine kN ?_ _ | refine kD ?_ | refine kA ?_ _)); exact BK329.out) hkp (fun hs_ => (fun e_ => (Kd.R_ne HO_9.out BK329.out (by decide)) e_) hs_)); have n4_ := Am (blk_kept (by (with_reducible repeat (first | refine kN ?_ _ | refine kD ?_ | refine kA ?_ _)); exact BK330.out) hkp (fun hs_ => (fun e_ => (Kd.R_ne HO_9.out BK330.out (by decide)) e_) hs_)); have n5_ := Am (hb); clear HO_7; clear HO_9; clear BK328; clear BK329; clear BK330; clear HB; have HO_7 := n0_; have HO_9 := n1_; have BK328 := n2_; have BK329 := n3_; have BK330 := n4_; have HB := n5_; clear n0_ n1_ n2_ n3_ n4_ n5_; (try clear hb); (try clear hkp); (try clear hy0)) | ((with_reducible refine gate_callee (f := 19) rfl ?_); refine goesL_ (some 49) rfl rfl Try.func19 (by kernel_rfl) rfl #[.slice Ao41 t359.length co41, .int .i64 1] rfl (by (try simp only [List.map_toArray, List.map_cons, List.map_nil]); first | done | (rw [show t359.length = t353.length from (Kd.R_reads' HO_9.out).1.symm] <;> rfl) | rfl | (simp only [List.length_drop, List.length_take]; rfl)) ?_; (with_reducible refine (laws_heldTurnS.calls kj11 _ _ t359 1 t360 _ ?side1 ?side2 A33.out).mono ?_); (case side1 => repeat (first | exact (Kd.R_reads' HO_9.out).2.2 | (with_reducible refine Kd.C_alloc ?_ _) | (with_reducible refine Kd.C_drewN ?_ _) | (with_reducible refine Kd.C_drew ?_))); (case side2 => rw [show t359.length = t353.length from (Kd.R_reads' HO_9.out).1.symm]; exact (Kd.R_reads' HO_9.out).2.1); rintro e w' ⟨rfl, ⟨nd, rfl⟩⟩; refine ⟨_, rfl, ?_⟩))
   (try (rw [drewN_self w42]; generalize hq_ : World.drewN w42 _ = w42; have n0_ : Aside0 (Kd.R k26 26 w42 w.heap.size (fun k_ => some k_ ≠ (.slice Ao41 t353.length co41 : Value).ownBlock) v341 t340) := ⟨by rw [← hq_]; exact (by (with_reducible repeat (first | apply Kd.R_alloc | apply Kd.R_drewN | apply Kd.R_drew)); exact HO_7.out)⟩; have n1_ : Aside0 (Kd.R k26 26 w42 w.heap.size (fun k_ => some k_ ≠ (v341 : Value).ownBlock) (.slice Ao41 t353.length co41) t359) := ⟨by rw [← hq_]; exact (by (with_reducible repeat (first | apply Kd.R_alloc | apply Kd.R_drewN | apply Kd.R_drew)); exact HO_9.out)⟩; have n2_ : Aside0 (w42.heap[gb328]? = some (.cells #[.int .i64 a0_0, .int .i64 a0_1, .int .i64 a0_2] 25 (0, 0))) := ⟨by rw [← hq_]; exact (by (with_reducible repeat (first | refine kN ?_ _ | refine kD ?_ | refine kA ?_ _)); exact BK328.out)⟩; have n3_ : Aside0 (w42.heap[gb329]? = some (.cells #[.int .i64 a1_0, .int .i64 a1_1, .int .i64 a1_2] 25 (0, 0))) := ⟨by rw [← hq_]; exact (by (with_reducible repeat (first | refine kN ?_ _ | refine kD ?_ | refine kA ?_ _)); exact BK329.out)⟩; have n4_ : Aside0 (w42.heap[gb330]? = some (.cells #[.int .i64 a2_0, .int .i64 a2_1, .int .i64 a2_2] 25 (0, 0))) := ⟨by rw [← hq_]; exact (by (with_reducible repeat (first | refine kN ?_ _ | refine kD ?_ | refine kA ?_ _)); exact BK330.out)⟩; have n5_ : Aside0 (Below w.heap.size w w42) := ⟨by rw [← hq_]; exact (by repeat (first | (with_reducible first | exact HB.out | apply bA | apply bN | apply bD | refine bX ?_ (by assumption)) | exact HB.out))⟩; clear HO_7 HO_9 BK328 BK329 BK330 HB hq_; have HO_7 := n0_; have HO_9 := n1_; have BK328 := n2_; have BK329 := n3_; have BK330 := n4_; have HB := n5_; clear n0_ n1_ n2_ n3_ n4_ n5_))
   have n0_ := Am (Kd.R_drew HO_7.out)
   have n1_ := Am (Kd.R_drew HO_9.out)
   have n2_ := Am (kD BK328.out)
   have n3_ := Am (kD BK329.out)
   have n4_ := Am (kD BK330.out)
   have n5_ := Am (bD HB.out)
   clear HO_7 HO_9 BK328 BK329 BK330 HB
   have HO_7 := n0_; have HO_9 := n1_; have BK328 := n2_; have BK329 := n3_; have BK330 := n4_; have HB := n5_
   clear n0_ n1_ n2_ n3_ n4_ n5_
   refine start_ (n := 12) (S := fun w' => w'.cell? ⟨gb328, 0, none⟩ = some (.int .i64 a0_0) ∧ w'.cell? ⟨gb328, 1, none⟩ = some (.int .i64 a0_1) ∧ w'.cell? ⟨gb328, 2, none⟩ = some (.int .i64 a0_2) ∧ w'.cell? ⟨gb329, 0, none⟩ = some (.int .i64 a1_0) ∧ w'.cell? ⟨gb329, 1, none⟩ = some (.int .i64 a1_1) ∧ w'.cell? ⟨gb329, 2, none⟩ = some (.int .i64 a1_2) ∧ w'.cell? ⟨gb330, 0, none⟩ = some (.int .i64 a2_0) ∧ w'.cell? ⟨gb330, 1, none⟩ = some (.int .i64 a2_1) ∧ w'.cell? ⟨gb330, 2, none⟩ = some (.int .i64 a2_2)) (ds := []) (pT 12 0) (by kernel_rfl) rfl rfl ⟨c30 BK328.out, c31 BK328.out, c32 BK328.out, c30 BK329.out, c31 BK329.out, c32 BK329.out, c30 BK330.out, c31 BK330.out, c32 BK330.out⟩ (fun hHeld => ?_); refine with_tabW laws_FnExactThreeMeet.tab13 laws_FnExactThreeMeet.bits13 (fun HT_ HW_ => ?_)
   generalize w42.drew = w43 at HO_7 HO_9 BK328 BK329 BK330 HB hHeld ⊢
   refine tI (v := ?_) (a' := ?_) rfl (take_ofW HT_.out HW_.out (by kernel_rfl)) (fun _ _ _ h => h) (Or.inl ⟨by rfl, ?_⟩) hHeld ?_ ?_
   rotate_left
   ·rintro w' ⟨s0, s1, s2, s3, s4, s5, s6, s7, s8⟩
    go_simp
    with_reducible rfl
   rotate_left
   ·show Act.put _ (some _) _ = _
    simp only [Act.put, List.setIfInBounds_toArray, List.set_cons_zero, List.set_cons_succ, i64_w, i32_w]
    rfl
   refine take_ (i := 2) (N := some 58) (v := ?_) (a' := ?_) #[true, false, true, false, false, false, false, false, false, false, false, false] rfl rfl (take_ofW HT_.out HW_.out (by kernel_rfl)) (fun _ _ _ h => h) (Or.inl ⟨by rfl, ?_⟩) hHeld ?_ ?_
   rotate_left
   ·rintro w' ⟨s0, s1, s2, s3, s4, s5, s6, s7, s8⟩
    go_simp
    with_reducible rfl
   rotate_left
   ·simp only [Act.put, List.setIfInBounds_toArray, List.set_cons_zero, List.set_cons_succ, i64_w, i32_w]
    rfl
   refine take_ (i := 4) (N := some 60) (v := ?_) (a' := ?_) #[true, false, true, false, true, false, false, false, false, false, false, false] rfl rfl (take_ofW HT_.out HW_.out (by kernel_rfl)) (fun _ _ _ h => h) (Or.inl ⟨by rfl, ?_⟩) hHeld ?_ ?_
   rotate_left
   ·rintro w' ⟨s0, s1, s2, s3, s4, s5, s6, s7, s8⟩
    go_simp
    with_reducible rfl
   rotate_left
   ·simp only [Act.put, List.setIfInBounds_toArray, List.set_cons_zero, List.set_cons_succ, i64_w, i32_w]
    rfl
   refine one_ (i := 1) (N := some 57) #[true, true, true, false, true, false, false, false, false, false, false, false] rfl rfl (one_of HT_.out (by kernel_rfl)) (by decide) (fun K hK => ?_)
   refine goes_ Try.func11 (by kernel_rfl) rfl #[.agg #[.int .i64 a0_0, .int .i64 a0_1, .int .i64 a0_2]] (by rfl) rfl rfl (by (try simp only [List.map_toArray, List.map_cons, List.map_nil]); first | done | rfl | (simp only [List.length_drop, List.length_take]; rfl)) ?_
   with_reducible refine (laws_toHand.calls a0_0 a0_1 a0_2 t361 t362 t363 _ A36.out).mono ?_
   rintro e w44 ⟨rfl, hb⟩
   refine ⟨_, rfl, ?_⟩
   have n0_ := Am (Kd.R_below (by (with_reducible repeat (first | apply Kd.R_alloc | apply Kd.R_drewN | apply Kd.R_drew)); exact HO_7.out) hb)
   have n1_ := Am (Kd.R_below (by (with_reducible repeat (first | apply Kd.R_alloc | apply Kd.R_drewN | apply Kd.R_drew)); exact HO_9.out) hb)
   have hp0 := hpA BK328.out hb (fun _ _ h_ => by (with_reducible repeat (first | refine kN ?_ _ | refine kD ?_ | refine kA ?_ _)); exact h_)
   have hv := hvK (w := w) hb (by repeat (first | (with_reducible first | exact HB.out | apply bA | apply bN | apply bD | refine bX ?_ (by assumption)) | exact HB.out))
   have n5_ := Am (bT hv hb)
   clear HO_7 HO_9 HB
   have HO_7 := n0_; have HO_9 := n1_
   replace BK328 := hp0 BK328; replace BK329 := hp0 BK329; replace BK330 := hp0 BK330
   have HB := n5_
   clear n0_ n1_ n5_ hp0 hv
   (try clear hb)
   refine hK.out _ _ ⟨c30 BK328.out, c31 BK328.out, c32 BK328.out, c30 BK329.out, c31 BK329.out, c32 BK329.out, c30 BK330.out, c31 BK330.out, c32 BK330.out⟩ (fun hHeld => ?_)
   clear hK K
   refine norm_ (a' := ?_) ?_ ?_
   rotate_left
   ·show Act.put _ (some 57) _ = _
    simp only [Act.put, List.setIfInBounds_toArray, List.set_cons_zero, List.set_cons_succ, i64_w, i32_w]
    rfl
   refine one_ (i := 3) (N := some 59) (pT 12 5) rfl rfl (one_of HT_.out (by kernel_rfl)) (by decide) (fun K hK => ?_)
   refine goes_ Try.func11 (by kernel_rfl) rfl #[.agg #[.int .i64 a1_0, .int .i64 a1_1, .int .i64 a1_2]] (by rfl) rfl rfl (by (try simp only [List.map_toArray, List.map_cons, List.map_nil]); first | done | rfl | (simp only [List.length_drop, List.length_take]; rfl)) ?_
   with_reducible refine (laws_toHand.calls a1_0 a1_1 a1_2 t364 t365 t366 _ A37.out).mono ?_
   rintro e w45 ⟨rfl, hb⟩
   refine ⟨_, rfl, ?_⟩
   have n0_ := Am (Kd.R_below (by (with_reducible repeat (first | apply Kd.R_alloc | apply Kd.R_drewN | apply Kd.R_drew)); exact HO_7.out) hb)
   have n1_ := Am (Kd.R_below (by (with_reducible repeat (first | apply Kd.R_alloc | apply Kd.R_drewN | apply Kd.R_drew)); exact HO_9.out) hb)
   have hp0 := hpA BK328.out hb (fun _ _ h_ => by (with_reducible repeat (first | refine kN ?_ _ | refine kD ?_ | refine kA ?_ _)); exact h_)
   have hv := hvK (w := w) hb (by repeat (first | (with_reducible first | exact HB.out | apply bA | apply bN | apply bD | refine bX ?_ (by assumption)) | exact HB.out))
   have n5_ := Am (bT hv hb)
   clear HO_7 HO_9 HB
   have HO_7 := n0_; have HO_9 := n1_
   replace BK328 := hp0 BK328; replace BK329 := hp0 BK329; replace BK330 := hp0 BK330
   have HB := n5_
   clear n0_ n1_ n5_ hp0 hv
   (try clear hb)
   refine hK.out _ _ ⟨c30 BK328.out, c31 BK328.out, c32 BK328.out, c30 BK329.out, c31 BK329.out, c32 BK329.out, c30 BK330.out, c31 BK330.out, c32 BK330.out⟩ (fun hHeld => ?_)
   clear hK K
   refine norm_ (a' := ?_) ?_ ?_
   rotate_left
   ·show Act.put _ (some 59) _ = _
    simp only [Act.put, List.setIfInBounds_toArray, List.set_cons_zero, List.set_cons_succ, i64_w, i32_w]
    rfl
   refine one_ (i := 5) (N := some 61) (pT 12 6) rfl rfl (one_of HT_.out (by kernel_rfl)) (by decide) (fun K hK => ?_)
   refine goes_ Try.func11 (by kernel_rfl) rfl #[.agg #[.int .i64 a2_0, .int .i64 a2_1, .int .i64 a2_2]] (by rfl) rfl rfl (by (try simp only [List.map_toArray, List.map_cons, List.map_nil]); first | done | rfl | (simp only [List.length_drop, List.length_take]; rfl)) ?_
   with_reducible refine (laws_toHand.calls a2_0 a2_1 a2_2 t367 t368 t369 _ A38.out).mono ?_
   rintro e w46 ⟨rfl, hb⟩
   refine ⟨_, rfl, ?_⟩
   have n0_ := Am (Kd.R_below (by (with_reducible repeat (first | apply Kd.R_alloc | apply Kd.R_drewN | apply Kd.R_drew)); exact HO_7.out) hb)
   have n1_ := Am (Kd.R_below (by (with_reducible repeat (first | apply Kd.R_alloc | apply Kd.R_drewN | apply Kd.R_drew)); exact HO_9.out) hb)
   have hp0 := hpA BK328.out hb (fun _ _ h_ => by (with_reducible repeat (first | refine kN ?_ _ | refine kD ?_ | refine kA ?_ _)); exact h_)
   have hv := hvK (w := w) hb (by repeat (first | (with_reducible first | exact HB.out | apply bA | apply bN | apply bD | refine bX ?_ (by assumption)) | exact HB.out))
   have n5_ := Am (bT hv hb)
   clear HO_7 HO_9 HB
   have HO_7 := n0_; have HO_9 := n1_
   replace BK328 := hp0 BK328; replace BK329 := hp0 BK329; replace BK330 := hp0 BK330
   have HB := n5_
   clear n0_ n1_ n5_ hp0 hv
   (try clear hb)
   refine hK.out _ _ ⟨c30 BK328.out, c31 BK328.out, c32 BK328.out, c30 BK329.out, c31 BK329.out, c32 BK329.out, c30 BK330.out, c31 BK330.out, c32 BK330.out⟩ (fun hHeld => ?_)
   clear hK K
   refine norm_ (a' := ?_) ?_ ?_
   rotate_left
   ·show Act.put _ (some 61) _ = _
    simp only [Act.put, List.setIfInBounds_toArray, List.set_cons_zero, List.set_cons_succ, i64_w, i32_w]
    rfl
   refine one_ (i := 6) (N := some 62) (pT 12 7) rfl rfl (one_of HT_.out (by kernel_rfl)) (by decide) (fun K hK => ?_)
   refine goes_ Try.func16 (by kernel_rfl) rfl #[.agg #[.int .i64 t361, .int .i64 t362, .int .i64 t363], .agg #[.int .i64 t364, .int .i64 t365, .int .i64 t366], .agg #[.int .i64 t367, .int .i64 t368, .int .i64 t369]] (by rfl) rfl rfl (by (try simp only [List.map_toArray, List.map_cons, List.map_nil]); first | done | rfl | (simp only [List.length_drop, List.length_take]; rfl)) ?_
   with_reducible refine (impl_ThreeMeet.calls kj11 t361 t362 t363 t364 t365 t366 t367 t368 t369 t370 t373 _ A39.out).mono ?_
   rintro e w47 ⟨v371, rfl, ho0, hb⟩
   refine ⟨_, rfl, ?_⟩
   have n0_ := Am (Kd.R_elder' (by (with_reducible repeat (first | apply Kd.R_alloc | apply Kd.R_drewN | apply Kd.R_drew)); exact HO_7.out) (Kd.R_base ho0) hb)
   have n1_ := Am (Kd.R_elder' (by (with_reducible repeat (first | apply Kd.R_alloc | apply Kd.R_drewN | apply Kd.R_drew)); exact HO_9.out) (Kd.R_base ho0) hb)
   have n2_ := Am (Kd.R_lower (Kd.R_new' (Kd.R_new' ho0 (Kd.R_lt (by (with_reducible repeat (first | apply Kd.R_alloc | apply Kd.R_drewN | apply Kd.R_drew)); exact HO_7.out))) (Kd.R_lt (by (with_reducible repeat (first | apply Kd.R_alloc | apply Kd.R_drewN | apply Kd.R_drew)); exact HO_9.out))) (bZ (by repeat (first | (with_reducible first | exact HB.out | apply bA | apply bN | apply bD | refine bX ?_ (by assumption)) | exact HB.out))))
   have hp0 := hpA BK328.out hb (fun _ _ h_ => by (with_reducible repeat (first | refine kN ?_ _ | refine kD ?_ | refine kA ?_ _)); exact h_)
   have hv := hvK (w := w) hb (by repeat (first | (with_reducible first | exact HB.out | apply bA | apply bN | apply bD | refine bX ?_ (by assumption)) | exact HB.out))
   have n6_ := Am (bT hv hb)
   clear HO_7 HO_9 HB
   have HO_7 := n0_; have HO_9 := n1_; have HO372 := n2_
   replace BK328 := hp0 BK328; replace BK329 := hp0 BK329; replace BK330 := hp0 BK330
   have HB := n6_
   clear n0_ n1_ n2_ n6_ hp0 hv
   (try clear hb)
   refine hK.out _ _ ⟨c30 BK328.out, c31 BK328.out, c32 BK328.out, c30 BK329.out, c31 BK329.out, c32 BK329.out, c30 BK330.out, c31 BK330.out, c32 BK330.out⟩ (fun hHeld => ?_)
   clear hK K
   refine norm_ (a' := ?_) ?_ ?_
   rotate_left
   ·show Act.put _ (some 62) _ = _
    simp only [Act.put, List.setIfInBounds_toArray, List.set_cons_zero, List.set_cons_succ, i64_w, i32_w]
    rfl
   iterate 5
    refine pI (v := ?_) (a' := ?_) rfl (any_of HT_.out (by kernel_rfl)) (fun _ _ _ h => h) (Or.inl ⟨by rfl, ?_⟩) ?_ ?_
    rotate_left
    ·intro w'
     go_simp
     with_reducible rfl
    rotate_left
    ·show Act.put _ (some _) _ = _
     simp only [Act.put, List.setIfInBounds_toArray, List.set_cons_zero, List.set_cons_succ, i64_w, i32_w]
     rfl
   refine done_ (done_of HT_.out (by kernel_rfl)) ?_
   go_upto_region 14 with (fail)
   go_cut [73] (fun v73 wc => ∃ (kq : Nat) (x73_39 : Bool), v73 = .bool x73_39 ∧ Aside0 (laws_FnExactThreeMeet.j1 kq t359 t358 x73_39 = some r) ∧ Aside0 (kq ≤ kj11) ∧ Aside0 (Kd.R k26 26 wc w.heap.size (fun _ => True) (.slice Ao41 t353.length co41) t359) ∧ Aside0 (wc.heap[gb328]? = some (.cells #[.int .i64 a0_0, .int .i64 a0_1, .int .i64 a0_2] 25 (0, 0))) ∧ Aside0 (wc.heap[gb329]? = some (.cells #[.int .i64 a1_0, .int .i64 a1_1, .int .i64 a1_2] 25 (0, 0))) ∧ Aside0 (wc.heap[gb330]? = some (.cells #[.int .i64 a2_0, .int .i64 a2_1, .int .i64 a2_2] 25 (0, 0))) ∧ Aside0 (Below w.heap.size w wc))
   case first =>
    have H := HC40.out
    clear HC40
    replace H := Option.bind_eq_some_iff.mp H
    obtain ⟨t374, A480, H⟩ := H
    try dsimp only at H
    have A48 := Am A480
    clear A480
    by_cases c49 : t374 = true
    ·subst c49
     have H1 : (laws_FnExactThreeMeet.j1 kj11 t359 t358 (t373 != t343)) = some r := by rw [if_pos rfl] at H; exact H
     clear H
     have H := H1
     clear H1
     have H' := Am H
     clear H
     obtain ⟨Ao50, co50, eo50⟩ := Kd.R_slice HO372.out
     subst eo50
     obtain ⟨Ao51, co51, eo51⟩ := Kd.R_slice HO_7.out
     subst eo51
     go_wp2_with (first | ((with_reducible refine gate_callee (f := 17) rfl ?_); refine goesL_ (some 67) rfl rfl Try.func17 (by kernel_rfl) rfl #[.slice Ao50 t370.length co50, .slice Ao51 t340.length co51] rfl (by (try simp only [List.map_toArray, List.map_cons, List.map_nil]); first | done | rfl | (simp only [List.length_drop, List.length_take]; rfl)) ?_; (with_reducible refine (laws_eqTurnS.calls kj11 _ _ t370 _ _ t340 true _ ?side1 ?side2 ?side3 ?side4 A48.out).mono ?_); (case side1 => repeat (first | exact (Kd.R_reads' HO372.out).2.2 | (with_reducible refine Kd.C_alloc ?_ _) | (with_reducible refine Kd.C_drewN ?_ _) | (with_reducible refine Kd.C_drew ?_))); (case side2 => exact (Kd.R_reads' HO372.out).2.1); (case side3 => repeat (first | exact (Kd.R_reads' HO_7.out).2.2 | (with_reducible refine Kd.C_alloc ?_ _) | (with_reducible refine Kd.C_drewN ?_ _) | (with_reducible refine Kd.C_drew ?_))); (case side4 => exact (Kd.R_reads' HO_7.out).2.1); rintro e w52 ⟨rfl, hb⟩; refine ⟨_, rfl, ?_⟩; have n0_ := Am (Kd.R_below (by (with_reducible repeat (first | apply Kd.R_alloc | apply Kd.R_drewN | apply Kd.R_drew)); exact HO_7.out) hb); have n1_ := Am (Kd.R_below (by (with_reducible repeat (first | apply Kd.R_alloc | apply Kd.R_drewN | apply Kd.R_drew)); exact HO_9.out) hb); have n2_ := Am (Kd.R_below (by (with_reducible repeat (first | apply Kd.R_alloc | apply Kd.R_drewN | apply Kd.R_drew)); exact HO372.out) hb); have hp0 := hpA BK328.out hb (fun _ _ h_ => by (with_reducible repeat (first | refine kN ?_ _ | refine kD ?_ | refine kA ?_ _)); exact h_); have hv := hvK (w := w) hb (by repeat (first | (with_reducible first | exact HB.out | apply bA | apply bN | apply bD | refine bX ?_ (by assumption)) | exact HB.out)); have n6_ := Am (bT hv hb); clear HO_7; clear HO_9; clear HO372; clear HB; have HO_7 := n0_; have HO_9 := n1_; have HO372 := n2_; replace BK328 := hp0 BK328; replace BK329 := hp0 BK329; replace BK330 := hp0 BK330; have HB := n6_; clear n0_ n1_ n2_ n6_ hp0 hv; (try clear hb)))
     go_meet
     case rel =>
      refine ⟨_, ((t373 != t343)), (by first | rfl | (simp; done) | (simp [*]; done)), H', ⟨by have := HJ11.out; first | omega | exact Nat.le_refl _⟩, ⟨by (with_reducible repeat (first | apply Kd.R_alloc | apply Kd.R_drewN | apply Kd.R_drew)); exact Kd.R_mono HO_9.out (fun _ hk => trivial)⟩, ⟨?_⟩, ⟨?_⟩, ⟨?_⟩, ⟨by repeat (first | (with_reducible first | exact HB.out | apply bA | apply bN | apply bD | refine bX ?_ (by assumption)) | exact HB.out)⟩⟩
      all_goals ((with_reducible repeat (first | refine kN ?_ _ | refine kD ?_ | refine kA ?_ _)); exact Aside0.out (by assumption))
    replace c49 := Bool.eq_false_iff.mpr c49
    subst c49
    have H1 : (laws_FnExactThreeMeet.j1 kj11 t359 t358 true) = some r := by rw [if_neg (show ¬ (false = true) by decide)] at H; exact H
    clear H
    have H := H1
    clear H1
    exact absurd ((laws_FnExactThreeMeet.j1_no H).symm.trans hlaw.out) (by decide)
   clear HC40
   (try clear c31); (try clear c34); (try clear c34b0); (try clear c35); (try clear c35b0); (try clear c35b1)
   obtain ⟨kq, x73_39, rfl, HA, HJ39, HO_9, BK328, BK329, BK330, HB⟩ := hcut
   have hl9_39 := (Kd.R_reads' HO_9.out).1
   rw [hl9_39] at HO_9
   (try simp only [hl9_39])
   (try simp only [hl9_39] at BK328)
   (try simp only [hl9_39] at BK329)
   (try simp only [hl9_39] at BK330)
   cases kq with
   | zero => exact absurd HA.out (by simp [laws_FnExactThreeMeet.j1])
   | succ kj39 =>
    have H := HA.out
    clear HA
    simp only [laws_FnExactThreeMeet.j1] at H
    by_cases c53 : x73_39 = true
    ·subst c53
     have H1 : (some false) = some r := by rw [if_pos rfl] at H; exact H
     clear H
     have H := H1
     clear H1
     exact absurd ((Option.some.inj H).trans hlaw.out) (by decide)
    replace c53 := Bool.eq_false_iff.mpr c53
    subst c53
    have H1 : ((laws_heldTurnS.f kj39 t359 1).bind fun t375 => (if t375 < 0 then (some false) else (if t375 = t358 then (some true) else (some false)))) = some r := by rw [if_neg (show ¬ (false = true) by decide)] at H; exact H
    clear H
    have H := H1
    clear H1
    replace H := Option.bind_eq_some_iff.mp H
    obtain ⟨t375, A540, H⟩ := H
    try dsimp only at H
    have A54 := Am A540
    clear A540
    by_cases c55 : t375 < 0
    ·rw [if_pos c55] at H
     have c55b0 : decide (t375 < 0) = true := decide_eq_true c55
     clear c55
     exact absurd ((Option.some.inj H).trans hlaw.out) (by decide)
    rw [if_neg c55] at H
    have c55b0 : decide (t375 < 0) = false := decide_eq_false c55
    clear c55
    by_cases c56 : t375 = t358
    ·rw [if_pos c56] at H
     have c56b0 : (t375 == t358) = true := beq_iff_eq.mpr c56
     have c56b1 : (t375 != t358) = false := bne_eq_false_iff_eq.mpr c56
     clear c56
     obtain rfl := Option.some.inj H
     go_wp2_with (first | ((with_reducible refine gate_callee (f := 19) rfl ?_); refine goesL_ (some 76) rfl rfl Try.func19 (by kernel_rfl) rfl #[.slice Ao41 t359.length co41, .int .i64 1] rfl (by (try simp only [List.map_toArray, List.map_cons, List.map_nil]); first | done | rfl | (simp only [List.length_drop, List.length_take]; rfl)) ?_; (with_reducible refine (laws_heldTurnS.calls kj39 _ _ t359 1 t375 _ ?side1 ?side2 A54.out).mono ?_); (case side1 => repeat (first | exact (Kd.R_reads' HO_9.out).2.2 | (with_reducible refine Kd.C_alloc ?_ _) | (with_reducible refine Kd.C_drewN ?_ _) | (with_reducible refine Kd.C_drew ?_))); (case side2 => exact (Kd.R_reads' HO_9.out).2.1); rintro e w' ⟨rfl, ⟨nd, rfl⟩⟩; refine ⟨_, rfl, ?_⟩))
     go_ret
     exact ⟨by first | rfl | (simp [errW_none, errW_some] <;> rfl) | (simp [*, errW_none, errW_some] <;> rfl), by repeat (first | (with_reducible first | exact HB.out | apply bA | apply bN | apply bD | refine bX ?_ (by assumption)) | exact HB.out)⟩
    rw [if_neg c56] at H
    have c56b0 : (t375 == t358) = false := beq_eq_false_iff_ne.mpr c56
    have c56b1 : (t375 != t358) = true := bne_iff_ne.mpr c56
    exact absurd ((Option.some.inj H).trans hlaw.out) (by decide)
  rw [if_neg c35] at H
  have c35b0 : (t360 == t358) = false := beq_eq_false_iff_ne.mpr c35
  have c35b1 : (t360 != t358) = true := bne_iff_ne.mpr c35
  exact absurd ((Option.some.inj H).trans hlaw.out) (by decide)
/-- THE ONE PURE STATEMENT of laws_FnExactThreeMeet: yours. -/
def laws_FnExactThreeMeet.Pure : Prop := ∀ (a0_0 : Int) (a0_1 : Int) (a0_2 : Int) (a1_0 : Int) (a1_1 : Int) (a1_2 : Int) (a2_0 : Int) (a2_1 : Int) (a2_2 : Int), (Lit.int .i64 a0_0).wf = true → (Lit.int .i64 a0_1).wf = true → (Lit.int .i64 a0_2).wf = true → (Lit.int .i64 a1_0).wf = true → (Lit.int .i64 a1_1).wf = true → (Lit.int .i64 a1_2).wf = true → (Lit.int .i64 a2_0).wf = true → (Lit.int .i64 a2_1).wf = true → (Lit.int .i64 a2_2).wf = true → ∃ k, laws_FnExactThreeMeet.f k a0_0 a0_1 a0_2 a1_0 a1_1 a1_2 a2_0 a2_1 a2_2 = some true
theorem laws_FnExactThreeMeet.walk (P : laws_FnExactThreeMeet.Pure) (a0_0 : Int) (a0_1 : Int) (a0_2 : Int) (a1_0 : Int) (a1_1 : Int) (a1_2 : Int) (a2_0 : Int) (a2_1 : Int) (a2_2 : Int) (w : World) (w0_0 : (Lit.int .i64 a0_0).wf = true) (w0_1 : (Lit.int .i64 a0_1).wf = true) (w0_2 : (Lit.int .i64 a0_2).wf = true) (w1_0 : (Lit.int .i64 a1_0).wf = true) (w1_1 : (Lit.int .i64 a1_1).wf = true) (w1_2 : (Lit.int .i64 a1_2).wf = true) (w2_0 : (Lit.int .i64 a2_0).wf = true) (w2_1 : (Lit.int .i64 a2_1).wf = true) (w2_2 : (Lit.int .i64 a2_2).wf = true) :
  Calls Try.prog 4 #[.agg #[.int .i64 a0_0, .int .i64 a0_1, .int .i64 a0_2], .agg #[.int .i64 a1_0, .int .i64 a1_1, .int .i64 a1_2], .agg #[.int .i64 a2_0, .int .i64 a2_1, .int .i64 a2_2]] w fun e w' => e = .returned (.bool true) ∧ Below w.heap.size w w' := by
 obtain ⟨k, h⟩ := P a0_0 a0_1 a0_2 a1_0 a1_1 a1_2 a2_0 a2_1 a2_2 w0_0 w0_1 w0_2 w1_0 w1_1 w1_2 w2_0 w2_1 w2_2
 refine (laws_FnExactThreeMeet.calls k a0_0 a0_1 a0_2 a1_0 a1_1 a1_2 a2_0 a2_1 a2_2 true w ⟨rfl⟩ h).mono ?_
 rintro e w' ⟨rfl, hd⟩
 exact ⟨rfl, hd⟩

end Go.Proofs.Ytioggbokjfdoaaa.PFnExactThreeMeet
