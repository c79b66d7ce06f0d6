-- WRITTEN BY A PROGRAM OF THIS SESSION (wip/tools): its own text, not the kit's printed one.
import Derived.Test.YtioggbokjfdoaaaPFnExactMeetPlacesx0
import Derived.Test.YtioggbokjfdoaaaPFnExactMeetPlacesx6
import Derived.Test.YtioggbokjfdoaaaPFnExactMeetPlacesx7
namespace Go.Proofs.Ytioggbokjfdoaaa.PFnExactMeetPlaces
open Go.RowKit Go.Proofs.YtioggbokjfdoaaaW.PrintWords Go.Proofs.YtioggbokjfdoaaaW.PrintLast Go.Proofs.YtioggbokjfdoaaaW.PrintMore
attribute [local go_sem] max2_int min2_int max_two min_two max_three min_three max_four min_four   -- for this text's walks alone
set_option linter.unusedVariables false
set_option linter.unusedSimpArgs false

/-! ### impl_Hand_timesAt: function 78 -/
def impl_Hand_timesAt.f (k : Nat) (a0_0 : Int) (a0_1 : Int) (a0_2 : Int) (a1_0 : Int) (a1_1 : Int) : Option ((List (S26)) × Bool) := (impl_Turn_minus.f k a1_0 a1_1 a0_0 a0_1).bind fun bt305 => (if a0_2 < 0 then ((impl_Turn_mirror.f k bt305.1 bt305.2).bind fun bt308 => ((impl_roots.f k bt308.1 bt308.2 (wrap64 (-a0_2))).bind fun bt310 => ((impl_ifTurns.f k bt310.1 bt310.2).bind fun bt314 => (some (bt314.1, bt314.2))))) else ((impl_roots.f k bt305.1 bt305.2 a0_2).bind fun bt318 => ((impl_ifTurns.f k bt318.1 bt318.2).bind fun bt322 => (some (bt322.1, bt322.2)))))
theorem impl_Hand_timesAt.mono : ∀ a0 a1 a2 a3 a4 k, LeO (impl_Hand_timesAt.f k a0 a1 a2 a3 a4) (impl_Hand_timesAt.f (k + 1) a0 a1 a2 a3 a4) := by
 intro a0 a1 a2 a3 a4 k
 unfold impl_Hand_timesAt.f
 repeat' first
   | (with_reducible exact impl_Turn_minus.mono _ _ _ _ _)
   | (with_reducible exact impl_Turn_mirror.mono _ _ _)
   | (with_reducible exact impl_ifTurns.mono _ _ _)
   | (with_reducible exact impl_roots.mono _ _ _ _)
   | (with_reducible exact LeO.refl _)
   | (with_reducible exact LeO.none _)
   | (with_reducible refine LeO.ite ?_ ?_)
   | (with_reducible refine LeO.bind ?_ (fun _ => ?_))
   | exact impl_Turn_minus.mono _ _ _ _ _
   | exact impl_Turn_mirror.mono _ _ _
   | exact impl_ifTurns.mono _ _ _
   | exact impl_roots.mono _ _ _ _
   | exact LeO.none _
   | refine LeO.ite ?_ ?_
   | refine LeO.bind ?_ (fun _ => ?_)
def impl_Hand_timesAt.T1 : Bool × List (List Nat × List Nat) := (true, [([], []), ([], []), ([1], [1]), ([0, 2], [0, 2]), ([], []), ([4], [4]), ([], []), ([6, 3, 3, 0, 1, 2, 3, 6], [3, 6]), ([5, 7, 0, 1, 2, 3, 4, 5, 6, 7], [5])])
def impl_Hand_timesAt.B1 : List Nat := [0, 0, 2, 7, 0, 16, 0, 79, 255]
theorem impl_Hand_timesAt.tab1 : rtab .any (opsOf Try.f78 1) = impl_Hand_timesAt.T1 := by kernel_rfl
theorem impl_Hand_timesAt.bits1 : waitsOk impl_Hand_timesAt.T1.2 impl_Hand_timesAt.B1 = true := by kernel_rfl
set_option maxHeartbeats 8000000 in
set_option maxRecDepth 100000 in
theorem impl_Hand_timesAt.calls (k : Nat) (a0_0 : Int) (a0_1 : Int) (a0_2 : Int) (a1_0 : Int) (a1_1 : Int) (r1 : List (S26)) (r2 : Bool) (w : World) (h : impl_Hand_timesAt.f k a0_0 a0_1 a0_2 a1_0 a1_1 = some (r1, r2)) :
  Calls Try.prog 78 #[.agg #[.int .i64 a0_0, .int .i64 a0_1, .int .i64 a0_2], .agg #[.int .i64 a1_0, .int .i64 a1_1]] w fun e w' => ∃ v0_ : Value, e = .returned (.tuple #[v0_, .bool r2]) ∧ Kd.R k26 26 w' w.heap.size (fun _ => True) v0_ r1 ∧ Below w.heap.size w w' := by
 have hu30 := Try.underlying30
 have hu26 := Try.underlying26
 have HB := Am (Below.refl w.heap.size w)
 have H : ((impl_Turn_minus.f k a1_0 a1_1 a0_0 a0_1).bind fun bt305 => (if a0_2 < 0 then ((impl_Turn_mirror.f k bt305.1 bt305.2).bind fun bt308 => ((impl_roots.f k bt308.1 bt308.2 (wrap64 (-a0_2))).bind fun bt310 => ((impl_ifTurns.f k bt310.1 bt310.2).bind fun bt314 => (some (bt314.1, bt314.2))))) else ((impl_roots.f k bt305.1 bt305.2 a0_2).bind fun bt318 => ((impl_ifTurns.f k bt318.1 bt318.2).bind fun bt322 => (some (bt322.1, bt322.2)))))) = some (r1, r2) := h
 clear h
 replace H := Option.bind_eq_some_iff.mp H
 obtain ⟨⟨t305, t306⟩, A30, H⟩ := H
 replace H : (if a0_2 < 0 then ((impl_Turn_mirror.f k t305 t306).bind fun bt308 => ((impl_roots.f k bt308.1 bt308.2 (wrap64 (-a0_2))).bind fun bt310 => ((impl_ifTurns.f k bt310.1 bt310.2).bind fun bt314 => (some (bt314.1, bt314.2))))) else ((impl_roots.f k t305 t306 a0_2).bind fun bt318 => ((impl_ifTurns.f k bt318.1 bt318.2).bind fun bt322 => (some (bt322.1, bt322.2))))) = some (r1, r2) := H
 have A3 := Am A30
 clear A30
 by_cases c4 : a0_2 < 0
 ·rw [if_pos c4] at H
  have c4b0 : decide (a0_2 < 0) = true := decide_eq_true c4
  clear c4
  replace H := Option.bind_eq_some_iff.mp H
  obtain ⟨⟨t308, t309⟩, A50, H⟩ := H
  replace H : ((impl_roots.f k t308 t309 (wrap64 (-a0_2))).bind fun bt310 => ((impl_ifTurns.f k bt310.1 bt310.2).bind fun bt314 => (some (bt314.1, bt314.2)))) = some (r1, r2) := H
  have A5 := Am A50
  clear A50
  replace H := Option.bind_eq_some_iff.mp H
  obtain ⟨⟨t310, t313⟩, A60, H⟩ := H
  replace H : ((impl_ifTurns.f k t310 t313).bind fun bt314 => (some (bt314.1, bt314.2))) = some (r1, r2) := H
  have A6 := Am A60
  clear A60
  replace H := Option.bind_eq_some_iff.mp H
  obtain ⟨⟨t314, t317⟩, A70, H⟩ := H
  replace H : (some (t314, t317)) = some (r1, r2) := H
  have A7 := Am A70
  clear A70
  simp only [Option.some.injEq, Prod.mk.injEq] at H
  obtain ⟨rfl, rfl⟩ := H
  go_enter Try.func78, Try.ntmps78
  try go_wp2_with (first | ((with_reducible refine gate_dst (N := 2) rfl ?_); refine box_event ?hg (N := 2) ?hd (cs := #[.int .i64 a0_0, .int .i64 a0_1, .int .i64 a0_2]) (t := 30) ?hr ?_; (case hd => rfl); (case hg => rfl); (case hr => first | (go_simp; done) | (go_simp; rfl)); intro gb303 hg w8 hbox hb; have n0_ := Am (bT (by repeat (first | (with_reducible first | exact HB.out | apply bA | apply bN | apply bD) | exact HB.out)) hb); have n1_ := Am (hbox); have n2_ := Am ((by rw [hg]; exact (bZ (by repeat (first | (with_reducible first | exact HB.out | apply bA | apply bN | apply bD) | exact HB.out))) : w.heap.size ≤ gb303)); have n3_ := Am ((by rw [hg]; exact (bZ (by repeat (first | (with_reducible first | exact HB.out | apply bA | apply bN | apply bD) | exact HB.out))) : w.heap.size ≤ gb303)); clear HB; have HB := n0_; have BK303 := n1_; have GW303 := n2_; have GE303 := n3_; clear n0_ n1_ n2_ n3_; clear hb hbox hg) | ((with_reducible refine gate_dst (N := 3) rfl ?_); refine box_event ?hg (N := 3) ?hd (cs := #[.int .i64 a1_0, .int .i64 a1_1]) (t := 26) ?hr ?_; (case hd => rfl); (case hg => rfl); (case hr => first | (go_simp; done) | (go_simp; rfl)); intro gb304 hg w9 hbox hb; have n0_ := Am (kB (g := gb303) (o := .cells #[.int .i64 a0_0, .int .i64 a0_1, .int .i64 a0_2] 30 (0, 0)) (by (with_reducible repeat (first | refine kN ?_ _ | refine kD ?_ | refine kA ?_ _)); exact BK303.out) hb); have n1_ := Am (bT (by repeat (first | (with_reducible first | exact HB.out | apply bA | apply bN | apply bD | refine bS ?_ GE303.out) | exact HB.out)) hb); have n2_ := Am (hbox); have n3_ := Am ((by rw [hg]; exact (bZ (by repeat (first | (with_reducible first | exact HB.out | apply bA | apply bN | apply bD | refine bS ?_ GE303.out) | exact HB.out))) : w.heap.size ≤ gb304)); have n4_ := Am ((by rw [hg]; exact (bZ (by repeat (first | (with_reducible first | exact HB.out | apply bA | apply bN | apply bD | refine bS ?_ GE303.out) | exact HB.out))) : w.heap.size ≤ gb304)); have n5_ := Am ((by rw [hg]; exact Nat.ne_of_lt (kL (g := gb303) (o := .cells #[.int .i64 a0_0, .int .i64 a0_1, .int .i64 a0_2] 30 (0, 0)) (by (with_reducible repeat (first | refine kN ?_ _ | refine kD ?_ | refine kA ?_ _)); exact BK303.out)) : gb303 ≠ gb304)); have n6_ := Am ((by rw [hg]; exact Nat.ne_of_gt (kL (g := gb303) (o := .cells #[.int .i64 a0_0, .int .i64 a0_1, .int .i64 a0_2] 30 (0, 0)) (by (with_reducible repeat (first | refine kN ?_ _ | refine kD ?_ | refine kA ?_ _)); exact BK303.out)) : gb304 ≠ gb303)); clear BK303; clear HB; have BK303 := n0_; have HB := n1_; have BK304 := n2_; have GW304 := n3_; have GE304 := n4_; have NB303_304 := n5_; have NB304_303 := n6_; clear n0_ n1_ n2_ n3_ n4_ n5_ n6_; clear hb hbox hg))
  have n0_ := Am (kD BK303.out)
  have n1_ := Am (kD BK304.out)
  have n2_ := Am (bD HB.out)
  clear BK303
  clear BK304
  clear HB
  have BK303 := n0_
  have BK304 := n1_
  have HB := n2_
  clear n0_ n1_ n2_
  refine start_ (n := 9) (S := fun w' => w'.cell? ⟨gb304, 0, none⟩ = some (.int .i64 a1_0) ∧ w'.cell? ⟨gb304, 1, none⟩ = some (.int .i64 a1_1) ∧ w'.cell? ⟨gb303, 0, none⟩ = some (.int .i64 a0_0) ∧ w'.cell? ⟨gb303, 1, none⟩ = some (.int .i64 a0_1) ∧ w'.cell? ⟨gb303, 2, none⟩ = some (.int .i64 a0_2)) (ds := []) #[false, false, false, false, false, false, false, false, false] (by kernel_rfl) rfl rfl ⟨(kC BK304.out 0).trans rfl, (kC BK304.out 1).trans rfl, (kC BK303.out 0).trans rfl, (kC BK303.out 1).trans rfl, (kC BK303.out 2).trans rfl⟩ (fun hHeld => ?_); refine with_tabW impl_Hand_timesAt.tab1 impl_Hand_timesAt.bits1 (fun HT_ HW_ => ?_)
  generalize w9.drew = w10 at BK303 BK304 HB hHeld ⊢
  refine pure_ (i := 1) (N := some 9) (v := ?_) (a' := ?_) #[false, true, false, false, false, false, false, false, false] rfl rfl (any_of HT_.out (by kernel_rfl)) (fun _ _ _ h => h) (Or.inl ⟨by rfl, ?_⟩) ?_ ?_
  rotate_left
  ·intro w'
   go_simp
   with_reducible rfl
  rotate_left
  ·simp only [Act.put, List.setIfInBounds_toArray, List.set_cons_zero, List.set_cons_succ, i64_w, i32_w]
   rfl
  refine pure_ (i := 4) (N := some 12) (v := ?_) (a' := ?_) #[false, true, false, false, true, false, false, false, false] rfl rfl (any_of HT_.out (by kernel_rfl)) (fun _ _ _ h => h) (Or.inl ⟨by rfl, ?_⟩) ?_ ?_
  rotate_left
  ·intro w'
   go_simp
   with_reducible rfl
  rotate_left
  ·simp only [Act.put, List.setIfInBounds_toArray, List.set_cons_zero, List.set_cons_succ, i64_w, i32_w]
   rfl
  refine take_ (i := 0) (N := some 8) (v := ?_) (a' := ?_) #[true, true, false, false, true, false, false, false, false] rfl rfl (take_ofW HT_.out HW_.out (by kernel_rfl)) (fun _ _ _ h => h) (Or.inl ⟨by rfl, ?_⟩) hHeld ?_ ?_
  rotate_left
  ·rintro w' ⟨s0, s1, s2, s3, s4⟩
   go_simp
   with_reducible rfl
  rotate_left
  ·simp only [Act.put, List.setIfInBounds_toArray, List.set_cons_zero, List.set_cons_succ, i64_w, i32_w]
   rfl
  refine take_ (i := 2) (N := some 10) (v := ?_) (a' := ?_) #[true, true, true, false, true, false, false, false, false] rfl rfl (take_ofW HT_.out HW_.out (by kernel_rfl)) (fun _ _ _ h => h) (Or.inl ⟨by rfl, ?_⟩) hHeld ?_ ?_
  rotate_left
  ·rintro w' ⟨s0, s1, s2, s3, s4⟩
   go_simp
   with_reducible rfl
  rotate_left
  ·simp only [Act.put, List.setIfInBounds_toArray, List.set_cons_zero, List.set_cons_succ, i64_w, i32_w]
   rfl
  refine take_ (i := 5) (N := some 13) (v := ?_) (a' := ?_) #[true, true, true, false, true, true, false, false, false] rfl rfl (take_ofW HT_.out HW_.out (by kernel_rfl)) (fun _ _ _ h => h) (Or.inl ⟨by rfl, ?_⟩) hHeld ?_ ?_
  rotate_left
  ·rintro w' ⟨s0, s1, s2, s3, s4⟩
   go_simp
   with_reducible rfl
  rotate_left
  ·simp only [Act.put, List.setIfInBounds_toArray, List.set_cons_zero, List.set_cons_succ, i64_w, i32_w]
   rfl
  refine join_ (σ := Nat) 2 #[true, true, true, true, true, true, true, false, false] (fun s_ => [(11, .agg #[.int .i64 t305, .int .i64 t306]), (6, .pointer (some ⟨s_, 0, none⟩))]) (fun s_ w' => (w'.cell? ⟨gb304, 0, none⟩ = some (.int .i64 a1_0) ∧ w'.cell? ⟨gb304, 1, none⟩ = some (.int .i64 a1_1) ∧ w'.cell? ⟨gb303, 0, none⟩ = some (.int .i64 a0_0) ∧ w'.cell? ⟨gb303, 1, none⟩ = some (.int .i64 a0_1) ∧ w'.cell? ⟨gb303, 2, none⟩ = some (.int .i64 a0_2)) ∧ (w'.heap[gb303]? = some (.cells #[.int .i64 a0_0, .int .i64 a0_1, .int .i64 a0_2] 30 (0, 0))) ∧ (w'.heap[gb304]? = some (.cells #[.int .i64 a1_0, .int .i64 a1_1] 26 (0, 0))) ∧ (w'.heap[s_]? = some (.cells #[.int .i64 0, .int .i64 0] 26 (0, 0))) ∧ (w.heap.size ≤ s_) ∧ (w.heap.size ≤ s_) ∧ (gb303 ≠ s_) ∧ (s_ ≠ gb303) ∧ (gb304 ≠ s_) ∧ (s_ ≠ gb304) ∧ (Below w.heap.size w w')) ?_ ?_
  rotate_left
  ·intro hCont
   refine two_ (i := 3) (j := 6) (Ni := some 11) (Nj := some 6) #[true, true, true, true, true, true, false, false, false] #[true, true, true, false, true, true, true, false, false] rfl rfl rfl rfl (two_of HT_.out (by kernel_rfl)) (by decide) (by decide) (fun K hK => ?_) (fun K hK => ?_)
   ·skip
    refine goes_ Try.func84 (by kernel_rfl) rfl #[.agg #[.int .i64 a1_0, .int .i64 a1_1], .agg #[.int .i64 a0_0, .int .i64 a0_1]] (by rfl) rfl rfl (by (try simp only [List.map_toArray, List.map_cons, List.map_nil]); first | done | rfl | (simp only [List.length_drop, List.length_take]; rfl)) ?_
    with_reducible refine (impl_Turn_minus.calls k a1_0 a1_1 a0_0 a0_1 t305 t306 _ A3.out).mono ?_
    rintro e w11 ⟨rfl, hb⟩
    refine ⟨_, rfl, ?_⟩
    have n0_ := Am (kB (g := gb303) (o := .cells #[.int .i64 a0_0, .int .i64 a0_1, .int .i64 a0_2] 30 (0, 0)) (by (with_reducible repeat (first | refine kN ?_ _ | refine kD ?_ | refine kA ?_ _)); exact BK303.out) hb)
    have n1_ := Am (kB (g := gb304) (o := .cells #[.int .i64 a1_0, .int .i64 a1_1] 26 (0, 0)) (by (with_reducible repeat (first | refine kN ?_ _ | refine kD ?_ | refine kA ?_ _)); exact BK304.out) hb)
    have n2_ := Am (bT (by repeat (first | (with_reducible first | exact HB.out | apply bA | apply bN | apply bD | refine bS ?_ GE303.out | refine bS ?_ GE304.out) | exact HB.out)) hb)
    clear BK303
    clear BK304
    clear HB
    have BK303 := n0_
    have BK304 := n1_
    have HB := n2_
    clear n0_ n1_ n2_
    (try clear hb)
    (try clear hb2)
    (try clear hk)
    (try clear hi)
    refine hK.out _ _ ⟨(kC BK304.out 0).trans rfl, (kC BK304.out 1).trans rfl, (kC BK303.out 0).trans rfl, (kC BK303.out 1).trans rfl, (kC BK303.out 2).trans rfl⟩ (fun hHeld => ?_)
    clear hK K
    refine norm_ (a' := ?_) ?_ ?_
    rotate_left
    ·show Act.put _ (some 11) _ = _
     simp only [Act.put, List.setIfInBounds_toArray, List.set_cons_zero, List.set_cons_succ, i64_w, i32_w]
     rfl
    refine one_ (i := 6) (N := some 6) #[true, true, true, true, true, true, true, false, false] rfl rfl (one_of HT_.out (by kernel_rfl)) (by decide) (fun K hK => ?_)
    refine box_step ?hg (N := 6) ?hd (cs := #[.int .i64 0, .int .i64 0]) (t := 26) ?hr ?_; (case hd => rfl); (case hg => rfl); (case hr => first | (go_simp; done) | (go_simp; rfl))
    intro gb307 hg w12 hbox hb
    have n0_ := Am (kB (g := gb303) (o := .cells #[.int .i64 a0_0, .int .i64 a0_1, .int .i64 a0_2] 30 (0, 0)) (by (with_reducible repeat (first | refine kN ?_ _ | refine kD ?_ | refine kA ?_ _)); exact BK303.out) hb)
    have n1_ := Am (kB (g := gb304) (o := .cells #[.int .i64 a1_0, .int .i64 a1_1] 26 (0, 0)) (by (with_reducible repeat (first | refine kN ?_ _ | refine kD ?_ | refine kA ?_ _)); exact BK304.out) hb)
    have n2_ := Am (bT (by repeat (first | (with_reducible first | exact HB.out | apply bA | apply bN | apply bD | refine bS ?_ GE303.out | refine bS ?_ GE304.out) | exact HB.out)) hb)
    have n3_ := Am (hbox)
    have n4_ := Am ((by rw [hg]; exact (bZ (by repeat (first | (with_reducible first | exact HB.out | apply bA | apply bN | apply bD | refine bS ?_ GE303.out | refine bS ?_ GE304.out) | exact HB.out))) : w.heap.size ≤ gb307))
    have n5_ := Am ((by rw [hg]; exact (bZ (by repeat (first | (with_reducible first | exact HB.out | apply bA | apply bN | apply bD | refine bS ?_ GE303.out | refine bS ?_ GE304.out) | exact HB.out))) : w.heap.size ≤ gb307))
    have n6_ := Am ((by rw [hg]; exact Nat.ne_of_lt (kL (g := gb303) (o := .cells #[.int .i64 a0_0, .int .i64 a0_1, .int .i64 a0_2] 30 (0, 0)) (by (with_reducible repeat (first | refine kN ?_ _ | refine kD ?_ | refine kA ?_ _)); exact BK303.out)) : gb303 ≠ gb307))
    have n7_ := Am ((by rw [hg]; exact Nat.ne_of_gt (kL (g := gb303) (o := .cells #[.int .i64 a0_0, .int .i64 a0_1, .int .i64 a0_2] 30 (0, 0)) (by (with_reducible repeat (first | refine kN ?_ _ | refine kD ?_ | refine kA ?_ _)); exact BK303.out)) : gb307 ≠ gb303))
    have n8_ := Am ((by rw [hg]; exact Nat.ne_of_lt (kL (g := gb304) (o := .cells #[.int .i64 a1_0, .int .i64 a1_1] 26 (0, 0)) (by (with_reducible repeat (first | refine kN ?_ _ | refine kD ?_ | refine kA ?_ _)); exact BK304.out)) : gb304 ≠ gb307))
    have n9_ := Am ((by rw [hg]; exact Nat.ne_of_gt (kL (g := gb304) (o := .cells #[.int .i64 a1_0, .int .i64 a1_1] 26 (0, 0)) (by (with_reducible repeat (first | refine kN ?_ _ | refine kD ?_ | refine kA ?_ _)); exact BK304.out)) : gb307 ≠ gb304))
    clear BK303
    clear BK304
    clear HB
    have BK303 := n0_
    have BK304 := n1_
    have HB := n2_
    have BK307 := n3_
    have GW307 := n4_
    have GE307 := n5_
    have NB303_307 := n6_
    have NB307_303 := n7_
    have NB304_307 := n8_
    have NB307_304 := n9_
    clear n0_ n1_ n2_ n3_ n4_ n5_ n6_ n7_ n8_ n9_
    clear hb hbox hg
    refine hK.out _ _ ⟨(kC BK304.out 0).trans rfl, (kC BK304.out 1).trans rfl, (kC BK303.out 0).trans rfl, (kC BK303.out 1).trans rfl, (kC BK303.out 2).trans rfl⟩ (fun hHeld => ?_)
    clear hK K
    refine norm_ (a' := ?_) ?_ ?_
    rotate_left
    ·show Act.put _ (some 6) _ = _
     simp only [Act.put, List.setIfInBounds_toArray, List.set_cons_zero, List.set_cons_succ, i64_w, i32_w]
     rfl
    exact norm_ (by simp only [putAll, Act.put, List.setIfInBounds_toArray, List.set_cons_zero, List.set_cons_succ]) (hCont (gb307) _ ⟨hHeld, (by (with_reducible repeat (first | refine kN ?_ _ | refine kD ?_ | refine kA ?_ _)); exact BK303.out), (by (with_reducible repeat (first | refine kN ?_ _ | refine kD ?_ | refine kA ?_ _)); exact BK304.out), (by (with_reducible repeat (first | refine kN ?_ _ | refine kD ?_ | refine kA ?_ _)); exact BK307.out), GW307.out, GE307.out, NB303_307.out, NB307_303.out, NB304_307.out, NB307_304.out, (by repeat (first | (with_reducible first | exact HB.out | apply bA | apply bN | apply bD | refine bS ?_ GE303.out | refine bS ?_ GE304.out | refine bS ?_ GE307.out) | exact HB.out))⟩)
   ·skip
    refine box_step ?hg (N := 6) ?hd (cs := #[.int .i64 0, .int .i64 0]) (t := 26) ?hr ?_; (case hd => rfl); (case hg => rfl); (case hr => first | (go_simp; done) | (go_simp; rfl))
    intro gb307 hg w11 hbox hb
    have n0_ := Am (kB (g := gb303) (o := .cells #[.int .i64 a0_0, .int .i64 a0_1, .int .i64 a0_2] 30 (0, 0)) (by (with_reducible repeat (first | refine kN ?_ _ | refine kD ?_ | refine kA ?_ _)); exact BK303.out) hb)
    have n1_ := Am (kB (g := gb304) (o := .cells #[.int .i64 a1_0, .int .i64 a1_1] 26 (0, 0)) (by (with_reducible repeat (first | refine kN ?_ _ | refine kD ?_ | refine kA ?_ _)); exact BK304.out) hb)
    have n2_ := Am (bT (by repeat (first | (with_reducible first | exact HB.out | apply bA | apply bN | apply bD | refine bS ?_ GE303.out | refine bS ?_ GE304.out) | exact HB.out)) hb)
    have n3_ := Am (hbox)
    have n4_ := Am ((by rw [hg]; exact (bZ (by repeat (first | (with_reducible first | exact HB.out | apply bA | apply bN | apply bD | refine bS ?_ GE303.out | refine bS ?_ GE304.out) | exact HB.out))) : w.heap.size ≤ gb307))
    have n5_ := Am ((by rw [hg]; exact (bZ (by repeat (first | (with_reducible first | exact HB.out | apply bA | apply bN | apply bD | refine bS ?_ GE303.out | refine bS ?_ GE304.out) | exact HB.out))) : w.heap.size ≤ gb307))
    have n6_ := Am ((by rw [hg]; exact Nat.ne_of_lt (kL (g := gb303) (o := .cells #[.int .i64 a0_0, .int .i64 a0_1, .int .i64 a0_2] 30 (0, 0)) (by (with_reducible repeat (first | refine kN ?_ _ | refine kD ?_ | refine kA ?_ _)); exact BK303.out)) : gb303 ≠ gb307))
    have n7_ := Am ((by rw [hg]; exact Nat.ne_of_gt (kL (g := gb303) (o := .cells #[.int .i64 a0_0, .int .i64 a0_1, .int .i64 a0_2] 30 (0, 0)) (by (with_reducible repeat (first | refine kN ?_ _ | refine kD ?_ | refine kA ?_ _)); exact BK303.out)) : gb307 ≠ gb303))
    have n8_ := Am ((by rw [hg]; exact Nat.ne_of_lt (kL (g := gb304) (o := .cells #[.int .i64 a1_0, .int .i64 a1_1] 26 (0, 0)) (by (with_reducible repeat (first | refine kN ?_ _ | refine kD ?_ | refine kA ?_ _)); exact BK304.out)) : gb304 ≠ gb307))
    have n9_ := Am ((by rw [hg]; exact Nat.ne_of_gt (kL (g := gb304) (o := .cells #[.int .i64 a1_0, .int .i64 a1_1] 26 (0, 0)) (by (with_reducible repeat (first | refine kN ?_ _ | refine kD ?_ | refine kA ?_ _)); exact BK304.out)) : gb307 ≠ gb304))
    clear BK303
    clear BK304
    clear HB
    have BK303 := n0_
    have BK304 := n1_
    have HB := n2_
    have BK307 := n3_
    have GW307 := n4_
    have GE307 := n5_
    have NB303_307 := n6_
    have NB307_303 := n7_
    have NB304_307 := n8_
    have NB307_304 := n9_
    clear n0_ n1_ n2_ n3_ n4_ n5_ n6_ n7_ n8_ n9_
    clear hb hbox hg
    refine hK.out _ _ ⟨(kC BK304.out 0).trans rfl, (kC BK304.out 1).trans rfl, (kC BK303.out 0).trans rfl, (kC BK303.out 1).trans rfl, (kC BK303.out 2).trans rfl⟩ (fun hHeld => ?_)
    clear hK K
    refine norm_ (a' := ?_) ?_ ?_
    rotate_left
    ·show Act.put _ (some 6) _ = _
     simp only [Act.put, List.setIfInBounds_toArray, List.set_cons_zero, List.set_cons_succ, i64_w, i32_w]
     rfl
    refine one_ (i := 3) (N := some 11) #[true, true, true, true, true, true, true, false, false] rfl rfl (one_of HT_.out (by kernel_rfl)) (by decide) (fun K hK => ?_)
    refine goes_ Try.func84 (by kernel_rfl) rfl #[.agg #[.int .i64 a1_0, .int .i64 a1_1], .agg #[.int .i64 a0_0, .int .i64 a0_1]] (by rfl) rfl rfl (by (try simp only [List.map_toArray, List.map_cons, List.map_nil]); first | done | rfl | (simp only [List.length_drop, List.length_take]; rfl)) ?_
    with_reducible refine (impl_Turn_minus.calls k a1_0 a1_1 a0_0 a0_1 t305 t306 _ A3.out).mono ?_
    rintro e w12 ⟨rfl, hb⟩
    refine ⟨_, rfl, ?_⟩
    have n0_ := Am (kB (g := gb303) (o := .cells #[.int .i64 a0_0, .int .i64 a0_1, .int .i64 a0_2] 30 (0, 0)) (by (with_reducible repeat (first | refine kN ?_ _ | refine kD ?_ | refine kA ?_ _)); exact BK303.out) hb)
    have n1_ := Am (kB (g := gb304) (o := .cells #[.int .i64 a1_0, .int .i64 a1_1] 26 (0, 0)) (by (with_reducible repeat (first | refine kN ?_ _ | refine kD ?_ | refine kA ?_ _)); exact BK304.out) hb)
    have n2_ := Am (kB (g := gb307) (o := .cells #[.int .i64 0, .int .i64 0] 26 (0, 0)) (by (with_reducible repeat (first | refine kN ?_ _ | refine kD ?_ | refine kA ?_ _)); exact BK307.out) hb)
    have n3_ := Am (bT (by repeat (first | (with_reducible first | exact HB.out | apply bA | apply bN | apply bD | refine bS ?_ GE303.out | refine bS ?_ GE304.out | refine bS ?_ GE307.out) | exact HB.out)) hb)
    clear BK303
    clear BK304
    clear BK307
    clear HB
    have BK303 := n0_
    have BK304 := n1_
    have BK307 := n2_
    have HB := n3_
    clear n0_ n1_ n2_ n3_
    (try clear hb)
    (try clear hb2)
    (try clear hk)
    (try clear hi)
    refine hK.out _ _ ⟨(kC BK304.out 0).trans rfl, (kC BK304.out 1).trans rfl, (kC BK303.out 0).trans rfl, (kC BK303.out 1).trans rfl, (kC BK303.out 2).trans rfl⟩ (fun hHeld => ?_)
    clear hK K
    refine norm_ (a' := ?_) ?_ ?_
    rotate_left
    ·show Act.put _ (some 11) _ = _
     simp only [Act.put, List.setIfInBounds_toArray, List.set_cons_zero, List.set_cons_succ, i64_w, i32_w]
     rfl
    exact norm_ (by simp only [putAll, Act.put, List.setIfInBounds_toArray, List.set_cons_zero, List.set_cons_succ]) (hCont (gb307) _ ⟨hHeld, (by (with_reducible repeat (first | refine kN ?_ _ | refine kD ?_ | refine kA ?_ _)); exact BK303.out), (by (with_reducible repeat (first | refine kN ?_ _ | refine kD ?_ | refine kA ?_ _)); exact BK304.out), (by (with_reducible repeat (first | refine kN ?_ _ | refine kD ?_ | refine kA ?_ _)); exact BK307.out), GW307.out, GE307.out, NB303_307.out, NB307_303.out, NB304_307.out, NB307_304.out, (by repeat (first | (with_reducible first | exact HB.out | apply bA | apply bN | apply bD | refine bS ?_ GE303.out | refine bS ?_ GE304.out | refine bS ?_ GE307.out) | exact HB.out))⟩)
  rintro gb307 w13 ⟨hS_, h0_, h1_, h2_, h3_, h4_, h5_, h6_, h7_, h8_, h9_⟩
  have n0_ : Aside0 (w13.heap[gb303]? = some (.cells #[.int .i64 a0_0, .int .i64 a0_1, .int .i64 a0_2] 30 (0, 0))) := ⟨h0_⟩
  have n1_ : Aside0 (w13.heap[gb304]? = some (.cells #[.int .i64 a1_0, .int .i64 a1_1] 26 (0, 0))) := ⟨h1_⟩
  have n2_ : Aside0 (w13.heap[gb307]? = some (.cells #[.int .i64 0, .int .i64 0] 26 (0, 0))) := ⟨h2_⟩
  have n3_ : Aside0 (w.heap.size ≤ gb307) := ⟨h3_⟩
  have n4_ : Aside0 (w.heap.size ≤ gb307) := ⟨h4_⟩
  have n5_ : Aside0 (gb303 ≠ gb307) := ⟨h5_⟩
  have n6_ : Aside0 (gb307 ≠ gb303) := ⟨h6_⟩
  have n7_ : Aside0 (gb304 ≠ gb307) := ⟨h7_⟩
  have n8_ : Aside0 (gb307 ≠ gb304) := ⟨h8_⟩
  have n9_ : Aside0 (Below w.heap.size w w13) := ⟨h9_⟩
  clear BK303
  clear BK304
  clear HB
  clear h0_ h1_ h2_ h3_ h4_ h5_ h6_ h7_ h8_ h9_
  have BK303 := n0_
  have BK304 := n1_
  have BK307 := n2_
  have GW307 := n3_
  have GE307 := n4_
  have NB303_307 := n5_
  have NB307_303 := n6_
  have NB304_307 := n7_
  have NB307_304 := n8_
  have HB := n9_
  clear n0_ n1_ n2_ n3_ n4_ n5_ n6_ n7_ n8_ n9_
  have hHeld : w13.cell? ⟨gb304, 0, none⟩ = some (.int .i64 a1_0) ∧ w13.cell? ⟨gb304, 1, none⟩ = some (.int .i64 a1_1) ∧ w13.cell? ⟨gb303, 0, none⟩ = some (.int .i64 a0_0) ∧ w13.cell? ⟨gb303, 1, none⟩ = some (.int .i64 a0_1) ∧ w13.cell? ⟨gb303, 2, none⟩ = some (.int .i64 a0_2) := hS_
  refine norm_ (a' := ?_) ?_ ?_
  rotate_left
  ·simp only [putAll, Act.put, List.setIfInBounds_toArray, List.set_cons_zero, List.set_cons_succ]
   rfl
  refine one_ (i := 7) (N := none) #[true, true, true, true, true, true, true, true, false] rfl rfl (one_of HT_.out (by kernel_rfl)) (by decide) (fun K hK => ?_)
  have hs14 : w13.cell? ⟨gb307, 0, none⟩ = some (.int .i64 0) := (kC BK307.out 0).trans rfl
  have hfs14 := kF BK307.out 0
  have hns14_0 := NB303_307.out
  have hns14_1 := NB304_307.out
  have hms14_0 := NB307_303.out
  have hms14_1 := NB307_304.out
  have hs15 : w13.cell? ⟨gb307, 1, none⟩ = some (.int .i64 0) := (kC BK307.out 1).trans rfl
  have hfs15 := kF BK307.out 1
  have hns15_0 := NB303_307.out
  have hns15_1 := NB304_307.out
  have hms15_0 := NB307_303.out
  have hms15_1 := NB307_304.out
  refine skip_ (w1 := ?_) (by rfl) rfl ?_ ?_
  rotate_left
  ·go_simp
   rfl
  refine hK.out _ _ ⟨((cell_far (p := ⟨gb307, _, none⟩) NB304_307.out _).trans (((cell_far (p := ⟨gb307, _, none⟩) NB304_307.out _).trans (hHeld.1)))), ((cell_far (p := ⟨gb307, _, none⟩) NB304_307.out _).trans (((cell_far (p := ⟨gb307, _, none⟩) NB304_307.out _).trans (hHeld.2.1)))), ((cell_far (p := ⟨gb307, _, none⟩) NB303_307.out _).trans (((cell_far (p := ⟨gb307, _, none⟩) NB303_307.out _).trans (hHeld.2.2.1)))), ((cell_far (p := ⟨gb307, _, none⟩) NB303_307.out _).trans (((cell_far (p := ⟨gb307, _, none⟩) NB303_307.out _).trans (hHeld.2.2.2.1)))), ((cell_far (p := ⟨gb307, _, none⟩) NB303_307.out _).trans (((cell_far (p := ⟨gb307, _, none⟩) NB303_307.out _).trans (hHeld.2.2.2.2))))⟩ (fun hHeld => ?_)
  clear hK K
  refine pure_ (i := 8) (N := some 7) (v := ?_) (a' := ?_) #[true, true, true, true, true, true, true, true, true] rfl rfl (any_of HT_.out (by kernel_rfl)) (fun _ _ _ h => h) (Or.inl ⟨by rfl, ?_⟩) ?_ ?_
  rotate_left
  ·intro w'
   go_simp
   with_reducible rfl
  rotate_left
  ·simp only [Act.put, List.setIfInBounds_toArray, List.set_cons_zero, List.set_cons_succ, i64_w, i32_w]
   rfl
  refine done_ (done_of HT_.out (by kernel_rfl)) ?_
  have hnb16 := NB307_303.out
  have hnc16 := NB303_307.out
  have hnb17 := NB307_304.out
  have hnc17 := NB304_307.out
  have hcz18_0 : w13.cell? ⟨gb307, 0, none⟩ = some (.int .i64 0) := (kC BK307.out 0).trans rfl
  have hcz18_1 : w13.cell? ⟨gb307, 1, none⟩ = some (.int .i64 0) := (kC BK307.out 1).trans rfl
  have hfz18_0 := kF BK307.out 0
  have hfz18_1 := kF BK307.out 1
  try go_wp2_with (first | ((with_reducible refine gate_callee (f := 104) rfl ?_); refine goesL_ (some 17) rfl rfl Try.func104 (by kernel_rfl) rfl #[.agg #[.int .i64 t305, .int .i64 t306]] rfl (by (try simp only [List.map_toArray, List.map_cons, List.map_nil]); first | done | rfl | (simp only [List.length_drop, List.length_take]; rfl)) ?_; (with_reducible refine (impl_Turn_mirror.calls k t305 t306 t308 t309 _ A5.out).mono ?_); rintro e w19 ⟨rfl, hb⟩; refine ⟨_, rfl, ?_⟩; have n0_ := Am (kB (g := gb303) (o := .cells #[.int .i64 a0_0, .int .i64 a0_1, .int .i64 a0_2] 30 (0, 0)) (by (with_reducible repeat (first | refine kN ?_ _ | refine kD ?_ | refine kA ?_ _)); refine kR ?_ NB303_307.out _; (with_reducible repeat (first | refine kN ?_ _ | refine kD ?_ | refine kA ?_ _)); refine kR ?_ NB303_307.out _; (with_reducible repeat (first | refine kN ?_ _ | refine kD ?_ | refine kA ?_ _)); exact BK303.out) hb); have n1_ := Am (kB (g := gb304) (o := .cells #[.int .i64 a1_0, .int .i64 a1_1] 26 (0, 0)) (by (with_reducible repeat (first | refine kN ?_ _ | refine kD ?_ | refine kA ?_ _)); refine kR ?_ NB304_307.out _; (with_reducible repeat (first | refine kN ?_ _ | refine kD ?_ | refine kA ?_ _)); refine kR ?_ NB304_307.out _; (with_reducible repeat (first | refine kN ?_ _ | refine kD ?_ | refine kA ?_ _)); exact BK304.out) hb); have n2_ := Am (kB (g := gb307) (o := .cells #[.int .i64 t305, .int .i64 t306] 26 (0, 0)) (by (with_reducible repeat (first | refine kN ?_ _ | refine kD ?_ | refine kA ?_ _)); refine kP (cs := #[.int .i64 t305, .int .i64 0]) ?_ 1 _ rfl; (with_reducible repeat (first | refine kN ?_ _ | refine kD ?_ | refine kA ?_ _)); refine kP (cs := #[.int .i64 0, .int .i64 0]) ?_ 0 _ rfl; (with_reducible repeat (first | refine kN ?_ _ | refine kD ?_ | refine kA ?_ _)); exact BK307.out) hb); have n3_ := Am (bT (by repeat (first | (with_reducible first | exact HB.out | apply bA | apply bN | apply bD | refine bS ?_ GE303.out | refine bS ?_ GE304.out | refine bS ?_ GE307.out) | exact HB.out)) hb); clear BK303; clear BK304; clear BK307; clear HB; have BK303 := n0_; have BK304 := n1_; have BK307 := n2_; have HB := n3_; clear n0_ n1_ n2_ n3_; (try clear hb); (try clear hb2); (try clear hk); (try clear hi); have hcz20_0 : w19.cell? ⟨gb307, 0, none⟩ = some (.int .i64 t305) := (kC BK307.out 0).trans rfl; have hcz20_1 : w19.cell? ⟨gb307, 1, none⟩ = some (.int .i64 t306) := (kC BK307.out 1).trans rfl; have hfz20_0 := kF BK307.out 0; have hfz20_1 := kF BK307.out 1) | ((with_reducible refine gate_callee (f := 105) rfl ?_); refine goesL_ (some 22) rfl rfl Try.func105 (by kernel_rfl) rfl #[.agg #[.int .i64 t308, .int .i64 t309], .int .i64 (wrap64 (-a0_2))] rfl (by (try simp only [List.map_toArray, List.map_cons, List.map_nil]); first | done | rfl | (simp only [List.length_drop, List.length_take]; rfl)) ?_; (with_reducible refine (impl_roots.calls k t308 t309 (wrap64 (-a0_2)) t310 t313 _ A6.out).mono ?_); rintro e w21 ⟨v311, rfl, ho0, hb⟩; refine ⟨_, rfl, ?_⟩; have n0_ := Am (Kd.R_lower (Kd.R_newB (Kd.R_newB ho0 (g := gb304) (o := .cells #[.int .i64 a1_0, .int .i64 a1_1] 26 (0, 0)) (by (with_reducible repeat (first | refine kN ?_ _ | refine kD ?_ | refine kA ?_ _)); refine kR ?_ NB304_307.out _; (with_reducible repeat (first | refine kN ?_ _ | refine kD ?_ | refine kA ?_ _)); refine kR ?_ NB304_307.out _; (with_reducible repeat (first | refine kN ?_ _ | refine kD ?_ | refine kA ?_ _)); exact BK304.out)) (g := gb307) (o := .cells #[.int .i64 t308, .int .i64 t309] 26 (0, 0)) (by (with_reducible repeat (first | refine kN ?_ _ | refine kD ?_ | refine kA ?_ _)); refine kP (cs := #[.int .i64 t308, .int .i64 t306]) ?_ 1 _ rfl; (with_reducible repeat (first | refine kN ?_ _ | refine kD ?_ | refine kA ?_ _)); refine kP (cs := #[.int .i64 t305, .int .i64 t306]) ?_ 0 _ rfl; (with_reducible repeat (first | refine kN ?_ _ | refine kD ?_ | refine kA ?_ _)); exact BK307.out)) (bZ (by repeat (first | (with_reducible first | exact HB.out | apply bA | apply bN | apply bD | refine bS ?_ GE303.out | refine bS ?_ GE304.out | refine bS ?_ GE307.out) | exact HB.out)))); have n1_ := Am (kB (g := gb303) (o := .cells #[.int .i64 a0_0, .int .i64 a0_1, .int .i64 a0_2] 30 (0, 0)) (by (with_reducible repeat (first | refine kN ?_ _ | refine kD ?_ | refine kA ?_ _)); refine kR ?_ NB303_307.out _; (with_reducible repeat (first | refine kN ?_ _ | refine kD ?_ | refine kA ?_ _)); refine kR ?_ NB303_307.out _; (with_reducible repeat (first | refine kN ?_ _ | refine kD ?_ | refine kA ?_ _)); exact BK303.out) hb); have n2_ := Am (kB (g := gb304) (o := .cells #[.int .i64 a1_0, .int .i64 a1_1] 26 (0, 0)) (by (with_reducible repeat (first | refine kN ?_ _ | refine kD ?_ | refine kA ?_ _)); refine kR ?_ NB304_307.out _; (with_reducible repeat (first | refine kN ?_ _ | refine kD ?_ | refine kA ?_ _)); refine kR ?_ NB304_307.out _; (with_reducible repeat (first | refine kN ?_ _ | refine kD ?_ | refine kA ?_ _)); exact BK304.out) hb); have n3_ := Am (kB (g := gb307) (o := .cells #[.int .i64 t308, .int .i64 t309] 26 (0, 0)) (by (with_reducible repeat (first | refine kN ?_ _ | refine kD ?_ | refine kA ?_ _)); refine kP (cs := #[.int .i64 t308, .int .i64 t306]) ?_ 1 _ rfl; (with_reducible repeat (first | refine kN ?_ _ | refine kD ?_ | refine kA ?_ _)); refine kP (cs := #[.int .i64 t305, .int .i64 t306]) ?_ 0 _ rfl; (with_reducible repeat (first | refine kN ?_ _ | refine kD ?_ | refine kA ?_ _)); exact BK307.out) hb); have n4_ := Am (bT (by repeat (first | (with_reducible first | exact HB.out | apply bA | apply bN | apply bD | refine bS ?_ GE303.out | refine bS ?_ GE304.out | refine bS ?_ GE307.out) | exact HB.out)) hb); clear BK303; clear BK304; clear BK307; clear HB; have HO312 := n0_; have BK303 := n1_; have BK304 := n2_; have BK307 := n3_; have HB := n4_; clear n0_ n1_ n2_ n3_ n4_; (try clear hb); (try clear hb2); (try clear hk); (try clear hi); (try clear ho0); obtain ⟨Ao22, co22, eo22⟩ := Kd.R_slice HO312.out; subst eo22) | ((with_reducible refine gate_callee (f := 85) rfl ?_); refine goesL_ (some 25) rfl rfl Try.func85 (by kernel_rfl) rfl #[.slice Ao22 t310.length co22, .bool t313] rfl (by (try simp only [List.map_toArray, List.map_cons, List.map_nil]); first | done | rfl | (simp only [List.length_drop, List.length_take]; rfl)) ?_; (with_reducible refine (impl_ifTurns.calls k (fun k_ => some k_ = (.slice Ao22 t310.length co22 : Value).ownBlock) (.slice Ao22 t310.length co22) t310 t313 t314 t317 w _ ?side1 ?side2 A7.out).mono ?_); (case side1 => repeat (first | (with_reducible first | exact HB.out | apply bA | apply bN | apply bD | refine bS ?_ GE303.out | refine bS ?_ GE304.out | refine bS ?_ GE307.out) | exact HB.out)); (case side2 => exact Kd.R_tight rfl HO312.out); rintro e w23 ⟨v315, rfl, ho0, hb, hkp⟩; refine ⟨_, rfl, ?_⟩; have n0_ := Am (blk_kept (by (with_reducible repeat (first | refine kN ?_ _ | refine kD ?_ | refine kA ?_ _)); exact BK303.out) hkp (fun hs_ => (fun e_ => (Kd.R_ne HO312.out BK303.out (by decide)) e_) hs_)); have n1_ := Am (blk_kept (by (with_reducible repeat (first | refine kN ?_ _ | refine kD ?_ | refine kA ?_ _)); exact BK304.out) hkp (fun hs_ => (fun e_ => (Kd.R_away HO312.out (fun _ hk => hk.1.2)) e_) hs_)); have n2_ := Am (blk_kept (by (with_reducible repeat (first | refine kN ?_ _ | refine kD ?_ | refine kA ?_ _)); exact BK307.out) hkp (fun hs_ => (fun e_ => (Kd.R_away HO312.out (fun _ hk => hk.2)) e_) hs_)); have n3_ := Am (Kd.R_mono (ok' := fun k_ => k_ ≠ gb304 ∧ k_ ≠ gb307) ho0 (fun k_ hk_ => ⟨Or.elim hk_ (fun hs_ => fun e_ => (Kd.R_away HO312.out (fun _ hk => hk.1.2)) (by rw [← e_]; exact hs_)) (fun hn_ => (Kd.freshB (g := gb304) (o := .cells #[.int .i64 a1_0, .int .i64 a1_1] 26 (0, 0)) (by (with_reducible repeat (first | refine kN ?_ _ | refine kD ?_ | refine kA ?_ _)); exact BK304.out) k_ hn_)), Or.elim hk_ (fun hs_ => fun e_ => (Kd.R_away HO312.out (fun _ hk => hk.2)) (by rw [← e_]; exact hs_)) (fun hn_ => (Kd.freshB (g := gb307) (o := .cells #[.int .i64 t308, .int .i64 t309] 26 (0, 0)) (by (with_reducible repeat (first | refine kN ?_ _ | refine kD ?_ | refine kA ?_ _)); exact BK307.out) k_ hn_))⟩)); have n4_ := Am (hb); clear BK303; clear BK304; clear BK307; clear HB; clear HO312; have BK303 := n0_; have BK304 := n1_; have BK307 := n2_; have HO316 := n3_; have HB := n4_; clear n0_ n1_ n2_ n3_ n4_; (try clear hb); (try clear hkp); (try clear ho0)))
  go_ret2
  exact ⟨_, by first | rfl | (simp [errW_none, errW_some] <;> rfl) | (simp [*, errW_none, errW_some] <;> rfl), by (with_reducible repeat (first | apply Kd.R_alloc | apply Kd.R_drewN | apply Kd.R_drew)); exact Kd.R_mono HO316.out (fun _ hk => trivial), by repeat (first | (with_reducible first | exact HB.out | apply bA | apply bN | apply bD | refine bS ?_ GE303.out | refine bS ?_ GE304.out | refine bS ?_ GE307.out) | exact HB.out)⟩
 ·rw [if_neg c4] at H
  have c4b0 : decide (a0_2 < 0) = false := decide_eq_false c4
  clear c4
  replace H := Option.bind_eq_some_iff.mp H
  obtain ⟨⟨t318, t321⟩, A240, H⟩ := H
  replace H : ((impl_ifTurns.f k t318 t321).bind fun bt322 => (some (bt322.1, bt322.2))) = some (r1, r2) := H
  have A24 := Am A240
  clear A240
  replace H := Option.bind_eq_some_iff.mp H
  obtain ⟨⟨t322, t325⟩, A250, H⟩ := H
  replace H : (some (t322, t325)) = some (r1, r2) := H
  have A25 := Am A250
  clear A250
  simp only [Option.some.injEq, Prod.mk.injEq] at H
  obtain ⟨rfl, rfl⟩ := H
  go_enter Try.func78, Try.ntmps78
  try go_wp2_with (first | ((with_reducible refine gate_dst (N := 2) rfl ?_); refine box_event ?hg (N := 2) ?hd (cs := #[.int .i64 a0_0, .int .i64 a0_1, .int .i64 a0_2]) (t := 30) ?hr ?_; (case hd => rfl); (case hg => rfl); (case hr => first | (go_simp; done) | (go_simp; rfl)); intro gb303 hg w26 hbox hb; have n0_ := Am (bT (by repeat (first | (with_reducible first | exact HB.out | apply bA | apply bN | apply bD) | exact HB.out)) hb); have n1_ := Am (hbox); have n2_ := Am ((by rw [hg]; exact (bZ (by repeat (first | (with_reducible first | exact HB.out | apply bA | apply bN | apply bD) | exact HB.out))) : w.heap.size ≤ gb303)); have n3_ := Am ((by rw [hg]; exact (bZ (by repeat (first | (with_reducible first | exact HB.out | apply bA | apply bN | apply bD) | exact HB.out))) : w.heap.size ≤ gb303)); clear HB; have HB := n0_; have BK303 := n1_; have GW303 := n2_; have GE303 := n3_; clear n0_ n1_ n2_ n3_; clear hb hbox hg) | ((with_reducible refine gate_dst (N := 3) rfl ?_); refine box_event ?hg (N := 3) ?hd (cs := #[.int .i64 a1_0, .int .i64 a1_1]) (t := 26) ?hr ?_; (case hd => rfl); (case hg => rfl); (case hr => first | (go_simp; done) | (go_simp; rfl)); intro gb304 hg w27 hbox hb; have n0_ := Am (kB (g := gb303) (o := .cells #[.int .i64 a0_0, .int .i64 a0_1, .int .i64 a0_2] 30 (0, 0)) (by (with_reducible repeat (first | refine kN ?_ _ | refine kD ?_ | refine kA ?_ _)); exact BK303.out) hb); have n1_ := Am (bT (by repeat (first | (with_reducible first | exact HB.out | apply bA | apply bN | apply bD | refine bS ?_ GE303.out) | exact HB.out)) hb); have n2_ := Am (hbox); have n3_ := Am ((by rw [hg]; exact (bZ (by repeat (first | (with_reducible first | exact HB.out | apply bA | apply bN | apply bD | refine bS ?_ GE303.out) | exact HB.out))) : w.heap.size ≤ gb304)); have n4_ := Am ((by rw [hg]; exact (bZ (by repeat (first | (with_reducible first | exact HB.out | apply bA | apply bN | apply bD | refine bS ?_ GE303.out) | exact HB.out))) : w.heap.size ≤ gb304)); have n5_ := Am ((by rw [hg]; exact Nat.ne_of_lt (kL (g := gb303) (o := .cells #[.int .i64 a0_0, .int .i64 a0_1, .int .i64 a0_2] 30 (0, 0)) (by (with_reducible repeat (first | refine kN ?_ _ | refine kD ?_ | refine kA ?_ _)); exact BK303.out)) : gb303 ≠ gb304)); have n6_ := Am ((by rw [hg]; exact Nat.ne_of_gt (kL (g := gb303) (o := .cells #[.int .i64 a0_0, .int .i64 a0_1, .int .i64 a0_2] 30 (0, 0)) (by (with_reducible repeat (first | refine kN ?_ _ | refine kD ?_ | refine kA ?_ _)); exact BK303.out)) : gb304 ≠ gb303)); clear BK303; clear HB; have BK303 := n0_; have HB := n1_; have BK304 := n2_; have GW304 := n3_; have GE304 := n4_; have NB303_304 := n5_; have NB304_303 := n6_; clear n0_ n1_ n2_ n3_ n4_ n5_ n6_; clear hb hbox hg))
  have n0_ := Am (kD BK303.out)
  have n1_ := Am (kD BK304.out)
  have n2_ := Am (bD HB.out)
  clear BK303
  clear BK304
  clear HB
  have BK303 := n0_
  have BK304 := n1_
  have HB := n2_
  clear n0_ n1_ n2_
  refine start_ (n := 9) (S := fun w' => w'.cell? ⟨gb304, 0, none⟩ = some (.int .i64 a1_0) ∧ w'.cell? ⟨gb304, 1, none⟩ = some (.int .i64 a1_1) ∧ w'.cell? ⟨gb303, 0, none⟩ = some (.int .i64 a0_0) ∧ w'.cell? ⟨gb303, 1, none⟩ = some (.int .i64 a0_1) ∧ w'.cell? ⟨gb303, 2, none⟩ = some (.int .i64 a0_2)) (ds := []) #[false, false, false, false, false, false, false, false, false] (by kernel_rfl) rfl rfl ⟨(kC BK304.out 0).trans rfl, (kC BK304.out 1).trans rfl, (kC BK303.out 0).trans rfl, (kC BK303.out 1).trans rfl, (kC BK303.out 2).trans rfl⟩ (fun hHeld => ?_); refine with_tabW impl_Hand_timesAt.tab1 impl_Hand_timesAt.bits1 (fun HT_ HW_ => ?_)
  generalize w27.drew = w28 at BK303 BK304 HB hHeld ⊢
  refine pure_ (i := 1) (N := some 9) (v := ?_) (a' := ?_) #[false, true, false, false, false, false, false, false, false] rfl rfl (any_of HT_.out (by kernel_rfl)) (fun _ _ _ h => h) (Or.inl ⟨by rfl, ?_⟩) ?_ ?_
  rotate_left
  ·intro w'
   go_simp
   with_reducible rfl
  rotate_left
  ·simp only [Act.put, List.setIfInBounds_toArray, List.set_cons_zero, List.set_cons_succ, i64_w, i32_w]
   rfl
  refine pure_ (i := 4) (N := some 12) (v := ?_) (a' := ?_) #[false, true, false, false, true, false, false, false, false] rfl rfl (any_of HT_.out (by kernel_rfl)) (fun _ _ _ h => h) (Or.inl ⟨by rfl, ?_⟩) ?_ ?_
  rotate_left
  ·intro w'
   go_simp
   with_reducible rfl
  rotate_left
  ·simp only [Act.put, List.setIfInBounds_toArray, List.set_cons_zero, List.set_cons_succ, i64_w, i32_w]
   rfl
  refine take_ (i := 0) (N := some 8) (v := ?_) (a' := ?_) #[true, true, false, false, true, false, false, false, false] rfl rfl (take_ofW HT_.out HW_.out (by kernel_rfl)) (fun _ _ _ h => h) (Or.inl ⟨by rfl, ?_⟩) hHeld ?_ ?_
  rotate_left
  ·rintro w' ⟨s0, s1, s2, s3, s4⟩
   go_simp
   with_reducible rfl
  rotate_left
  ·simp only [Act.put, List.setIfInBounds_toArray, List.set_cons_zero, List.set_cons_succ, i64_w, i32_w]
   rfl
  refine take_ (i := 2) (N := some 10) (v := ?_) (a' := ?_) #[true, true, true, false, true, false, false, false, false] rfl rfl (take_ofW HT_.out HW_.out (by kernel_rfl)) (fun _ _ _ h => h) (Or.inl ⟨by rfl, ?_⟩) hHeld ?_ ?_
  rotate_left
  ·rintro w' ⟨s0, s1, s2, s3, s4⟩
   go_simp
   with_reducible rfl
  rotate_left
  ·simp only [Act.put, List.setIfInBounds_toArray, List.set_cons_zero, List.set_cons_succ, i64_w, i32_w]
   rfl
  refine take_ (i := 5) (N := some 13) (v := ?_) (a' := ?_) #[true, true, true, false, true, true, false, false, false] rfl rfl (take_ofW HT_.out HW_.out (by kernel_rfl)) (fun _ _ _ h => h) (Or.inl ⟨by rfl, ?_⟩) hHeld ?_ ?_
  rotate_left
  ·rintro w' ⟨s0, s1, s2, s3, s4⟩
   go_simp
   with_reducible rfl
  rotate_left
  ·simp only [Act.put, List.setIfInBounds_toArray, List.set_cons_zero, List.set_cons_succ, i64_w, i32_w]
   rfl
  refine join_ (σ := Nat) 2 #[true, true, true, true, true, true, true, false, false] (fun s_ => [(11, .agg #[.int .i64 t305, .int .i64 t306]), (6, .pointer (some ⟨s_, 0, none⟩))]) (fun s_ w' => (w'.cell? ⟨gb304, 0, none⟩ = some (.int .i64 a1_0) ∧ w'.cell? ⟨gb304, 1, none⟩ = some (.int .i64 a1_1) ∧ w'.cell? ⟨gb303, 0, none⟩ = some (.int .i64 a0_0) ∧ w'.cell? ⟨gb303, 1, none⟩ = some (.int .i64 a0_1) ∧ w'.cell? ⟨gb303, 2, none⟩ = some (.int .i64 a0_2)) ∧ (w'.heap[gb303]? = some (.cells #[.int .i64 a0_0, .int .i64 a0_1, .int .i64 a0_2] 30 (0, 0))) ∧ (w'.heap[gb304]? = some (.cells #[.int .i64 a1_0, .int .i64 a1_1] 26 (0, 0))) ∧ (w'.heap[s_]? = some (.cells #[.int .i64 0, .int .i64 0] 26 (0, 0))) ∧ (w.heap.size ≤ s_) ∧ (w.heap.size ≤ s_) ∧ (gb303 ≠ s_) ∧ (s_ ≠ gb303) ∧ (gb304 ≠ s_) ∧ (s_ ≠ gb304) ∧ (Below w.heap.size w w')) ?_ ?_
  rotate_left
  ·intro hCont
   refine two_ (i := 3) (j := 6) (Ni := some 11) (Nj := some 6) #[true, true, true, true, true, true, false, false, false] #[true, true, true, false, true, true, true, false, false] rfl rfl rfl rfl (two_of HT_.out (by kernel_rfl)) (by decide) (by decide) (fun K hK => ?_) (fun K hK => ?_)
   ·skip
    refine goes_ Try.func84 (by kernel_rfl) rfl #[.agg #[.int .i64 a1_0, .int .i64 a1_1], .agg #[.int .i64 a0_0, .int .i64 a0_1]] (by rfl) rfl rfl (by (try simp only [List.map_toArray, List.map_cons, List.map_nil]); first | done | rfl | (simp only [List.length_drop, List.length_take]; rfl)) ?_
    with_reducible refine (impl_Turn_minus.calls k a1_0 a1_1 a0_0 a0_1 t305 t306 _ A3.out).mono ?_
    rintro e w29 ⟨rfl, hb⟩
    refine ⟨_, rfl, ?_⟩
    have n0_ := Am (kB (g := gb303) (o := .cells #[.int .i64 a0_0, .int .i64 a0_1, .int .i64 a0_2] 30 (0, 0)) (by (with_reducible repeat (first | refine kN ?_ _ | refine kD ?_ | refine kA ?_ _)); exact BK303.out) hb)
    have n1_ := Am (kB (g := gb304) (o := .cells #[.int .i64 a1_0, .int .i64 a1_1] 26 (0, 0)) (by (with_reducible repeat (first | refine kN ?_ _ | refine kD ?_ | refine kA ?_ _)); exact BK304.out) hb)
    have n2_ := Am (bT (by repeat (first | (with_reducible first | exact HB.out | apply bA | apply bN | apply bD | refine bS ?_ GE303.out | refine bS ?_ GE304.out) | exact HB.out)) hb)
    clear BK303
    clear BK304
    clear HB
    have BK303 := n0_
    have BK304 := n1_
    have HB := n2_
    clear n0_ n1_ n2_
    (try clear hb)
    (try clear hb2)
    (try clear hk)
    (try clear hi)
    refine hK.out _ _ ⟨(kC BK304.out 0).trans rfl, (kC BK304.out 1).trans rfl, (kC BK303.out 0).trans rfl, (kC BK303.out 1).trans rfl, (kC BK303.out 2).trans rfl⟩ (fun hHeld => ?_)
    clear hK K
    refine norm_ (a' := ?_) ?_ ?_
    rotate_left
    ·show Act.put _ (some 11) _ = _
     simp only [Act.put, List.setIfInBounds_toArray, List.set_cons_zero, List.set_cons_succ, i64_w, i32_w]
     rfl
    refine one_ (i := 6) (N := some 6) #[true, true, true, true, true, true, true, false, false] rfl rfl (one_of HT_.out (by kernel_rfl)) (by decide) (fun K hK => ?_)
    refine box_step ?hg (N := 6) ?hd (cs := #[.int .i64 0, .int .i64 0]) (t := 26) ?hr ?_; (case hd => rfl); (case hg => rfl); (case hr => first | (go_simp; done) | (go_simp; rfl))
    intro gb307 hg w30 hbox hb
    have n0_ := Am (kB (g := gb303) (o := .cells #[.int .i64 a0_0, .int .i64 a0_1, .int .i64 a0_2] 30 (0, 0)) (by (with_reducible repeat (first | refine kN ?_ _ | refine kD ?_ | refine kA ?_ _)); exact BK303.out) hb)
    have n1_ := Am (kB (g := gb304) (o := .cells #[.int .i64 a1_0, .int .i64 a1_1] 26 (0, 0)) (by (with_reducible repeat (first | refine kN ?_ _ | refine kD ?_ | refine kA ?_ _)); exact BK304.out) hb)
    have n2_ := Am (bT (by repeat (first | (with_reducible first | exact HB.out | apply bA | apply bN | apply bD | refine bS ?_ GE303.out | refine bS ?_ GE304.out) | exact HB.out)) hb)
    have n3_ := Am (hbox)
    have n4_ := Am ((by rw [hg]; exact (bZ (by repeat (first | (with_reducible first | exact HB.out | apply bA | apply bN | apply bD | refine bS ?_ GE303.out | refine bS ?_ GE304.out) | exact HB.out))) : w.heap.size ≤ gb307))
    have n5_ := Am ((by rw [hg]; exact (bZ (by repeat (first | (with_reducible first | exact HB.out | apply bA | apply bN | apply bD | refine bS ?_ GE303.out | refine bS ?_ GE304.out) | exact HB.out))) : w.heap.size ≤ gb307))
    have n6_ := Am ((by rw [hg]; exact Nat.ne_of_lt (kL (g := gb303) (o := .cells #[.int .i64 a0_0, .int .i64 a0_1, .int .i64 a0_2] 30 (0, 0)) (by (with_reducible repeat (first | refine kN ?_ _ | refine kD ?_ | refine kA ?_ _)); exact BK303.out)) : gb303 ≠ gb307))
    have n7_ := Am ((by rw [hg]; exact Nat.ne_of_gt (kL (g := gb303) (o := .cells #[.int .i64 a0_0, .int .i64 a0_1, .int .i64 a0_2] 30 (0, 0)) (by (with_reducible repeat (first | refine kN ?_ _ | refine kD ?_ | refine kA ?_ _)); exact BK303.out)) : gb307 ≠ gb303))
    have n8_ := Am ((by rw [hg]; exact Nat.ne_of_lt (kL (g := gb304) (o := .cells #[.int .i64 a1_0, .int .i64 a1_1] 26 (0, 0)) (by (with_reducible repeat (first | refine kN ?_ _ | refine kD ?_ | refine kA ?_ _)); exact BK304.out)) : gb304 ≠ gb307))
    have n9_ := Am ((by rw [hg]; exact Nat.ne_of_gt (kL (g := gb304) (o := .cells #[.int .i64 a1_0, .int .i64 a1_1] 26 (0, 0)) (by (with_reducible repeat (first | refine kN ?_ _ | refine kD ?_ | refine kA ?_ _)); exact BK304.out)) : gb307 ≠ gb304))
    clear BK303
    clear BK304
    clear HB
    have BK303 := n0_
    have BK304 := n1_
    have HB := n2_
    have BK307 := n3_
    have GW307 := n4_
    have GE307 := n5_
    have NB303_307 := n6_
    have NB307_303 := n7_
    have NB304_307 := n8_
    have NB307_304 := n9_
    clear n0_ n1_ n2_ n3_ n4_ n5_ n6_ n7_ n8_ n9_
    clear hb hbox hg
    refine hK.out _ _ ⟨(kC BK304.out 0).trans rfl, (kC BK304.out 1).trans rfl, (kC BK303.out 0).trans rfl, (kC BK303.out 1).trans rfl, (kC BK303.out 2).trans rfl⟩ (fun hHeld => ?_)
    clear hK K
    refine norm_ (a' := ?_) ?_ ?_
    rotate_left
    ·show Act.put _ (some 6) _ = _
     simp only [Act.put, List.setIfInBounds_toArray, List.set_cons_zero, List.set_cons_succ, i64_w, i32_w]
     rfl
    exact norm_ (by simp only [putAll, Act.put, List.setIfInBounds_toArray, List.set_cons_zero, List.set_cons_succ]) (hCont (gb307) _ ⟨hHeld, (by (with_reducible repeat (first | refine kN ?_ _ | refine kD ?_ | refine kA ?_ _)); exact BK303.out), (by (with_reducible repeat (first | refine kN ?_ _ | refine kD ?_ | refine kA ?_ _)); exact BK304.out), (by (with_reducible repeat (first | refine kN ?_ _ | refine kD ?_ | refine kA ?_ _)); exact BK307.out), GW307.out, GE307.out, NB303_307.out, NB307_303.out, NB304_307.out, NB307_304.out, (by repeat (first | (with_reducible first | exact HB.out | apply bA | apply bN | apply bD | refine bS ?_ GE303.out | refine bS ?_ GE304.out | refine bS ?_ GE307.out) | exact HB.out))⟩)
   ·skip
    refine box_step ?hg (N := 6) ?hd (cs := #[.int .i64 0, .int .i64 0]) (t := 26) ?hr ?_; (case hd => rfl); (case hg => rfl); (case hr => first | (go_simp; done) | (go_simp; rfl))
    intro gb307 hg w29 hbox hb
    have n0_ := Am (kB (g := gb303) (o := .cells #[.int .i64 a0_0, .int .i64 a0_1, .int .i64 a0_2] 30 (0, 0)) (by (with_reducible repeat (first | refine kN ?_ _ | refine kD ?_ | refine kA ?_ _)); exact BK303.out) hb)
    have n1_ := Am (kB (g := gb304) (o := .cells #[.int .i64 a1_0, .int .i64 a1_1] 26 (0, 0)) (by (with_reducible repeat (first | refine kN ?_ _ | refine kD ?_ | refine kA ?_ _)); exact BK304.out) hb)
    have n2_ := Am (bT (by repeat (first | (with_reducible first | exact HB.out | apply bA | apply bN | apply bD | refine bS ?_ GE303.out | refine bS ?_ GE304.out) | exact HB.out)) hb)
    have n3_ := Am (hbox)
    have n4_ := Am ((by rw [hg]; exact (bZ (by repeat (first | (with_reducible first | exact HB.out | apply bA | apply bN | apply bD | refine bS ?_ GE303.out | refine bS ?_ GE304.out) | exact HB.out))) : w.heap.size ≤ gb307))
    have n5_ := Am ((by rw [hg]; exact (bZ (by repeat (first | (with_reducible first | exact HB.out | apply bA | apply bN | apply bD | refine bS ?_ GE303.out | refine bS ?_ GE304.out) | exact HB.out))) : w.heap.size ≤ gb307))
    have n6_ := Am ((by rw [hg]; exact Nat.ne_of_lt (kL (g := gb303) (o := .cells #[.int .i64 a0_0, .int .i64 a0_1, .int .i64 a0_2] 30 (0, 0)) (by (with_reducible repeat (first | refine kN ?_ _ | refine kD ?_ | refine kA ?_ _)); exact BK303.out)) : gb303 ≠ gb307))
    have n7_ := Am ((by rw [hg]; exact Nat.ne_of_gt (kL (g := gb303) (o := .cells #[.int .i64 a0_0, .int .i64 a0_1, .int .i64 a0_2] 30 (0, 0)) (by (with_reducible repeat (first | refine kN ?_ _ | refine kD ?_ | refine kA ?_ _)); exact BK303.out)) : gb307 ≠ gb303))
    have n8_ := Am ((by rw [hg]; exact Nat.ne_of_lt (kL (g := gb304) (o := .cells #[.int .i64 a1_0, .int .i64 a1_1] 26 (0, 0)) (by (with_reducible repeat (first | refine kN ?_ _ | refine kD ?_ | refine kA ?_ _)); exact BK304.out)) : gb304 ≠ gb307))
    have n9_ := Am ((by rw [hg]; exact Nat.ne_of_gt (kL (g := gb304) (o := .cells #[.int .i64 a1_0, .int .i64 a1_1] 26 (0, 0)) (by (with_reducible repeat (first | refine kN ?_ _ | refine kD ?_ | refine kA ?_ _)); exact BK304.out)) : gb307 ≠ gb304))
    clear BK303
    clear BK304
    clear HB
    have BK303 := n0_
    have BK304 := n1_
    have HB := n2_
    have BK307 := n3_
    have GW307 := n4_
    have GE307 := n5_
    have NB303_307 := n6_
    have NB307_303 := n7_
    have NB304_307 := n8_
    have NB307_304 := n9_
    clear n0_ n1_ n2_ n3_ n4_ n5_ n6_ n7_ n8_ n9_
    clear hb hbox hg
    refine hK.out _ _ ⟨(kC BK304.out 0).trans rfl, (kC BK304.out 1).trans rfl, (kC BK303.out 0).trans rfl, (kC BK303.out 1).trans rfl, (kC BK303.out 2).trans rfl⟩ (fun hHeld => ?_)
    clear hK K
    refine norm_ (a' := ?_) ?_ ?_
    rotate_left
    ·show Act.put _ (some 6) _ = _
     simp only [Act.put, List.setIfInBounds_toArray, List.set_cons_zero, List.set_cons_succ, i64_w, i32_w]
     rfl
    refine one_ (i := 3) (N := some 11) #[true, true, true, true, true, true, true, false, false] rfl rfl (one_of HT_.out (by kernel_rfl)) (by decide) (fun K hK => ?_)
    refine goes_ Try.func84 (by kernel_rfl) rfl #[.agg #[.int .i64 a1_0, .int .i64 a1_1], .agg #[.int .i64 a0_0, .int .i64 a0_1]] (by rfl) rfl rfl (by (try simp only [List.map_toArray, List.map_cons, List.map_nil]); first | done | rfl | (simp only [List.length_drop, List.length_take]; rfl)) ?_
    with_reducible refine (impl_Turn_minus.calls k a1_0 a1_1 a0_0 a0_1 t305 t306 _ A3.out).mono ?_
    rintro e w30 ⟨rfl, hb⟩
    refine ⟨_, rfl, ?_⟩
    have n0_ := Am (kB (g := gb303) (o := .cells #[.int .i64 a0_0, .int .i64 a0_1, .int .i64 a0_2] 30 (0, 0)) (by (with_reducible repeat (first | refine kN ?_ _ | refine kD ?_ | refine kA ?_ _)); exact BK303.out) hb)
    have n1_ := Am (kB (g := gb304) (o := .cells #[.int .i64 a1_0, .int .i64 a1_1] 26 (0, 0)) (by (with_reducible repeat (first | refine kN ?_ _ | refine kD ?_ | refine kA ?_ _)); exact BK304.out) hb)
    have n2_ := Am (kB (g := gb307) (o := .cells #[.int .i64 0, .int .i64 0] 26 (0, 0)) (by (with_reducible repeat (first | refine kN ?_ _ | refine kD ?_ | refine kA ?_ _)); exact BK307.out) hb)
    have n3_ := Am (bT (by repeat (first | (with_reducible first | exact HB.out | apply bA | apply bN | apply bD | refine bS ?_ GE303.out | refine bS ?_ GE304.out | refine bS ?_ GE307.out) | exact HB.out)) hb)
    clear BK303
    clear BK304
    clear BK307
    clear HB
    have BK303 := n0_
    have BK304 := n1_
    have BK307 := n2_
    have HB := n3_
    clear n0_ n1_ n2_ n3_
    (try clear hb)
    (try clear hb2)
    (try clear hk)
    (try clear hi)
    refine hK.out _ _ ⟨(kC BK304.out 0).trans rfl, (kC BK304.out 1).trans rfl, (kC BK303.out 0).trans rfl, (kC BK303.out 1).trans rfl, (kC BK303.out 2).trans rfl⟩ (fun hHeld => ?_)
    clear hK K
    refine norm_ (a' := ?_) ?_ ?_
    rotate_left
    ·show Act.put _ (some 11) _ = _
     simp only [Act.put, List.setIfInBounds_toArray, List.set_cons_zero, List.set_cons_succ, i64_w, i32_w]
     rfl
    exact norm_ (by simp only [putAll, Act.put, List.setIfInBounds_toArray, List.set_cons_zero, List.set_cons_succ]) (hCont (gb307) _ ⟨hHeld, (by (with_reducible repeat (first | refine kN ?_ _ | refine kD ?_ | refine kA ?_ _)); exact BK303.out), (by (with_reducible repeat (first | refine kN ?_ _ | refine kD ?_ | refine kA ?_ _)); exact BK304.out), (by (with_reducible repeat (first | refine kN ?_ _ | refine kD ?_ | refine kA ?_ _)); exact BK307.out), GW307.out, GE307.out, NB303_307.out, NB307_303.out, NB304_307.out, NB307_304.out, (by repeat (first | (with_reducible first | exact HB.out | apply bA | apply bN | apply bD | refine bS ?_ GE303.out | refine bS ?_ GE304.out | refine bS ?_ GE307.out) | exact HB.out))⟩)
  rintro gb307 w31 ⟨hS_, h0_, h1_, h2_, h3_, h4_, h5_, h6_, h7_, h8_, h9_⟩
  have n0_ : Aside0 (w31.heap[gb303]? = some (.cells #[.int .i64 a0_0, .int .i64 a0_1, .int .i64 a0_2] 30 (0, 0))) := ⟨h0_⟩
  have n1_ : Aside0 (w31.heap[gb304]? = some (.cells #[.int .i64 a1_0, .int .i64 a1_1] 26 (0, 0))) := ⟨h1_⟩
  have n2_ : Aside0 (w31.heap[gb307]? = some (.cells #[.int .i64 0, .int .i64 0] 26 (0, 0))) := ⟨h2_⟩
  have n3_ : Aside0 (w.heap.size ≤ gb307) := ⟨h3_⟩
  have n4_ : Aside0 (w.heap.size ≤ gb307) := ⟨h4_⟩
  have n5_ : Aside0 (gb303 ≠ gb307) := ⟨h5_⟩
  have n6_ : Aside0 (gb307 ≠ gb303) := ⟨h6_⟩
  have n7_ : Aside0 (gb304 ≠ gb307) := ⟨h7_⟩
  have n8_ : Aside0 (gb307 ≠ gb304) := ⟨h8_⟩
  have n9_ : Aside0 (Below w.heap.size w w31) := ⟨h9_⟩
  clear BK303
  clear BK304
  clear HB
  clear h0_ h1_ h2_ h3_ h4_ h5_ h6_ h7_ h8_ h9_
  have BK303 := n0_
  have BK304 := n1_
  have BK307 := n2_
  have GW307 := n3_
  have GE307 := n4_
  have NB303_307 := n5_
  have NB307_303 := n6_
  have NB304_307 := n7_
  have NB307_304 := n8_
  have HB := n9_
  clear n0_ n1_ n2_ n3_ n4_ n5_ n6_ n7_ n8_ n9_
  have hHeld : w31.cell? ⟨gb304, 0, none⟩ = some (.int .i64 a1_0) ∧ w31.cell? ⟨gb304, 1, none⟩ = some (.int .i64 a1_1) ∧ w31.cell? ⟨gb303, 0, none⟩ = some (.int .i64 a0_0) ∧ w31.cell? ⟨gb303, 1, none⟩ = some (.int .i64 a0_1) ∧ w31.cell? ⟨gb303, 2, none⟩ = some (.int .i64 a0_2) := hS_
  refine norm_ (a' := ?_) ?_ ?_
  rotate_left
  ·simp only [putAll, Act.put, List.setIfInBounds_toArray, List.set_cons_zero, List.set_cons_succ]
   rfl
  refine one_ (i := 7) (N := none) #[true, true, true, true, true, true, true, true, false] rfl rfl (one_of HT_.out (by kernel_rfl)) (by decide) (fun K hK => ?_)
  have hs32 : w31.cell? ⟨gb307, 0, none⟩ = some (.int .i64 0) := (kC BK307.out 0).trans rfl
  have hfs32 := kF BK307.out 0
  have hns32_0 := NB303_307.out
  have hns32_1 := NB304_307.out
  have hms32_0 := NB307_303.out
  have hms32_1 := NB307_304.out
  have hs33 : w31.cell? ⟨gb307, 1, none⟩ = some (.int .i64 0) := (kC BK307.out 1).trans rfl
  have hfs33 := kF BK307.out 1
  have hns33_0 := NB303_307.out
  have hns33_1 := NB304_307.out
  have hms33_0 := NB307_303.out
  have hms33_1 := NB307_304.out
  refine skip_ (w1 := ?_) (by rfl) rfl ?_ ?_
  rotate_left
  ·go_simp
   rfl
  refine hK.out _ _ ⟨((cell_far (p := ⟨gb307, _, none⟩) NB304_307.out _).trans (((cell_far (p := ⟨gb307, _, none⟩) NB304_307.out _).trans (hHeld.1)))), ((cell_far (p := ⟨gb307, _, none⟩) NB304_307.out _).trans (((cell_far (p := ⟨gb307, _, none⟩) NB304_307.out _).trans (hHeld.2.1)))), ((cell_far (p := ⟨gb307, _, none⟩) NB303_307.out _).trans (((cell_far (p := ⟨gb307, _, none⟩) NB303_307.out _).trans (hHeld.2.2.1)))), ((cell_far (p := ⟨gb307, _, none⟩) NB303_307.out _).trans (((cell_far (p := ⟨gb307, _, none⟩) NB303_307.out _).trans (hHeld.2.2.2.1)))), ((cell_far (p := ⟨gb307, _, none⟩) NB303_307.out _).trans (((cell_far (p := ⟨gb307, _, none⟩) NB303_307.out _).trans (hHeld.2.2.2.2))))⟩ (fun hHeld => ?_)
  clear hK K
  refine pure_ (i := 8) (N := some 7) (v := ?_) (a' := ?_) #[true, true, true, true, true, true, true, true, true] rfl rfl (any_of HT_.out (by kernel_rfl)) (fun _ _ _ h => h) (Or.inl ⟨by rfl, ?_⟩) ?_ ?_
  rotate_left
  ·intro w'
   go_simp
   with_reducible rfl
  rotate_left
  ·simp only [Act.put, List.setIfInBounds_toArray, List.set_cons_zero, List.set_cons_succ, i64_w, i32_w]
   rfl
  refine done_ (done_of HT_.out (by kernel_rfl)) ?_
  have hnb34 := NB307_303.out
  have hnc34 := NB303_307.out
  have hnb35 := NB307_304.out
  have hnc35 := NB304_307.out
  have hcz36_0 : w31.cell? ⟨gb307, 0, none⟩ = some (.int .i64 0) := (kC BK307.out 0).trans rfl
  have hcz36_1 : w31.cell? ⟨gb307, 1, none⟩ = some (.int .i64 0) := (kC BK307.out 1).trans rfl
  have hfz36_0 := kF BK307.out 0
  have hfz36_1 := kF BK307.out 1
  try go_wp2_with (first | ((with_reducible refine gate_callee (f := 105) rfl ?_); refine goesL_ (some 22) rfl rfl Try.func105 (by kernel_rfl) rfl #[.agg #[.int .i64 t305, .int .i64 t306], .int .i64 a0_2] rfl (by (try simp only [List.map_toArray, List.map_cons, List.map_nil]); first | done | rfl | (simp only [List.length_drop, List.length_take]; rfl)) ?_; (with_reducible refine (impl_roots.calls k t305 t306 a0_2 t318 t321 _ A24.out).mono ?_); rintro e w37 ⟨v319, rfl, ho0, hb⟩; refine ⟨_, rfl, ?_⟩; have n0_ := Am (Kd.R_lower (Kd.R_newB (Kd.R_newB ho0 (g := gb304) (o := .cells #[.int .i64 a1_0, .int .i64 a1_1] 26 (0, 0)) (by (with_reducible repeat (first | refine kN ?_ _ | refine kD ?_ | refine kA ?_ _)); refine kR ?_ NB304_307.out _; (with_reducible repeat (first | refine kN ?_ _ | refine kD ?_ | refine kA ?_ _)); refine kR ?_ NB304_307.out _; (with_reducible repeat (first | refine kN ?_ _ | refine kD ?_ | refine kA ?_ _)); exact BK304.out)) (g := gb307) (o := .cells #[.int .i64 t305, .int .i64 t306] 26 (0, 0)) (by (with_reducible repeat (first | refine kN ?_ _ | refine kD ?_ | refine kA ?_ _)); refine kP (cs := #[.int .i64 t305, .int .i64 0]) ?_ 1 _ rfl; (with_reducible repeat (first | refine kN ?_ _ | refine kD ?_ | refine kA ?_ _)); refine kP (cs := #[.int .i64 0, .int .i64 0]) ?_ 0 _ rfl; (with_reducible repeat (first | refine kN ?_ _ | refine kD ?_ | refine kA ?_ _)); exact BK307.out)) (bZ (by repeat (first | (with_reducible first | exact HB.out | apply bA | apply bN | apply bD | refine bS ?_ GE303.out | refine bS ?_ GE304.out | refine bS ?_ GE307.out) | exact HB.out)))); have n1_ := Am (kB (g := gb303) (o := .cells #[.int .i64 a0_0, .int .i64 a0_1, .int .i64 a0_2] 30 (0, 0)) (by (with_reducible repeat (first | refine kN ?_ _ | refine kD ?_ | refine kA ?_ _)); refine kR ?_ NB303_307.out _; (with_reducible repeat (first | refine kN ?_ _ | refine kD ?_ | refine kA ?_ _)); refine kR ?_ NB303_307.out _; (with_reducible repeat (first | refine kN ?_ _ | refine kD ?_ | refine kA ?_ _)); exact BK303.out) hb); have n2_ := Am (kB (g := gb304) (o := .cells #[.int .i64 a1_0, .int .i64 a1_1] 26 (0, 0)) (by (with_reducible repeat (first | refine kN ?_ _ | refine kD ?_ | refine kA ?_ _)); refine kR ?_ NB304_307.out _; (with_reducible repeat (first | refine kN ?_ _ | refine kD ?_ | refine kA ?_ _)); refine kR ?_ NB304_307.out _; (with_reducible repeat (first | refine kN ?_ _ | refine kD ?_ | refine kA ?_ _)); exact BK304.out) hb); have n3_ := Am (kB (g := gb307) (o := .cells #[.int .i64 t305, .int .i64 t306] 26 (0, 0)) (by (with_reducible repeat (first | refine kN ?_ _ | refine kD ?_ | refine kA ?_ _)); refine kP (cs := #[.int .i64 t305, .int .i64 0]) ?_ 1 _ rfl; (with_reducible repeat (first | refine kN ?_ _ | refine kD ?_ | refine kA ?_ _)); refine kP (cs := #[.int .i64 0, .int .i64 0]) ?_ 0 _ rfl; (with_reducible repeat (first | refine kN ?_ _ | refine kD ?_ | refine kA ?_ _)); exact BK307.out) hb); have n4_ := Am (bT (by repeat (first | (with_reducible first | exact HB.out | apply bA | apply bN | apply bD | refine bS ?_ GE303.out | refine bS ?_ GE304.out | refine bS ?_ GE307.out) | exact HB.out)) hb); clear BK303; clear BK304; clear BK307; clear HB; have HO320 := n0_; have BK303 := n1_; have BK304 := n2_; have BK307 := n3_; have HB := n4_; clear n0_ n1_ n2_ n3_ n4_; (try clear hb); (try clear hb2); (try clear hk); (try clear hi); (try clear ho0); obtain ⟨Ao38, co38, eo38⟩ := Kd.R_slice HO320.out; subst eo38) | ((with_reducible refine gate_callee (f := 85) rfl ?_); refine goesL_ (some 25) rfl rfl Try.func85 (by kernel_rfl) rfl #[.slice Ao38 t318.length co38, .bool t321] rfl (by (try simp only [List.map_toArray, List.map_cons, List.map_nil]); first | done | rfl | (simp only [List.length_drop, List.length_take]; rfl)) ?_; (with_reducible refine (impl_ifTurns.calls k (fun k_ => some k_ = (.slice Ao38 t318.length co38 : Value).ownBlock) (.slice Ao38 t318.length co38) t318 t321 t322 t325 w _ ?side1 ?side2 A25.out).mono ?_); (case side1 => repeat (first | (with_reducible first | exact HB.out | apply bA | apply bN | apply bD | refine bS ?_ GE303.out | refine bS ?_ GE304.out | refine bS ?_ GE307.out) | exact HB.out)); (case side2 => exact Kd.R_tight rfl HO320.out); rintro e w39 ⟨v323, rfl, ho0, hb, hkp⟩; refine ⟨_, rfl, ?_⟩; have n0_ := Am (blk_kept (by (with_reducible repeat (first | refine kN ?_ _ | refine kD ?_ | refine kA ?_ _)); exact BK303.out) hkp (fun hs_ => (fun e_ => (Kd.R_ne HO320.out BK303.out (by decide)) e_) hs_)); have n1_ := Am (blk_kept (by (with_reducible repeat (first | refine kN ?_ _ | refine kD ?_ | refine kA ?_ _)); exact BK304.out) hkp (fun hs_ => (fun e_ => (Kd.R_away HO320.out (fun _ hk => hk.1.2)) e_) hs_)); have n2_ := Am (blk_kept (by (with_reducible repeat (first | refine kN ?_ _ | refine kD ?_ | refine kA ?_ _)); exact BK307.out) hkp (fun hs_ => (fun e_ => (Kd.R_away HO320.out (fun _ hk => hk.2)) e_) hs_)); have n3_ := Am (Kd.R_mono (ok' := fun k_ => k_ ≠ gb304 ∧ k_ ≠ gb307) ho0 (fun k_ hk_ => ⟨Or.elim hk_ (fun hs_ => fun e_ => (Kd.R_away HO320.out (fun _ hk => hk.1.2)) (by rw [← e_]; exact hs_)) (fun hn_ => (Kd.freshB (g := gb304) (o := .cells #[.int .i64 a1_0, .int .i64 a1_1] 26 (0, 0)) (by (with_reducible repeat (first | refine kN ?_ _ | refine kD ?_ | refine kA ?_ _)); exact BK304.out) k_ hn_)), Or.elim hk_ (fun hs_ => fun e_ => (Kd.R_away HO320.out (fun _ hk => hk.2)) (by rw [← e_]; exact hs_)) (fun hn_ => (Kd.freshB (g := gb307) (o := .cells #[.int .i64 t305, .int .i64 t306] 26 (0, 0)) (by (with_reducible repeat (first | refine kN ?_ _ | refine kD ?_ | refine kA ?_ _)); exact BK307.out) k_ hn_))⟩)); have n4_ := Am (hb); clear BK303; clear BK304; clear BK307; clear HB; clear HO320; have BK303 := n0_; have BK304 := n1_; have BK307 := n2_; have HO324 := n3_; have HB := n4_; clear n0_ n1_ n2_ n3_ n4_; (try clear hb); (try clear hkp); (try clear ho0)))
  go_ret2
  exact ⟨_, by first | rfl | (simp [errW_none, errW_some] <;> rfl) | (simp [*, errW_none, errW_some] <;> rfl), by (with_reducible repeat (first | apply Kd.R_alloc | apply Kd.R_drewN | apply Kd.R_drew)); exact Kd.R_mono HO324.out (fun _ hk => trivial), by repeat (first | (with_reducible first | exact HB.out | apply bA | apply bN | apply bD | refine bS ?_ GE303.out | refine bS ?_ GE304.out | refine bS ?_ GE307.out) | exact HB.out)⟩

end Go.Proofs.Ytioggbokjfdoaaa.PFnExactMeetPlaces
