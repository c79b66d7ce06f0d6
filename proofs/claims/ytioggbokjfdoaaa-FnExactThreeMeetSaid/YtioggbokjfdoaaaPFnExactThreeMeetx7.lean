-- WRITTEN BY A PROGRAM OF THIS SESSION (wip/tools): its own text, not the kit's printed one.
import Derived.Test.YtioggbokjfdoaaaPFnExactThreeMeetx0
import Derived.Test.YtioggbokjfdoaaaPFnExactThreeMeetx5
import Derived.Test.YtioggbokjfdoaaaPFnExactThreeMeetx6
namespace Go.Proofs.Ytioggbokjfdoaaa.PFnExactThreeMeet
open Go.RowKit Go.Proofs.YtioggbokjfdoaaaW.PrintWords Go.Proofs.YtioggbokjfdoaaaW.PrintLast Go.Proofs.YtioggbokjfdoaaaW.PrintMore
attribute [local go_sem] max2_int min2_int max_two min_two max_three min_three max_four min_four   -- for this text's walks alone
set_option linter.unusedVariables false
set_option linter.unusedSimpArgs false

/-! ### impl_Hand_timesAt: function 78 -/
def impl_Hand_timesAt.f (k : Nat) (a0_0 : Int) (a0_1 : Int) (a0_2 : Int) (a1_0 : Int) (a1_1 : Int) : Option ((List (S26)) × Bool) := (impl_Turn_minus.f k a1_0 a1_1 a0_0 a0_1).bind fun bt248 => (if a0_2 < 0 then ((impl_Turn_mirror.f k bt248.1 bt248.2).bind fun bt251 => ((impl_roots.f k bt251.1 bt251.2 (wrap64 (-a0_2))).bind fun bt253 => ((impl_ifTurns.f k bt253.1 bt253.2).bind fun bt257 => (some (bt257.1, bt257.2))))) else ((impl_roots.f k bt248.1 bt248.2 a0_2).bind fun bt261 => ((impl_ifTurns.f k bt261.1 bt261.2).bind fun bt265 => (some (bt265.1, bt265.2)))))
theorem impl_Hand_timesAt.mono : ∀ a0 a1 a2 a3 a4 k, LeO (impl_Hand_timesAt.f k a0 a1 a2 a3 a4) (impl_Hand_timesAt.f (k + 1) a0 a1 a2 a3 a4) := by
 intro a0 a1 a2 a3 a4 k
 unfold impl_Hand_timesAt.f
 repeat' first
   | (with_reducible exact impl_Turn_minus.mono _ _ _ _ _)
   | (with_reducible exact impl_Turn_mirror.mono _ _ _)
   | (with_reducible exact impl_ifTurns.mono _ _ _)
   | (with_reducible exact impl_roots.mono _ _ _ _)
   | (with_reducible exact LeO.refl _)
   | (with_reducible exact LeO.none _)
   | (with_reducible refine LeO.ite ?_ ?_)
   | (with_reducible refine LeO.bind ?_ (fun _ => ?_))
   | exact impl_Turn_minus.mono _ _ _ _ _
   | exact impl_Turn_mirror.mono _ _ _
   | exact impl_ifTurns.mono _ _ _
   | exact impl_roots.mono _ _ _ _
   | exact LeO.none _
   | refine LeO.ite ?_ ?_
   | refine LeO.bind ?_ (fun _ => ?_)
def impl_Hand_timesAt.T1 : Bool × List (List Nat × List Nat) := (true, [([], []), ([], []), ([1], [1]), ([0, 2], [0, 2]), ([], []), ([4], [4]), ([], []), ([6, 3, 3, 0, 1, 2, 3, 6], [3, 6]), ([5, 7, 0, 1, 2, 3, 4, 5, 6, 7], [5])])
def impl_Hand_timesAt.B1 : List Nat := [0, 0, 2, 7, 0, 16, 0, 79, 255]
theorem impl_Hand_timesAt.tab1 : rtab .any (opsOf Try.f78 1) = impl_Hand_timesAt.T1 := by kernel_rfl
theorem impl_Hand_timesAt.bits1 : waitsOk impl_Hand_timesAt.T1.2 impl_Hand_timesAt.B1 = true := by kernel_rfl
set_option maxHeartbeats 8000000 in
set_option maxRecDepth 100000 in
theorem impl_Hand_timesAt.calls (k : Nat) (a0_0 : Int) (a0_1 : Int) (a0_2 : Int) (a1_0 : Int) (a1_1 : Int) (r1 : List (S26)) (r2 : Bool) (w : World) (h : impl_Hand_timesAt.f k a0_0 a0_1 a0_2 a1_0 a1_1 = some (r1, r2)) :
  Calls Try.prog 78 #[.agg #[.int .i64 a0_0, .int .i64 a0_1, .int .i64 a0_2], .agg #[.int .i64 a1_0, .int .i64 a1_1]] w fun e w' => ∃ v0_ : Value, e = .returned (.tuple #[v0_, .bool r2]) ∧ Kd.R k26 26 w' w.heap.size (fun _ => True) v0_ r1 ∧ Below w.heap.size w w' := by
 have hu30 := Try.underlying30
 have hu26 := Try.underlying26
 have HB := Am (Below.refl w.heap.size w)
 have H : ((impl_Turn_minus.f k a1_0 a1_1 a0_0 a0_1).bind fun bt248 => (if a0_2 < 0 then ((impl_Turn_mirror.f k bt248.1 bt248.2).bind fun bt251 => ((impl_roots.f k bt251.1 bt251.2 (wrap64 (-a0_2))).bind fun bt253 => ((impl_ifTurns.f k bt253.1 bt253.2).bind fun bt257 => (some (bt257.1, bt257.2))))) else ((impl_roots.f k bt248.1 bt248.2 a0_2).bind fun bt261 => ((impl_ifTurns.f k bt261.1 bt261.2).bind fun bt265 => (some (bt265.1, bt265.2)))))) = some (r1, r2) := h
 clear h
 replace H := Option.bind_eq_some_iff.mp H
 obtain ⟨⟨t248, t249⟩, A30, H⟩ := H
 replace H : (if a0_2 < 0 then ((impl_Turn_mirror.f k t248 t249).bind fun bt251 => ((impl_roots.f k bt251.1 bt251.2 (wrap64 (-a0_2))).bind fun bt253 => ((impl_ifTurns.f k bt253.1 bt253.2).bind fun bt257 => (some (bt257.1, bt257.2))))) else ((impl_roots.f k t248 t249 a0_2).bind fun bt261 => ((impl_ifTurns.f k bt261.1 bt261.2).bind fun bt265 => (some (bt265.1, bt265.2))))) = some (r1, r2) := H
 have A3 := Am A30
 clear A30
 by_cases c4 : a0_2 < 0
 ·rw [if_pos c4] at H
  have c4b0 : decide (a0_2 < 0) = true := decide_eq_true c4
  clear c4
  replace H := Option.bind_eq_some_iff.mp H
  obtain ⟨⟨t251, t252⟩, A50, H⟩ := H
  replace H : ((impl_roots.f k t251 t252 (wrap64 (-a0_2))).bind fun bt253 => ((impl_ifTurns.f k bt253.1 bt253.2).bind fun bt257 => (some (bt257.1, bt257.2)))) = some (r1, r2) := H
  have A5 := Am A50
  clear A50
  replace H := Option.bind_eq_some_iff.mp H
  obtain ⟨⟨t253, t256⟩, A60, H⟩ := H
  replace H : ((impl_ifTurns.f k t253 t256).bind fun bt257 => (some (bt257.1, bt257.2))) = some (r1, r2) := H
  have A6 := Am A60
  clear A60
  replace H := Option.bind_eq_some_iff.mp H
  obtain ⟨⟨t257, t260⟩, A70, H⟩ := H
  replace H : (some (t257, t260)) = some (r1, r2) := H
  have A7 := Am A70
  clear A70
  simp only [Option.some.injEq, Prod.mk.injEq] at H
  obtain ⟨rfl, rfl⟩ := H
  go_enter Try.func78, Try.ntmps78
  try go_wp2_with (first | ((with_reducible refine gate_dst (N := 2) rfl ?_); refine box_event ?hg (N := 2) ?hd (cs := #[.int .i64 a0_0, .int .i64 a0_1, .int .i64 a0_2]) (t := 30) ?hr ?_; (case hd => rfl); (case hg => rfl); (case hr => first | (go_simp; done) | (go_simp; rfl)); intro gb246 hg w8 hbox hb; have n0_ := Am (bT (by repeat (first | (with_reducible first | exact HB.out | apply bA | apply bN | apply bD) | exact HB.out)) hb); have n1_ := Am (hbox); have n2_ := Am ((by rw [hg]; exact (bZ (by repeat (first | (with_reducible first | exact HB.out | apply bA | apply bN | apply bD) | exact HB.out))) : w.heap.size ≤ gb246)); have n3_ := Am ((by rw [hg]; exact (bZ (by repeat (first | (with_reducible first | exact HB.out | apply bA | apply bN | apply bD) | exact HB.out))) : w.heap.size ≤ gb246)); clear HB; have HB := n0_; have BK246 := n1_; have GW246 := n2_; have GE246 := n3_; clear n0_ n1_ n2_ n3_; clear hb hbox hg) | ((with_reducible refine gate_dst (N := 3) rfl ?_); refine box_event ?hg (N := 3) ?hd (cs := #[.int .i64 a1_0, .int .i64 a1_1]) (t := 26) ?hr ?_; (case hd => rfl); (case hg => rfl); (case hr => first | (go_simp; done) | (go_simp; rfl)); intro gb247 hg w9 hbox hb; have n0_ := Am (kB (g := gb246) (o := .cells #[.int .i64 a0_0, .int .i64 a0_1, .int .i64 a0_2] 30 (0, 0)) (by (with_reducible repeat (first | refine kN ?_ _ | refine kD ?_ | refine kA ?_ _)); exact BK246.out) hb); have n1_ := Am (bT (by repeat (first | (with_reducible first | exact HB.out | apply bA | apply bN | apply bD | refine bS ?_ GE246.out) | exact HB.out)) hb); have n2_ := Am (hbox); have n3_ := Am ((by rw [hg]; exact (bZ (by repeat (first | (with_reducible first | exact HB.out | apply bA | apply bN | apply bD | refine bS ?_ GE246.out) | exact HB.out))) : w.heap.size ≤ gb247)); have n4_ := Am ((by rw [hg]; exact (bZ (by repeat (first | (with_reducible first | exact HB.out | apply bA | apply bN | apply bD | refine bS ?_ GE246.out) | exact HB.out))) : w.heap.size ≤ gb247)); have n5_ := Am ((by rw [hg]; exact Nat.ne_of_lt (kL (g := gb246) (o := .cells #[.int .i64 a0_0, .int .i64 a0_1, .int .i64 a0_2] 30 (0, 0)) (by (with_reducible repeat (first | refine kN ?_ _ | refine kD ?_ | refine kA ?_ _)); exact BK246.out)) : gb246 ≠ gb247)); have n6_ := Am ((by rw [hg]; exact Nat.ne_of_gt (kL (g := gb246) (o := .cells #[.int .i64 a0_0, .int .i64 a0_1, .int .i64 a0_2] 30 (0, 0)) (by (with_reducible repeat (first | refine kN ?_ _ | refine kD ?_ | refine kA ?_ _)); exact BK246.out)) : gb247 ≠ gb246)); clear BK246; clear HB; have BK246 := n0_; have HB := n1_; have BK247 := n2_; have GW247 := n3_; have GE247 := n4_; have NB246_247 := n5_; have NB247_246 := n6_; clear n0_ n1_ n2_ n3_ n4_ n5_ n6_; clear hb hbox hg))
  have n0_ := Am (kD BK246.out)
  have n1_ := Am (kD BK247.out)
  have n2_ := Am (bD HB.out)
  clear BK246
  clear BK247
  clear HB
  have BK246 := n0_
  have BK247 := n1_
  have HB := n2_
  clear n0_ n1_ n2_
  refine start_ (n := 9) (S := fun w' => w'.cell? ⟨gb247, 0, none⟩ = some (.int .i64 a1_0) ∧ w'.cell? ⟨gb247, 1, none⟩ = some (.int .i64 a1_1) ∧ w'.cell? ⟨gb246, 0, none⟩ = some (.int .i64 a0_0) ∧ w'.cell? ⟨gb246, 1, none⟩ = some (.int .i64 a0_1) ∧ w'.cell? ⟨gb246, 2, none⟩ = some (.int .i64 a0_2)) (ds := []) #[false, false, false, false, false, false, false, false, false] (by kernel_rfl) rfl rfl ⟨(kC BK247.out 0).trans rfl, (kC BK247.out 1).trans rfl, (kC BK246.out 0).trans rfl, (kC BK246.out 1).trans rfl, (kC BK246.out 2).trans rfl⟩ (fun hHeld => ?_); refine with_tabW impl_Hand_timesAt.tab1 impl_Hand_timesAt.bits1 (fun HT_ HW_ => ?_)
  generalize w9.drew = w10 at BK246 BK247 HB hHeld ⊢
  refine pure_ (i := 1) (N := some 9) (v := ?_) (a' := ?_) #[false, true, false, false, false, false, false, false, false] rfl rfl (any_of HT_.out (by kernel_rfl)) (fun _ _ _ h => h) (Or.inl ⟨by rfl, ?_⟩) ?_ ?_
  rotate_left
  ·intro w'
   go_simp
   with_reducible rfl
  rotate_left
  ·simp only [Act.put, List.setIfInBounds_toArray, List.set_cons_zero, List.set_cons_succ, i64_w, i32_w]
   rfl
  refine pure_ (i := 4) (N := some 12) (v := ?_) (a' := ?_) #[false, true, false, false, true, false, false, false, false] rfl rfl (any_of HT_.out (by kernel_rfl)) (fun _ _ _ h => h) (Or.inl ⟨by rfl, ?_⟩) ?_ ?_
  rotate_left
  ·intro w'
   go_simp
   with_reducible rfl
  rotate_left
  ·simp only [Act.put, List.setIfInBounds_toArray, List.set_cons_zero, List.set_cons_succ, i64_w, i32_w]
   rfl
  refine take_ (i := 0) (N := some 8) (v := ?_) (a' := ?_) #[true, true, false, false, true, false, false, false, false] rfl rfl (take_ofW HT_.out HW_.out (by kernel_rfl)) (fun _ _ _ h => h) (Or.inl ⟨by rfl, ?_⟩) hHeld ?_ ?_
  rotate_left
  ·rintro w' ⟨s0, s1, s2, s3, s4⟩
   go_simp
   with_reducible rfl
  rotate_left
  ·simp only [Act.put, List.setIfInBounds_toArray, List.set_cons_zero, List.set_cons_succ, i64_w, i32_w]
   rfl
  refine take_ (i := 2) (N := some 10) (v := ?_) (a' := ?_) #[true, true, true, false, true, false, false, false, false] rfl rfl (take_ofW HT_.out HW_.out (by kernel_rfl)) (fun _ _ _ h => h) (Or.inl ⟨by rfl, ?_⟩) hHeld ?_ ?_
  rotate_left
  ·rintro w' ⟨s0, s1, s2, s3, s4⟩
   go_simp
   with_reducible rfl
  rotate_left
  ·simp only [Act.put, List.setIfInBounds_toArray, List.set_cons_zero, List.set_cons_succ, i64_w, i32_w]
   rfl
  refine take_ (i := 5) (N := some 13) (v := ?_) (a' := ?_) #[true, true, true, false, true, true, false, false, false] rfl rfl (take_ofW HT_.out HW_.out (by kernel_rfl)) (fun _ _ _ h => h) (Or.inl ⟨by rfl, ?_⟩) hHeld ?_ ?_
  rotate_left
  ·rintro w' ⟨s0, s1, s2, s3, s4⟩
   go_simp
   with_reducible rfl
  rotate_left
  ·simp only [Act.put, List.setIfInBounds_toArray, List.set_cons_zero, List.set_cons_succ, i64_w, i32_w]
   rfl
  refine join_ (σ := Nat) 2 #[true, true, true, true, true, true, true, false, false] (fun s_ => [(11, .agg #[.int .i64 t248, .int .i64 t249]), (6, .pointer (some ⟨s_, 0, none⟩))]) (fun s_ w' => (w'.cell? ⟨gb247, 0, none⟩ = some (.int .i64 a1_0) ∧ w'.cell? ⟨gb247, 1, none⟩ = some (.int .i64 a1_1) ∧ w'.cell? ⟨gb246, 0, none⟩ = some (.int .i64 a0_0) ∧ w'.cell? ⟨gb246, 1, none⟩ = some (.int .i64 a0_1) ∧ w'.cell? ⟨gb246, 2, none⟩ = some (.int .i64 a0_2)) ∧ (w'.heap[gb246]? = some (.cells #[.int .i64 a0_0, .int .i64 a0_1, .int .i64 a0_2] 30 (0, 0))) ∧ (w'.heap[gb247]? = some (.cells #[.int .i64 a1_0, .int .i64 a1_1] 26 (0, 0))) ∧ (w'.heap[s_]? = some (.cells #[.int .i64 0, .int .i64 0] 26 (0, 0))) ∧ (w.heap.size ≤ s_) ∧ (w.heap.size ≤ s_) ∧ (gb246 ≠ s_) ∧ (s_ ≠ gb246) ∧ (gb247 ≠ s_) ∧ (s_ ≠ gb247) ∧ (Below w.heap.size w w')) ?_ ?_
  rotate_left
  ·intro hCont
   refine two_ (i := 3) (j := 6) (Ni := some 11) (Nj := some 6) #[true, true, true, true, true, true, false, false, false] #[true, true, true, false, true, true, true, false, false] rfl rfl rfl rfl (two_of HT_.out (by kernel_rfl)) (by decide) (by decide) (fun K hK => ?_) (fun K hK => ?_)
   ·skip
    refine goes_ Try.func84 (by kernel_rfl) rfl #[.agg #[.int .i64 a1_0, .int .i64 a1_1], .agg #[.int .i64 a0_0, .int .i64 a0_1]] (by rfl) rfl rfl (by (try simp only [List.map_toArray, List.map_cons, List.map_nil]); first | done | rfl | (simp only [List.length_drop, List.length_take]; rfl)) ?_
    with_reducible refine (impl_Turn_minus.calls k a1_0 a1_1 a0_0 a0_1 t248 t249 _ A3.out).mono ?_
    rintro e w11 ⟨rfl, hb⟩
    refine ⟨_, rfl, ?_⟩
    have n0_ := Am (kB (g := gb246) (o := .cells #[.int .i64 a0_0, .int .i64 a0_1, .int .i64 a0_2] 30 (0, 0)) (by (with_reducible repeat (first | refine kN ?_ _ | refine kD ?_ | refine kA ?_ _)); exact BK246.out) hb)
    have n1_ := Am (kB (g := gb247) (o := .cells #[.int .i64 a1_0, .int .i64 a1_1] 26 (0, 0)) (by (with_reducible repeat (first | refine kN ?_ _ | refine kD ?_ | refine kA ?_ _)); exact BK247.out) hb)
    have n2_ := Am (bT (by repeat (first | (with_reducible first | exact HB.out | apply bA | apply bN | apply bD | refine bS ?_ GE246.out | refine bS ?_ GE247.out) | exact HB.out)) hb)
    clear BK246
    clear BK247
    clear HB
    have BK246 := n0_
    have BK247 := n1_
    have HB := n2_
    clear n0_ n1_ n2_
    (try clear hb)
    (try clear hb2)
    (try clear hk)
    (try clear hi)
    refine hK.out _ _ ⟨(kC BK247.out 0).trans rfl, (kC BK247.out 1).trans rfl, (kC BK246.out 0).trans rfl, (kC BK246.out 1).trans rfl, (kC BK246.out 2).trans rfl⟩ (fun hHeld => ?_)
    clear hK K
    refine norm_ (a' := ?_) ?_ ?_
    rotate_left
    ·show Act.put _ (some 11) _ = _
     simp only [Act.put, List.setIfInBounds_toArray, List.set_cons_zero, List.set_cons_succ, i64_w, i32_w]
     rfl
    refine one_ (i := 6) (N := some 6) #[true, true, true, true, true, true, true, false, false] rfl rfl (one_of HT_.out (by kernel_rfl)) (by decide) (fun K hK => ?_)
    refine box_step ?hg (N := 6) ?hd (cs := #[.int .i64 0, .int .i64 0]) (t := 26) ?hr ?_; (case hd => rfl); (case hg => rfl); (case hr => first | (go_simp; done) | (go_simp; rfl))
    intro gb250 hg w12 hbox hb
    have n0_ := Am (kB (g := gb246) (o := .cells #[.int .i64 a0_0, .int .i64 a0_1, .int .i64 a0_2] 30 (0, 0)) (by (with_reducible repeat (first | refine kN ?_ _ | refine kD ?_ | refine kA ?_ _)); exact BK246.out) hb)
    have n1_ := Am (kB (g := gb247) (o := .cells #[.int .i64 a1_0, .int .i64 a1_1] 26 (0, 0)) (by (with_reducible repeat (first | refine kN ?_ _ | refine kD ?_ | refine kA ?_ _)); exact BK247.out) hb)
    have n2_ := Am (bT (by repeat (first | (with_reducible first | exact HB.out | apply bA | apply bN | apply bD | refine bS ?_ GE246.out | refine bS ?_ GE247.out) | exact HB.out)) hb)
    have n3_ := Am (hbox)
    have n4_ := Am ((by rw [hg]; exact (bZ (by repeat (first | (with_reducible first | exact HB.out | apply bA | apply bN | apply bD | refine bS ?_ GE246.out | refine bS ?_ GE247.out) | exact HB.out))) : w.heap.size ≤ gb250))
    have n5_ := Am ((by rw [hg]; exact (bZ (by repeat (first | (with_reducible first | exact HB.out | apply bA | apply bN | apply bD | refine bS ?_ GE246.out | refine bS ?_ GE247.out) | exact HB.out))) : w.heap.size ≤ gb250))
    have n6_ := Am ((by rw [hg]; exact Nat.ne_of_lt (kL (g := gb246) (o := .cells #[.int .i64 a0_0, .int .i64 a0_1, .int .i64 a0_2] 30 (0, 0)) (by (with_reducible repeat (first | refine kN ?_ _ | refine kD ?_ | refine kA ?_ _)); exact BK246.out)) : gb246 ≠ gb250))
    have n7_ := Am ((by rw [hg]; exact Nat.ne_of_gt (kL (g := gb246) (o := .cells #[.int .i64 a0_0, .int .i64 a0_1, .int .i64 a0_2] 30 (0, 0)) (by (with_reducible repeat (first | refine kN ?_ _ | refine kD ?_ | refine kA ?_ _)); exact BK246.out)) : gb250 ≠ gb246))
    have n8_ := Am ((by rw [hg]; exact Nat.ne_of_lt (kL (g := gb247) (o := .cells #[.int .i64 a1_0, .int .i64 a1_1] 26 (0, 0)) (by (with_reducible repeat (first | refine kN ?_ _ | refine kD ?_ | refine kA ?_ _)); exact BK247.out)) : gb247 ≠ gb250))
    have n9_ := Am ((by rw [hg]; exact Nat.ne_of_gt (kL (g := gb247) (o := .cells #[.int .i64 a1_0, .int .i64 a1_1] 26 (0, 0)) (by (with_reducible repeat (first | refine kN ?_ _ | refine kD ?_ | refine kA ?_ _)); exact BK247.out)) : gb250 ≠ gb247))
    clear BK246
    clear BK247
    clear HB
    have BK246 := n0_
    have BK247 := n1_
    have HB := n2_
    have BK250 := n3_
    have GW250 := n4_
    have GE250 := n5_
    have NB246_250 := n6_
    have NB250_246 := n7_
    have NB247_250 := n8_
    have NB250_247 := n9_
    clear n0_ n1_ n2_ n3_ n4_ n5_ n6_ n7_ n8_ n9_
    clear hb hbox hg
    refine hK.out _ _ ⟨(kC BK247.out 0).trans rfl, (kC BK247.out 1).trans rfl, (kC BK246.out 0).trans rfl, (kC BK246.out 1).trans rfl, (kC BK246.out 2).trans rfl⟩ (fun hHeld => ?_)
    clear hK K
    refine norm_ (a' := ?_) ?_ ?_
    rotate_left
    ·show Act.put _ (some 6) _ = _
     simp only [Act.put, List.setIfInBounds_toArray, List.set_cons_zero, List.set_cons_succ, i64_w, i32_w]
     rfl
    exact norm_ (by simp only [putAll, Act.put, List.setIfInBounds_toArray, List.set_cons_zero, List.set_cons_succ]) (hCont (gb250) _ ⟨hHeld, (by (with_reducible repeat (first | refine kN ?_ _ | refine kD ?_ | refine kA ?_ _)); exact BK246.out), (by (with_reducible repeat (first | refine kN ?_ _ | refine kD ?_ | refine kA ?_ _)); exact BK247.out), (by (with_reducible repeat (first | refine kN ?_ _ | refine kD ?_ | refine kA ?_ _)); exact BK250.out), GW250.out, GE250.out, NB246_250.out, NB250_246.out, NB247_250.out, NB250_247.out, (by repeat (first | (with_reducible first | exact HB.out | apply bA | apply bN | apply bD | refine bS ?_ GE246.out | refine bS ?_ GE247.out | refine bS ?_ GE250.out) | exact HB.out))⟩)
   ·skip
    refine box_step ?hg (N := 6) ?hd (cs := #[.int .i64 0, .int .i64 0]) (t := 26) ?hr ?_; (case hd => rfl); (case hg => rfl); (case hr => first | (go_simp; done) | (go_simp; rfl))
    intro gb250 hg w11 hbox hb
    have n0_ := Am (kB (g := gb246) (o := .cells #[.int .i64 a0_0, .int .i64 a0_1, .int .i64 a0_2] 30 (0, 0)) (by (with_reducible repeat (first | refine kN ?_ _ | refine kD ?_ | refine kA ?_ _)); exact BK246.out) hb)
    have n1_ := Am (kB (g := gb247) (o := .cells #[.int .i64 a1_0, .int .i64 a1_1] 26 (0, 0)) (by (with_reducible repeat (first | refine kN ?_ _ | refine kD ?_ | refine kA ?_ _)); exact BK247.out) hb)
    have n2_ := Am (bT (by repeat (first | (with_reducible first | exact HB.out | apply bA | apply bN | apply bD | refine bS ?_ GE246.out | refine bS ?_ GE247.out) | exact HB.out)) hb)
    have n3_ := Am (hbox)
    have n4_ := Am ((by rw [hg]; exact (bZ (by repeat (first | (with_reducible first | exact HB.out | apply bA | apply bN | apply bD | refine bS ?_ GE246.out | refine bS ?_ GE247.out) | exact HB.out))) : w.heap.size ≤ gb250))
    have n5_ := Am ((by rw [hg]; exact (bZ (by repeat (first | (with_reducible first | exact HB.out | apply bA | apply bN | apply bD | refine bS ?_ GE246.out | refine bS ?_ GE247.out) | exact HB.out))) : w.heap.size ≤ gb250))
    have n6_ := Am ((by rw [hg]; exact Nat.ne_of_lt (kL (g := gb246) (o := .cells #[.int .i64 a0_0, .int .i64 a0_1, .int .i64 a0_2] 30 (0, 0)) (by (with_reducible repeat (first | refine kN ?_ _ | refine kD ?_ | refine kA ?_ _)); exact BK246.out)) : gb246 ≠ gb250))
    have n7_ := Am ((by rw [hg]; exact Nat.ne_of_gt (kL (g := gb246) (o := .cells #[.int .i64 a0_0, .int .i64 a0_1, .int .i64 a0_2] 30 (0, 0)) (by (with_reducible repeat (first | refine kN ?_ _ | refine kD ?_ | refine kA ?_ _)); exact BK246.out)) : gb250 ≠ gb246))
    have n8_ := Am ((by rw [hg]; exact Nat.ne_of_lt (kL (g := gb247) (o := .cells #[.int .i64 a1_0, .int .i64 a1_1] 26 (0, 0)) (by (with_reducible repeat (first | refine kN ?_ _ | refine kD ?_ | refine kA ?_ _)); exact BK247.out)) : gb247 ≠ gb250))
    have n9_ := Am ((by rw [hg]; exact Nat.ne_of_gt (kL (g := gb247) (o := .cells #[.int .i64 a1_0, .int .i64 a1_1] 26 (0, 0)) (by (with_reducible repeat (first | refine kN ?_ _ | refine kD ?_ | refine kA ?_ _)); exact BK247.out)) : gb250 ≠ gb247))
    clear BK246
    clear BK247
    clear HB
    have BK246 := n0_
    have BK247 := n1_
    have HB := n2_
    have BK250 := n3_
    have GW250 := n4_
    have GE250 := n5_
    have NB246_250 := n6_
    have NB250_246 := n7_
    have NB247_250 := n8_
    have NB250_247 := n9_
    clear n0_ n1_ n2_ n3_ n4_ n5_ n6_ n7_ n8_ n9_
    clear hb hbox hg
    refine hK.out _ _ ⟨(kC BK247.out 0).trans rfl, (kC BK247.out 1).trans rfl, (kC BK246.out 0).trans rfl, (kC BK246.out 1).trans rfl, (kC BK246.out 2).trans rfl⟩ (fun hHeld => ?_)
    clear hK K
    refine norm_ (a' := ?_) ?_ ?_
    rotate_left
    ·show Act.put _ (some 6) _ = _
     simp only [Act.put, List.setIfInBounds_toArray, List.set_cons_zero, List.set_cons_succ, i64_w, i32_w]
     rfl
    refine one_ (i := 3) (N := some 11) #[true, true, true, true, true, true, true, false, false] rfl rfl (one_of HT_.out (by kernel_rfl)) (by decide) (fun K hK => ?_)
    refine goes_ Try.func84 (by kernel_rfl) rfl #[.agg #[.int .i64 a1_0, .int .i64 a1_1], .agg #[.int .i64 a0_0, .int .i64 a0_1]] (by rfl) rfl rfl (by (try simp only [List.map_toArray, List.map_cons, List.map_nil]); first | done | rfl | (simp only [List.length_drop, List.length_take]; rfl)) ?_
    with_reducible refine (impl_Turn_minus.calls k a1_0 a1_1 a0_0 a0_1 t248 t249 _ A3.out).mono ?_
    rintro e w12 ⟨rfl, hb⟩
    refine ⟨_, rfl, ?_⟩
    have n0_ := Am (kB (g := gb246) (o := .cells #[.int .i64 a0_0, .int .i64 a0_1, .int .i64 a0_2] 30 (0, 0)) (by (with_reducible repeat (first | refine kN ?_ _ | refine kD ?_ | refine kA ?_ _)); exact BK246.out) hb)
    have n1_ := Am (kB (g := gb247) (o := .cells #[.int .i64 a1_0, .int .i64 a1_1] 26 (0, 0)) (by (with_reducible repeat (first | refine kN ?_ _ | refine kD ?_ | refine kA ?_ _)); exact BK247.out) hb)
    have n2_ := Am (kB (g := gb250) (o := .cells #[.int .i64 0, .int .i64 0] 26 (0, 0)) (by (with_reducible repeat (first | refine kN ?_ _ | refine kD ?_ | refine kA ?_ _)); exact BK250.out) hb)
    have n3_ := Am (bT (by repeat (first | (with_reducible first | exact HB.out | apply bA | apply bN | apply bD | refine bS ?_ GE246.out | refine bS ?_ GE247.out | refine bS ?_ GE250.out) | exact HB.out)) hb)
    clear BK246
    clear BK247
    clear BK250
    clear HB
    have BK246 := n0_
    have BK247 := n1_
    have BK250 := n2_
    have HB := n3_
    clear n0_ n1_ n2_ n3_
    (try clear hb)
    (try clear hb2)
    (try clear hk)
    (try clear hi)
    refine hK.out _ _ ⟨(kC BK247.out 0).trans rfl, (kC BK247.out 1).trans rfl, (kC BK246.out 0).trans rfl, (kC BK246.out 1).trans rfl, (kC BK246.out 2).trans rfl⟩ (fun hHeld => ?_)
    clear hK K
    refine norm_ (a' := ?_) ?_ ?_
    rotate_left
    ·show Act.put _ (some 11) _ = _
     simp only [Act.put, List.setIfInBounds_toArray, List.set_cons_zero, List.set_cons_succ, i64_w, i32_w]
     rfl
    exact norm_ (by simp only [putAll, Act.put, List.setIfInBounds_toArray, List.set_cons_zero, List.set_cons_succ]) (hCont (gb250) _ ⟨hHeld, (by (with_reducible repeat (first | refine kN ?_ _ | refine kD ?_ | refine kA ?_ _)); exact BK246.out), (by (with_reducible repeat (first | refine kN ?_ _ | refine kD ?_ | refine kA ?_ _)); exact BK247.out), (by (with_reducible repeat (first | refine kN ?_ _ | refine kD ?_ | refine kA ?_ _)); exact BK250.out), GW250.out, GE250.out, NB246_250.out, NB250_246.out, NB247_250.out, NB250_247.out, (by repeat (first | (with_reducible first | exact HB.out | apply bA | apply bN | apply bD | refine bS ?_ GE246.out | refine bS ?_ GE247.out | refine bS ?_ GE250.out) | exact HB.out))⟩)
  rintro gb250 w13 ⟨hS_, h0_, h1_, h2_, h3_, h4_, h5_, h6_, h7_, h8_, h9_⟩
  have n0_ : Aside0 (w13.heap[gb246]? = some (.cells #[.int .i64 a0_0, .int .i64 a0_1, .int .i64 a0_2] 30 (0, 0))) := ⟨h0_⟩
  have n1_ : Aside0 (w13.heap[gb247]? = some (.cells #[.int .i64 a1_0, .int .i64 a1_1] 26 (0, 0))) := ⟨h1_⟩
  have n2_ : Aside0 (w13.heap[gb250]? = some (.cells #[.int .i64 0, .int .i64 0] 26 (0, 0))) := ⟨h2_⟩
  have n3_ : Aside0 (w.heap.size ≤ gb250) := ⟨h3_⟩
  have n4_ : Aside0 (w.heap.size ≤ gb250) := ⟨h4_⟩
  have n5_ : Aside0 (gb246 ≠ gb250) := ⟨h5_⟩
  have n6_ : Aside0 (gb250 ≠ gb246) := ⟨h6_⟩
  have n7_ : Aside0 (gb247 ≠ gb250) := ⟨h7_⟩
  have n8_ : Aside0 (gb250 ≠ gb247) := ⟨h8_⟩
  have n9_ : Aside0 (Below w.heap.size w w13) := ⟨h9_⟩
  clear BK246
  clear BK247
  clear HB
  clear h0_ h1_ h2_ h3_ h4_ h5_ h6_ h7_ h8_ h9_
  have BK246 := n0_
  have BK247 := n1_
  have BK250 := n2_
  have GW250 := n3_
  have GE250 := n4_
  have NB246_250 := n5_
  have NB250_246 := n6_
  have NB247_250 := n7_
  have NB250_247 := n8_
  have HB := n9_
  clear n0_ n1_ n2_ n3_ n4_ n5_ n6_ n7_ n8_ n9_
  have hHeld : w13.cell? ⟨gb247, 0, none⟩ = some (.int .i64 a1_0) ∧ w13.cell? ⟨gb247, 1, none⟩ = some (.int .i64 a1_1) ∧ w13.cell? ⟨gb246, 0, none⟩ = some (.int .i64 a0_0) ∧ w13.cell? ⟨gb246, 1, none⟩ = some (.int .i64 a0_1) ∧ w13.cell? ⟨gb246, 2, none⟩ = some (.int .i64 a0_2) := hS_
  refine norm_ (a' := ?_) ?_ ?_
  rotate_left
  ·simp only [putAll, Act.put, List.setIfInBounds_toArray, List.set_cons_zero, List.set_cons_succ]
   rfl
  refine one_ (i := 7) (N := none) #[true, true, true, true, true, true, true, true, false] rfl rfl (one_of HT_.out (by kernel_rfl)) (by decide) (fun K hK => ?_)
  have hs14 : w13.cell? ⟨gb250, 0, none⟩ = some (.int .i64 0) := (kC BK250.out 0).trans rfl
  have hfs14 := kF BK250.out 0
  have hns14_0 := NB246_250.out
  have hns14_1 := NB247_250.out
  have hms14_0 := NB250_246.out
  have hms14_1 := NB250_247.out
  have hs15 : w13.cell? ⟨gb250, 1, none⟩ = some (.int .i64 0) := (kC BK250.out 1).trans rfl
  have hfs15 := kF BK250.out 1
  have hns15_0 := NB246_250.out
  have hns15_1 := NB247_250.out
  have hms15_0 := NB250_246.out
  have hms15_1 := NB250_247.out
  refine skip_ (w1 := ?_) (by rfl) rfl ?_ ?_
  rotate_left
  ·go_simp
   rfl
  refine hK.out _ _ ⟨((cell_far (p := ⟨gb250, _, none⟩) NB247_250.out _).trans (((cell_far (p := ⟨gb250, _, none⟩) NB247_250.out _).trans (hHeld.1)))), ((cell_far (p := ⟨gb250, _, none⟩) NB247_250.out _).trans (((cell_far (p := ⟨gb250, _, none⟩) NB247_250.out _).trans (hHeld.2.1)))), ((cell_far (p := ⟨gb250, _, none⟩) NB246_250.out _).trans (((cell_far (p := ⟨gb250, _, none⟩) NB246_250.out _).trans (hHeld.2.2.1)))), ((cell_far (p := ⟨gb250, _, none⟩) NB246_250.out _).trans (((cell_far (p := ⟨gb250, _, none⟩) NB246_250.out _).trans (hHeld.2.2.2.1)))), ((cell_far (p := ⟨gb250, _, none⟩) NB246_250.out _).trans (((cell_far (p := ⟨gb250, _, none⟩) NB246_250.out _).trans (hHeld.2.2.2.2))))⟩ (fun hHeld => ?_)
  clear hK K
  refine pure_ (i := 8) (N := some 7) (v := ?_) (a' := ?_) #[true, true, true, true, true, true, true, true, true] rfl rfl (any_of HT_.out (by kernel_rfl)) (fun _ _ _ h => h) (Or.inl ⟨by rfl, ?_⟩) ?_ ?_
  rotate_left
  ·intro w'
   go_simp
   with_reducible rfl
  rotate_left
  ·simp only [Act.put, List.setIfInBounds_toArray, List.set_cons_zero, List.set_cons_succ, i64_w, i32_w]
   rfl
  refine done_ (done_of HT_.out (by kernel_rfl)) ?_
  have hnb16 := NB250_246.out
  have hnc16 := NB246_250.out
  have hnb17 := NB250_247.out
  have hnc17 := NB247_250.out
  have hcz18_0 : w13.cell? ⟨gb250, 0, none⟩ = some (.int .i64 0) := (kC BK250.out 0).trans rfl
  have hcz18_1 : w13.cell? ⟨gb250, 1, none⟩ = some (.int .i64 0) := (kC BK250.out 1).trans rfl
  have hfz18_0 := kF BK250.out 0
  have hfz18_1 := kF BK250.out 1
  try go_wp2_with (first | ((with_reducible refine gate_callee (f := 104) rfl ?_); refine goesL_ (some 17) rfl rfl Try.func104 (by kernel_rfl) rfl #[.agg #[.int .i64 t248, .int .i64 t249]] rfl (by (try simp only [List.map_toArray, List.map_cons, List.map_nil]); first | done | rfl | (simp only [List.length_drop, List.length_take]; rfl)) ?_; (with_reducible refine (impl_Turn_mirror.calls k t248 t249 t251 t252 _ A5.out).mono ?_); rintro e w19 ⟨rfl, hb⟩; refine ⟨_, rfl, ?_⟩; have n0_ := Am (kB (g := gb246) (o := .cells #[.int .i64 a0_0, .int .i64 a0_1, .int .i64 a0_2] 30 (0, 0)) (by (with_reducible repeat (first | refine kN ?_ _ | refine kD ?_ | refine kA ?_ _)); refine kR ?_ NB246_250.out _; (with_reducible repeat (first | refine kN ?_ _ | refine kD ?_ | refine kA ?_ _)); refine kR ?_ NB246_250.out _; (with_reducible repeat (first | refine kN ?_ _ | refine kD ?_ | refine kA ?_ _)); exact BK246.out) hb); have n1_ := Am (kB (g := gb247) (o := .cells #[.int .i64 a1_0, .int .i64 a1_1] 26 (0, 0)) (by (with_reducible repeat (first | refine kN ?_ _ | refine kD ?_ | refine kA ?_ _)); refine kR ?_ NB247_250.out _; (with_reducible repeat (first | refine kN ?_ _ | refine kD ?_ | refine kA ?_ _)); refine kR ?_ NB247_250.out _; (with_reducible repeat (first | refine kN ?_ _ | refine kD ?_ | refine kA ?_ _)); exact BK247.out) hb); have n2_ := Am (kB (g := gb250) (o := .cells #[.int .i64 t248, .int .i64 t249] 26 (0, 0)) (by (with_reducible repeat (first | refine kN ?_ _ | refine kD ?_ | refine kA ?_ _)); refine kP (cs := #[.int .i64 t248, .int .i64 0]) ?_ 1 _ rfl; (with_reducible repeat (first | refine kN ?_ _ | refine kD ?_ | refine kA ?_ _)); refine kP (cs := #[.int .i64 0, .int .i64 0]) ?_ 0 _ rfl; (with_reducible repeat (first | refine kN ?_ _ | refine kD ?_ | refine kA ?_ _)); exact BK250.out) hb); have n3_ := Am (bT (by repeat (first | (with_reducible first | exact HB.out | apply bA | apply bN | apply bD | refine bS ?_ GE246.out | refine bS ?_ GE247.out | refine bS ?_ GE250.out) | exact HB.out)) hb); clear BK246; clear BK247; clear BK250; clear HB; have BK246 := n0_; have BK247 := n1_; have BK250 := n2_; have HB := n3_; clear n0_ n1_ n2_ n3_; (try clear hb); (try clear hb2); (try clear hk); (try clear hi); have hcz20_0 : w19.cell? ⟨gb250, 0, none⟩ = some (.int .i64 t248) := (kC BK250.out 0).trans rfl; have hcz20_1 : w19.cell? ⟨gb250, 1, none⟩ = some (.int .i64 t249) := (kC BK250.out 1).trans rfl; have hfz20_0 := kF BK250.out 0; have hfz20_1 := kF BK250.out 1) | ((with_reducible refine gate_callee (f := 105) rfl ?_); refine goesL_ (some 22) rfl rfl Try.func105 (by kernel_rfl) rfl #[.agg #[.int .i64 t251, .int .i64 t252], .int .i64 (wrap64 (-a0_2))] rfl (by (try simp only [List.map_toArray, List.map_cons, List.map_nil]); first | done | rfl | (simp only [List.length_drop, List.length_take]; rfl)) ?_; (with_reducible refine (impl_roots.calls k t251 t252 (wrap64 (-a0_2)) t253 t256 _ A6.out).mono ?_); rintro e w21 ⟨v254, rfl, ho0, hb⟩; refine ⟨_, rfl, ?_⟩; have n0_ := Am (Kd.R_lower (Kd.R_newB (Kd.R_newB ho0 (g := gb247) (o := .cells #[.int .i64 a1_0, .int .i64 a1_1] 26 (0, 0)) (by (with_reducible repeat (first | refine kN ?_ _ | refine kD ?_ | refine kA ?_ _)); refine kR ?_ NB247_250.out _; (with_reducible repeat (first | refine kN ?_ _ | refine kD ?_ | refine kA ?_ _)); refine kR ?_ NB247_250.out _; (with_reducible repeat (first | refine kN ?_ _ | refine kD ?_ | refine kA ?_ _)); exact BK247.out)) (g := gb250) (o := .cells #[.int .i64 t251, .int .i64 t252] 26 (0, 0)) (by (with_reducible repeat (first | refine kN ?_ _ | refine kD ?_ | refine kA ?_ _)); refine kP (cs := #[.int .i64 t251, .int .i64 t249]) ?_ 1 _ rfl; (with_reducible repeat (first | refine kN ?_ _ | refine kD ?_ | refine kA ?_ _)); refine kP (cs := #[.int .i64 t248, .int .i64 t249]) ?_ 0 _ rfl; (with_reducible repeat (first | refine kN ?_ _ | refine kD ?_ | refine kA ?_ _)); exact BK250.out)) (bZ (by repeat (first | (with_reducible first | exact HB.out | apply bA | apply bN | apply bD | refine bS ?_ GE246.out | refine bS ?_ GE247.out | refine bS ?_ GE250.out) | exact HB.out)))); have n1_ := Am (kB (g := gb246) (o := .cells #[.int .i64 a0_0, .int .i64 a0_1, .int .i64 a0_2] 30 (0, 0)) (by (with_reducible repeat (first | refine kN ?_ _ | refine kD ?_ | refine kA ?_ _)); refine kR ?_ NB246_250.out _; (with_reducible repeat (first | refine kN ?_ _ | refine kD ?_ | refine kA ?_ _)); refine kR ?_ NB246_250.out _; (with_reducible repeat (first | refine kN ?_ _ | refine kD ?_ | refine kA ?_ _)); exact BK246.out) hb); have n2_ := Am (kB (g := gb247) (o := .cells #[.int .i64 a1_0, .int .i64 a1_1] 26 (0, 0)) (by (with_reducible repeat (first | refine kN ?_ _ | refine kD ?_ | refine kA ?_ _)); refine kR ?_ NB247_250.out _; (with_reducible repeat (first | refine kN ?_ _ | refine kD ?_ | refine kA ?_ _)); refine kR ?_ NB247_250.out _; (with_reducible repeat (first | refine kN ?_ _ | refine kD ?_ | refine kA ?_ _)); exact BK247.out) hb); have n3_ := Am (kB (g := gb250) (o := .cells #[.int .i64 t251, .int .i64 t252] 26 (0, 0)) (by (with_reducible repeat (first | refine kN ?_ _ | refine kD ?_ | refine kA ?_ _)); refine kP (cs := #[.int .i64 t251, .int .i64 t249]) ?_ 1 _ rfl; (with_reducible repeat (first | refine kN ?_ _ | refine kD ?_ | refine kA ?_ _)); refine kP (cs := #[.int .i64 t248, .int .i64 t249]) ?_ 0 _ rfl; (with_reducible repeat (first | refine kN ?_ _ | refine kD ?_ | refine kA ?_ _)); exact BK250.out) hb); have n4_ := Am (bT (by repeat (first | (with_reducible first | exact HB.out | apply bA | apply bN | apply bD | refine bS ?_ GE246.out | refine bS ?_ GE247.out | refine bS ?_ GE250.out) | exact HB.out)) hb); clear BK246; clear BK247; clear BK250; clear HB; have HO255 := n0_; have BK246 := n1_; have BK247 := n2_; have BK250 := n3_; have HB := n4_; clear n0_ n1_ n2_ n3_ n4_; (try clear hb); (try clear hb2); (try clear hk); (try clear hi); (try clear ho0); obtain ⟨Ao22, co22, eo22⟩ := Kd.R_slice HO255.out; subst eo22) | ((with_reducible refine gate_callee (f := 85) rfl ?_); refine goesL_ (some 25) rfl rfl Try.func85 (by kernel_rfl) rfl #[.slice Ao22 t253.length co22, .bool t256] rfl (by (try simp only [List.map_toArray, List.map_cons, List.map_nil]); first | done | rfl | (simp only [List.length_drop, List.length_take]; rfl)) ?_; (with_reducible refine (impl_ifTurns.calls k (fun k_ => some k_ = (.slice Ao22 t253.length co22 : Value).ownBlock) (.slice Ao22 t253.length co22) t253 t256 t257 t260 w _ ?side1 ?side2 A7.out).mono ?_); (case side1 => repeat (first | (with_reducible first | exact HB.out | apply bA | apply bN | apply bD | refine bS ?_ GE246.out | refine bS ?_ GE247.out | refine bS ?_ GE250.out) | exact HB.out)); (case side2 => exact Kd.R_tight rfl HO255.out); rintro e w23 ⟨v258, rfl, ho0, hb, hkp⟩; refine ⟨_, rfl, ?_⟩; have n0_ := Am (blk_kept (by (with_reducible repeat (first | refine kN ?_ _ | refine kD ?_ | refine kA ?_ _)); exact BK246.out) hkp (fun hs_ => (fun e_ => (Kd.R_ne HO255.out BK246.out (by decide)) e_) hs_)); have n1_ := Am (blk_kept (by (with_reducible repeat (first | refine kN ?_ _ | refine kD ?_ | refine kA ?_ _)); exact BK247.out) hkp (fun hs_ => (fun e_ => (Kd.R_away HO255.out (fun _ hk => hk.1.2)) e_) hs_)); have n2_ := Am (blk_kept (by (with_reducible repeat (first | refine kN ?_ _ | refine kD ?_ | refine kA ?_ _)); exact BK250.out) hkp (fun hs_ => (fun e_ => (Kd.R_away HO255.out (fun _ hk => hk.2)) e_) hs_)); have n3_ := Am (Kd.R_mono (ok' := fun k_ => k_ ≠ gb247 ∧ k_ ≠ gb250) ho0 (fun k_ hk_ => ⟨Or.elim hk_ (fun hs_ => fun e_ => (Kd.R_away HO255.out (fun _ hk => hk.1.2)) (by rw [← e_]; exact hs_)) (fun hn_ => (Kd.freshB (g := gb247) (o := .cells #[.int .i64 a1_0, .int .i64 a1_1] 26 (0, 0)) (by (with_reducible repeat (first | refine kN ?_ _ | refine kD ?_ | refine kA ?_ _)); exact BK247.out) k_ hn_)), Or.elim hk_ (fun hs_ => fun e_ => (Kd.R_away HO255.out (fun _ hk => hk.2)) (by rw [← e_]; exact hs_)) (fun hn_ => (Kd.freshB (g := gb250) (o := .cells #[.int .i64 t251, .int .i64 t252] 26 (0, 0)) (by (with_reducible repeat (first | refine kN ?_ _ | refine kD ?_ | refine kA ?_ _)); exact BK250.out) k_ hn_))⟩)); have n4_ := Am (hb); clear BK246; clear BK247; clear BK250; clear HB; clear HO255; have BK246 := n0_; have BK247 := n1_; have BK250 := n2_; have HO259 := n3_; have HB := n4_; clear n0_ n1_ n2_ n3_ n4_; (try clear hb); (try clear hkp); (try clear ho0)))
  go_ret2
  exact ⟨_, by first | rfl | (simp [errW_none, errW_some] <;> rfl) | (simp [*, errW_none, errW_some] <;> rfl), by (with_reducible repeat (first | apply Kd.R_alloc | apply Kd.R_drewN | apply Kd.R_drew)); exact Kd.R_mono HO259.out (fun _ hk => trivial), by repeat (first | (with_reducible first | exact HB.out | apply bA | apply bN | apply bD | refine bS ?_ GE246.out | refine bS ?_ GE247.out | refine bS ?_ GE250.out) | exact HB.out)⟩
 ·rw [if_neg c4] at H
  have c4b0 : decide (a0_2 < 0) = false := decide_eq_false c4
  clear c4
  replace H := Option.bind_eq_some_iff.mp H
  obtain ⟨⟨t261, t264⟩, A240, H⟩ := H
  replace H : ((impl_ifTurns.f k t261 t264).bind fun bt265 => (some (bt265.1, bt265.2))) = some (r1, r2) := H
  have A24 := Am A240
  clear A240
  replace H := Option.bind_eq_some_iff.mp H
  obtain ⟨⟨t265, t268⟩, A250, H⟩ := H
  replace H : (some (t265, t268)) = some (r1, r2) := H
  have A25 := Am A250
  clear A250
  simp only [Option.some.injEq, Prod.mk.injEq] at H
  obtain ⟨rfl, rfl⟩ := H
  go_enter Try.func78, Try.ntmps78
  try go_wp2_with (first | ((with_reducible refine gate_dst (N := 2) rfl ?_); refine box_event ?hg (N := 2) ?hd (cs := #[.int .i64 a0_0, .int .i64 a0_1, .int .i64 a0_2]) (t := 30) ?hr ?_; (case hd => rfl); (case hg => rfl); (case hr => first | (go_simp; done) | (go_simp; rfl)); intro gb246 hg w26 hbox hb; have n0_ := Am (bT (by repeat (first | (with_reducible first | exact HB.out | apply bA | apply bN | apply bD) | exact HB.out)) hb); have n1_ := Am (hbox); have n2_ := Am ((by rw [hg]; exact (bZ (by repeat (first | (with_reducible first | exact HB.out | apply bA | apply bN | apply bD) | exact HB.out))) : w.heap.size ≤ gb246)); have n3_ := Am ((by rw [hg]; exact (bZ (by repeat (first | (with_reducible first | exact HB.out | apply bA | apply bN | apply bD) | exact HB.out))) : w.heap.size ≤ gb246)); clear HB; have HB := n0_; have BK246 := n1_; have GW246 := n2_; have GE246 := n3_; clear n0_ n1_ n2_ n3_; clear hb hbox hg) | ((with_reducible refine gate_dst (N := 3) rfl ?_); refine box_event ?hg (N := 3) ?hd (cs := #[.int .i64 a1_0, .int .i64 a1_1]) (t := 26) ?hr ?_; (case hd => rfl); (case hg => rfl); (case hr => first | (go_simp; done) | (go_simp; rfl)); intro gb247 hg w27 hbox hb; have n0_ := Am (kB (g := gb246) (o := .cells #[.int .i64 a0_0, .int .i64 a0_1, .int .i64 a0_2] 30 (0, 0)) (by (with_reducible repeat (first | refine kN ?_ _ | refine kD ?_ | refine kA ?_ _)); exact BK246.out) hb); have n1_ := Am (bT (by repeat (first | (with_reducible first | exact HB.out | apply bA | apply bN | apply bD | refine bS ?_ GE246.out) | exact HB.out)) hb); have n2_ := Am (hbox); have n3_ := Am ((by rw [hg]; exact (bZ (by repeat (first | (with_reducible first | exact HB.out | apply bA | apply bN | apply bD | refine bS ?_ GE246.out) | exact HB.out))) : w.heap.size ≤ gb247)); have n4_ := Am ((by rw [hg]; exact (bZ (by repeat (first | (with_reducible first | exact HB.out | apply bA | apply bN | apply bD | refine bS ?_ GE246.out) | exact HB.out))) : w.heap.size ≤ gb247)); have n5_ := Am ((by rw [hg]; exact Nat.ne_of_lt (kL (g := gb246) (o := .cells #[.int .i64 a0_0, .int .i64 a0_1, .int .i64 a0_2] 30 (0, 0)) (by (with_reducible repeat (first | refine kN ?_ _ | refine kD ?_ | refine kA ?_ _)); exact BK246.out)) : gb246 ≠ gb247)); have n6_ := Am ((by rw [hg]; exact Nat.ne_of_gt (kL (g := gb246) (o := .cells #[.int .i64 a0_0, .int .i64 a0_1, .int .i64 a0_2] 30 (0, 0)) (by (with_reducible repeat (first | refine kN ?_ _ | refine kD ?_ | refine kA ?_ _)); exact BK246.out)) : gb247 ≠ gb246)); clear BK246; clear HB; have BK246 := n0_; have HB := n1_; have BK247 := n2_; have GW247 := n3_; have GE247 := n4_; have NB246_247 := n5_; have NB247_246 := n6_; clear n0_ n1_ n2_ n3_ n4_ n5_ n6_; clear hb hbox hg))
  have n0_ := Am (kD BK246.out)
  have n1_ := Am (kD BK247.out)
  have n2_ := Am (bD HB.out)
  clear BK246
  clear BK247
  clear HB
  have BK246 := n0_
  have BK247 := n1_
  have HB := n2_
  clear n0_ n1_ n2_
  refine start_ (n := 9) (S := fun w' => w'.cell? ⟨gb247, 0, none⟩ = some (.int .i64 a1_0) ∧ w'.cell? ⟨gb247, 1, none⟩ = some (.int .i64 a1_1) ∧ w'.cell? ⟨gb246, 0, none⟩ = some (.int .i64 a0_0) ∧ w'.cell? ⟨gb246, 1, none⟩ = some (.int .i64 a0_1) ∧ w'.cell? ⟨gb246, 2, none⟩ = some (.int .i64 a0_2)) (ds := []) #[false, false, false, false, false, false, false, false, false] (by kernel_rfl) rfl rfl ⟨(kC BK247.out 0).trans rfl, (kC BK247.out 1).trans rfl, (kC BK246.out 0).trans rfl, (kC BK246.out 1).trans rfl, (kC BK246.out 2).trans rfl⟩ (fun hHeld => ?_); refine with_tabW impl_Hand_timesAt.tab1 impl_Hand_timesAt.bits1 (fun HT_ HW_ => ?_)
  generalize w27.drew = w28 at BK246 BK247 HB hHeld ⊢
  refine pure_ (i := 1) (N := some 9) (v := ?_) (a' := ?_) #[false, true, false, false, false, false, false, false, false] rfl rfl (any_of HT_.out (by kernel_rfl)) (fun _ _ _ h => h) (Or.inl ⟨by rfl, ?_⟩) ?_ ?_
  rotate_left
  ·intro w'
   go_simp
   with_reducible rfl
  rotate_left
  ·simp only [Act.put, List.setIfInBounds_toArray, List.set_cons_zero, List.set_cons_succ, i64_w, i32_w]
   rfl
  refine pure_ (i := 4) (N := some 12) (v := ?_) (a' := ?_) #[false, true, false, false, true, false, false, false, false] rfl rfl (any_of HT_.out (by kernel_rfl)) (fun _ _ _ h => h) (Or.inl ⟨by rfl, ?_⟩) ?_ ?_
  rotate_left
  ·intro w'
   go_simp
   with_reducible rfl
  rotate_left
  ·simp only [Act.put, List.setIfInBounds_toArray, List.set_cons_zero, List.set_cons_succ, i64_w, i32_w]
   rfl
  refine take_ (i := 0) (N := some 8) (v := ?_) (a' := ?_) #[true, true, false, false, true, false, false, false, false] rfl rfl (take_ofW HT_.out HW_.out (by kernel_rfl)) (fun _ _ _ h => h) (Or.inl ⟨by rfl, ?_⟩) hHeld ?_ ?_
  rotate_left
  ·rintro w' ⟨s0, s1, s2, s3, s4⟩
   go_simp
   with_reducible rfl
  rotate_left
  ·simp only [Act.put, List.setIfInBounds_toArray, List.set_cons_zero, List.set_cons_succ, i64_w, i32_w]
   rfl
  refine take_ (i := 2) (N := some 10) (v := ?_) (a' := ?_) #[true, true, true, false, true, false, false, false, false] rfl rfl (take_ofW HT_.out HW_.out (by kernel_rfl)) (fun _ _ _ h => h) (Or.inl ⟨by rfl, ?_⟩) hHeld ?_ ?_
  rotate_left
  ·rintro w' ⟨s0, s1, s2, s3, s4⟩
   go_simp
   with_reducible rfl
  rotate_left
  ·simp only [Act.put, List.setIfInBounds_toArray, List.set_cons_zero, List.set_cons_succ, i64_w, i32_w]
   rfl
  refine take_ (i := 5) (N := some 13) (v := ?_) (a' := ?_) #[true, true, true, false, true, true, false, false, false] rfl rfl (take_ofW HT_.out HW_.out (by kernel_rfl)) (fun _ _ _ h => h) (Or.inl ⟨by rfl, ?_⟩) hHeld ?_ ?_
  rotate_left
  ·rintro w' ⟨s0, s1, s2, s3, s4⟩
   go_simp
   with_reducible rfl
  rotate_left
  ·simp only [Act.put, List.setIfInBounds_toArray, List.set_cons_zero, List.set_cons_succ, i64_w, i32_w]
   rfl
  refine join_ (σ := Nat) 2 #[true, true, true, true, true, true, true, false, false] (fun s_ => [(11, .agg #[.int .i64 t248, .int .i64 t249]), (6, .pointer (some ⟨s_, 0, none⟩))]) (fun s_ w' => (w'.cell? ⟨gb247, 0, none⟩ = some (.int .i64 a1_0) ∧ w'.cell? ⟨gb247, 1, none⟩ = some (.int .i64 a1_1) ∧ w'.cell? ⟨gb246, 0, none⟩ = some (.int .i64 a0_0) ∧ w'.cell? ⟨gb246, 1, none⟩ = some (.int .i64 a0_1) ∧ w'.cell? ⟨gb246, 2, none⟩ = some (.int .i64 a0_2)) ∧ (w'.heap[gb246]? = some (.cells #[.int .i64 a0_0, .int .i64 a0_1, .int .i64 a0_2] 30 (0, 0))) ∧ (w'.heap[gb247]? = some (.cells #[.int .i64 a1_0, .int .i64 a1_1] 26 (0, 0))) ∧ (w'.heap[s_]? = some (.cells #[.int .i64 0, .int .i64 0] 26 (0, 0))) ∧ (w.heap.size ≤ s_) ∧ (w.heap.size ≤ s_) ∧ (gb246 ≠ s_) ∧ (s_ ≠ gb246) ∧ (gb247 ≠ s_) ∧ (s_ ≠ gb247) ∧ (Below w.heap.size w w')) ?_ ?_
  rotate_left
  ·intro hCont
   refine two_ (i := 3) (j := 6) (Ni := some 11) (Nj := some 6) #[true, true, true, true, true, true, false, false, false] #[true, true, true, false, true, true, true, false, false] rfl rfl rfl rfl (two_of HT_.out (by kernel_rfl)) (by decide) (by decide) (fun K hK => ?_) (fun K hK => ?_)
   ·skip
    refine goes_ Try.func84 (by kernel_rfl) rfl #[.agg #[.int .i64 a1_0, .int .i64 a1_1], .agg #[.int .i64 a0_0, .int .i64 a0_1]] (by rfl) rfl rfl (by (try simp only [List.map_toArray, List.map_cons, List.map_nil]); first | done | rfl | (simp only [List.length_drop, List.length_take]; rfl)) ?_
    with_reducible refine (impl_Turn_minus.calls k a1_0 a1_1 a0_0 a0_1 t248 t249 _ A3.out).mono ?_
    rintro e w29 ⟨rfl, hb⟩
    refine ⟨_, rfl, ?_⟩
    have n0_ := Am (kB (g := gb246) (o := .cells #[.int .i64 a0_0, .int .i64 a0_1, .int .i64 a0_2] 30 (0, 0)) (by (with_reducible repeat (first | refine kN ?_ _ | refine kD ?_ | refine kA ?_ _)); exact BK246.out) hb)
    have n1_ := Am (kB (g := gb247) (o := .cells #[.int .i64 a1_0, .int .i64 a1_1] 26 (0, 0)) (by (with_reducible repeat (first | refine kN ?_ _ | refine kD ?_ | refine kA ?_ _)); exact BK247.out) hb)
    have n2_ := Am (bT (by repeat (first | (with_reducible first | exact HB.out | apply bA | apply bN | apply bD | refine bS ?_ GE246.out | refine bS ?_ GE247.out) | exact HB.out)) hb)
    clear BK246
    clear BK247
    clear HB
    have BK246 := n0_
    have BK247 := n1_
    have HB := n2_
    clear n0_ n1_ n2_
    (try clear hb)
    (try clear hb2)
    (try clear hk)
    (try clear hi)
    refine hK.out _ _ ⟨(kC BK247.out 0).trans rfl, (kC BK247.out 1).trans rfl, (kC BK246.out 0).trans rfl, (kC BK246.out 1).trans rfl, (kC BK246.out 2).trans rfl⟩ (fun hHeld => ?_)
    clear hK K
    refine norm_ (a' := ?_) ?_ ?_
    rotate_left
    ·show Act.put _ (some 11) _ = _
     simp only [Act.put, List.setIfInBounds_toArray, List.set_cons_zero, List.set_cons_succ, i64_w, i32_w]
     rfl
    refine one_ (i := 6) (N := some 6) #[true, true, true, true, true, true, true, false, false] rfl rfl (one_of HT_.out (by kernel_rfl)) (by decide) (fun K hK => ?_)
    refine box_step ?hg (N := 6) ?hd (cs := #[.int .i64 0, .int .i64 0]) (t := 26) ?hr ?_; (case hd => rfl); (case hg => rfl); (case hr => first | (go_simp; done) | (go_simp; rfl))
    intro gb250 hg w30 hbox hb
    have n0_ := Am (kB (g := gb246) (o := .cells #[.int .i64 a0_0, .int .i64 a0_1, .int .i64 a0_2] 30 (0, 0)) (by (with_reducible repeat (first | refine kN ?_ _ | refine kD ?_ | refine kA ?_ _)); exact BK246.out) hb)
    have n1_ := Am (kB (g := gb247) (o := .cells #[.int .i64 a1_0, .int .i64 a1_1] 26 (0, 0)) (by (with_reducible repeat (first | refine kN ?_ _ | refine kD ?_ | refine kA ?_ _)); exact BK247.out) hb)
    have n2_ := Am (bT (by repeat (first | (with_reducible first | exact HB.out | apply bA | apply bN | apply bD | refine bS ?_ GE246.out | refine bS ?_ GE247.out) | exact HB.out)) hb)
    have n3_ := Am (hbox)
    have n4_ := Am ((by rw [hg]; exact (bZ (by repeat (first | (with_reducible first | exact HB.out | apply bA | apply bN | apply bD | refine bS ?_ GE246.out | refine bS ?_ GE247.out) | exact HB.out))) : w.heap.size ≤ gb250))
    have n5_ := Am ((by rw [hg]; exact (bZ (by repeat (first | (with_reducible first | exact HB.out | apply bA | apply bN | apply bD | refine bS ?_ GE246.out | refine bS ?_ GE247.out) | exact HB.out))) : w.heap.size ≤ gb250))
    have n6_ := Am ((by rw [hg]; exact Nat.ne_of_lt (kL (g := gb246) (o := .cells #[.int .i64 a0_0, .int .i64 a0_1, .int .i64 a0_2] 30 (0, 0)) (by (with_reducible repeat (first | refine kN ?_ _ | refine kD ?_ | refine kA ?_ _)); exact BK246.out)) : gb246 ≠ gb250))
    have n7_ := Am ((by rw [hg]; exact Nat.ne_of_gt (kL (g := gb246) (o := .cells #[.int .i64 a0_0, .int .i64 a0_1, .int .i64 a0_2] 30 (0, 0)) (by (with_reducible repeat (first | refine kN ?_ _ | refine kD ?_ | refine kA ?_ _)); exact BK246.out)) : gb250 ≠ gb246))
    have n8_ := Am ((by rw [hg]; exact Nat.ne_of_lt (kL (g := gb247) (o := .cells #[.int .i64 a1_0, .int .i64 a1_1] 26 (0, 0)) (by (with_reducible repeat (first | refine kN ?_ _ | refine kD ?_ | refine kA ?_ _)); exact BK247.out)) : gb247 ≠ gb250))
    have n9_ := Am ((by rw [hg]; exact Nat.ne_of_gt (kL (g := gb247) (o := .cells #[.int .i64 a1_0, .int .i64 a1_1] 26 (0, 0)) (by (with_reducible repeat (first | refine kN ?_ _ | refine kD ?_ | refine kA ?_ _)); exact BK247.out)) : gb250 ≠ gb247))
    clear BK246
    clear BK247
    clear HB
    have BK246 := n0_
    have BK247 := n1_
    have HB := n2_
    have BK250 := n3_
    have GW250 := n4_
    have GE250 := n5_
    have NB246_250 := n6_
    have NB250_246 := n7_
    have NB247_250 := n8_
    have NB250_247 := n9_
    clear n0_ n1_ n2_ n3_ n4_ n5_ n6_ n7_ n8_ n9_
    clear hb hbox hg
    refine hK.out _ _ ⟨(kC BK247.out 0).trans rfl, (kC BK247.out 1).trans rfl, (kC BK246.out 0).trans rfl, (kC BK246.out 1).trans rfl, (kC BK246.out 2).trans rfl⟩ (fun hHeld => ?_)
    clear hK K
    refine norm_ (a' := ?_) ?_ ?_
    rotate_left
    ·show Act.put _ (some 6) _ = _
     simp only [Act.put, List.setIfInBounds_toArray, List.set_cons_zero, List.set_cons_succ, i64_w, i32_w]
     rfl
    exact norm_ (by simp only [putAll, Act.put, List.setIfInBounds_toArray, List.set_cons_zero, List.set_cons_succ]) (hCont (gb250) _ ⟨hHeld, (by (with_reducible repeat (first | refine kN ?_ _ | refine kD ?_ | refine kA ?_ _)); exact BK246.out), (by (with_reducible repeat (first | refine kN ?_ _ | refine kD ?_ | refine kA ?_ _)); exact BK247.out), (by (with_reducible repeat (first | refine kN ?_ _ | refine kD ?_ | refine kA ?_ _)); exact BK250.out), GW250.out, GE250.out, NB246_250.out, NB250_246.out, NB247_250.out, NB250_247.out, (by repeat (first | (with_reducible first | exact HB.out | apply bA | apply bN | apply bD | refine bS ?_ GE246.out | refine bS ?_ GE247.out | refine bS ?_ GE250.out) | exact HB.out))⟩)
   ·skip
    refine box_step ?hg (N := 6) ?hd (cs := #[.int .i64 0, .int .i64 0]) (t := 26) ?hr ?_; (case hd => rfl); (case hg => rfl); (case hr => first | (go_simp; done) | (go_simp; rfl))
    intro gb250 hg w29 hbox hb
    have n0_ := Am (kB (g := gb246) (o := .cells #[.int .i64 a0_0, .int .i64 a0_1, .int .i64 a0_2] 30 (0, 0)) (by (with_reducible repeat (first | refine kN ?_ _ | refine kD ?_ | refine kA ?_ _)); exact BK246.out) hb)
    have n1_ := Am (kB (g := gb247) (o := .cells #[.int .i64 a1_0, .int .i64 a1_1] 26 (0, 0)) (by (with_reducible repeat (first | refine kN ?_ _ | refine kD ?_ | refine kA ?_ _)); exact BK247.out) hb)
    have n2_ := Am (bT (by repeat (first | (with_reducible first | exact HB.out | apply bA | apply bN | apply bD | refine bS ?_ GE246.out | refine bS ?_ GE247.out) | exact HB.out)) hb)
    have n3_ := Am (hbox)
    have n4_ := Am ((by rw [hg]; exact (bZ (by repeat (first | (with_reducible first | exact HB.out | apply bA | apply bN | apply bD | refine bS ?_ GE246.out | refine bS ?_ GE247.out) | exact HB.out))) : w.heap.size ≤ gb250))
    have n5_ := Am ((by rw [hg]; exact (bZ (by repeat (first | (with_reducible first | exact HB.out | apply bA | apply bN | apply bD | refine bS ?_ GE246.out | refine bS ?_ GE247.out) | exact HB.out))) : w.heap.size ≤ gb250))
    have n6_ := Am ((by rw [hg]; exact Nat.ne_of_lt (kL (g := gb246) (o := .cells #[.int .i64 a0_0, .int .i64 a0_1, .int .i64 a0_2] 30 (0, 0)) (by (with_reducible repeat (first | refine kN ?_ _ | refine kD ?_ | refine kA ?_ _)); exact BK246.out)) : gb246 ≠ gb250))
    have n7_ := Am ((by rw [hg]; exact Nat.ne_of_gt (kL (g := gb246) (o := .cells #[.int .i64 a0_0, .int .i64 a0_1, .int .i64 a0_2] 30 (0, 0)) (by (with_reducible repeat (first | refine kN ?_ _ | refine kD ?_ | refine kA ?_ _)); exact BK246.out)) : gb250 ≠ gb246))
    have n8_ := Am ((by rw [hg]; exact Nat.ne_of_lt (kL (g := gb247) (o := .cells #[.int .i64 a1_0, .int .i64 a1_1] 26 (0, 0)) (by (with_reducible repeat (first | refine kN ?_ _ | refine kD ?_ | refine kA ?_ _)); exact BK247.out)) : gb247 ≠ gb250))
    have n9_ := Am ((by rw [hg]; exact Nat.ne_of_gt (kL (g := gb247) (o := .cells #[.int .i64 a1_0, .int .i64 a1_1] 26 (0, 0)) (by (with_reducible repeat (first | refine kN ?_ _ | refine kD ?_ | refine kA ?_ _)); exact BK247.out)) : gb250 ≠ gb247))
    clear BK246
    clear BK247
    clear HB
    have BK246 := n0_
    have BK247 := n1_
    have HB := n2_
    have BK250 := n3_
    have GW250 := n4_
    have GE250 := n5_
    have NB246_250 := n6_
    have NB250_246 := n7_
    have NB247_250 := n8_
    have NB250_247 := n9_
    clear n0_ n1_ n2_ n3_ n4_ n5_ n6_ n7_ n8_ n9_
    clear hb hbox hg
    refine hK.out _ _ ⟨(kC BK247.out 0).trans rfl, (kC BK247.out 1).trans rfl, (kC BK246.out 0).trans rfl, (kC BK246.out 1).trans rfl, (kC BK246.out 2).trans rfl⟩ (fun hHeld => ?_)
    clear hK K
    refine norm_ (a' := ?_) ?_ ?_
    rotate_left
    ·show Act.put _ (some 6) _ = _
     simp only [Act.put, List.setIfInBounds_toArray, List.set_cons_zero, List.set_cons_succ, i64_w, i32_w]
     rfl
    refine one_ (i := 3) (N := some 11) #[true, true, true, true, true, true, true, false, false] rfl rfl (one_of HT_.out (by kernel_rfl)) (by decide) (fun K hK => ?_)
    refine goes_ Try.func84 (by kernel_rfl) rfl #[.agg #[.int .i64 a1_0, .int .i64 a1_1], .agg #[.int .i64 a0_0, .int .i64 a0_1]] (by rfl) rfl rfl (by (try simp only [List.map_toArray, List.map_cons, List.map_nil]); first | done | rfl | (simp only [List.length_drop, List.length_take]; rfl)) ?_
    with_reducible refine (impl_Turn_minus.calls k a1_0 a1_1 a0_0 a0_1 t248 t249 _ A3.out).mono ?_
    rintro e w30 ⟨rfl, hb⟩
    refine ⟨_, rfl, ?_⟩
    have n0_ := Am (kB (g := gb246) (o := .cells #[.int .i64 a0_0, .int .i64 a0_1, .int .i64 a0_2] 30 (0, 0)) (by (with_reducible repeat (first | refine kN ?_ _ | refine kD ?_ | refine kA ?_ _)); exact BK246.out) hb)
    have n1_ := Am (kB (g := gb247) (o := .cells #[.int .i64 a1_0, .int .i64 a1_1] 26 (0, 0)) (by (with_reducible repeat (first | refine kN ?_ _ | refine kD ?_ | refine kA ?_ _)); exact BK247.out) hb)
    have n2_ := Am (kB (g := gb250) (o := .cells #[.int .i64 0, .int .i64 0] 26 (0, 0)) (by (with_reducible repeat (first | refine kN ?_ _ | refine kD ?_ | refine kA ?_ _)); exact BK250.out) hb)
    have n3_ := Am (bT (by repeat (first | (with_reducible first | exact HB.out | apply bA | apply bN | apply bD | refine bS ?_ GE246.out | refine bS ?_ GE247.out | refine bS ?_ GE250.out) | exact HB.out)) hb)
    clear BK246
    clear BK247
    clear BK250
    clear HB
    have BK246 := n0_
    have BK247 := n1_
    have BK250 := n2_
    have HB := n3_
    clear n0_ n1_ n2_ n3_
    (try clear hb)
    (try clear hb2)
    (try clear hk)
    (try clear hi)
    refine hK.out _ _ ⟨(kC BK247.out 0).trans rfl, (kC BK247.out 1).trans rfl, (kC BK246.out 0).trans rfl, (kC BK246.out 1).trans rfl, (kC BK246.out 2).trans rfl⟩ (fun hHeld => ?_)
    clear hK K
    refine norm_ (a' := ?_) ?_ ?_
    rotate_left
    ·show Act.put _ (some 11) _ = _
     simp only [Act.put, List.setIfInBounds_toArray, List.set_cons_zero, List.set_cons_succ, i64_w, i32_w]
     rfl
    exact norm_ (by simp only [putAll, Act.put, List.setIfInBounds_toArray, List.set_cons_zero, List.set_cons_succ]) (hCont (gb250) _ ⟨hHeld, (by (with_reducible repeat (first | refine kN ?_ _ | refine kD ?_ | refine kA ?_ _)); exact BK246.out), (by (with_reducible repeat (first | refine kN ?_ _ | refine kD ?_ | refine kA ?_ _)); exact BK247.out), (by (with_reducible repeat (first | refine kN ?_ _ | refine kD ?_ | refine kA ?_ _)); exact BK250.out), GW250.out, GE250.out, NB246_250.out, NB250_246.out, NB247_250.out, NB250_247.out, (by repeat (first | (with_reducible first | exact HB.out | apply bA | apply bN | apply bD | refine bS ?_ GE246.out | refine bS ?_ GE247.out | refine bS ?_ GE250.out) | exact HB.out))⟩)
  rintro gb250 w31 ⟨hS_, h0_, h1_, h2_, h3_, h4_, h5_, h6_, h7_, h8_, h9_⟩
  have n0_ : Aside0 (w31.heap[gb246]? = some (.cells #[.int .i64 a0_0, .int .i64 a0_1, .int .i64 a0_2] 30 (0, 0))) := ⟨h0_⟩
  have n1_ : Aside0 (w31.heap[gb247]? = some (.cells #[.int .i64 a1_0, .int .i64 a1_1] 26 (0, 0))) := ⟨h1_⟩
  have n2_ : Aside0 (w31.heap[gb250]? = some (.cells #[.int .i64 0, .int .i64 0] 26 (0, 0))) := ⟨h2_⟩
  have n3_ : Aside0 (w.heap.size ≤ gb250) := ⟨h3_⟩
  have n4_ : Aside0 (w.heap.size ≤ gb250) := ⟨h4_⟩
  have n5_ : Aside0 (gb246 ≠ gb250) := ⟨h5_⟩
  have n6_ : Aside0 (gb250 ≠ gb246) := ⟨h6_⟩
  have n7_ : Aside0 (gb247 ≠ gb250) := ⟨h7_⟩
  have n8_ : Aside0 (gb250 ≠ gb247) := ⟨h8_⟩
  have n9_ : Aside0 (Below w.heap.size w w31) := ⟨h9_⟩
  clear BK246
  clear BK247
  clear HB
  clear h0_ h1_ h2_ h3_ h4_ h5_ h6_ h7_ h8_ h9_
  have BK246 := n0_
  have BK247 := n1_
  have BK250 := n2_
  have GW250 := n3_
  have GE250 := n4_
  have NB246_250 := n5_
  have NB250_246 := n6_
  have NB247_250 := n7_
  have NB250_247 := n8_
  have HB := n9_
  clear n0_ n1_ n2_ n3_ n4_ n5_ n6_ n7_ n8_ n9_
  have hHeld : w31.cell? ⟨gb247, 0, none⟩ = some (.int .i64 a1_0) ∧ w31.cell? ⟨gb247, 1, none⟩ = some (.int .i64 a1_1) ∧ w31.cell? ⟨gb246, 0, none⟩ = some (.int .i64 a0_0) ∧ w31.cell? ⟨gb246, 1, none⟩ = some (.int .i64 a0_1) ∧ w31.cell? ⟨gb246, 2, none⟩ = some (.int .i64 a0_2) := hS_
  refine norm_ (a' := ?_) ?_ ?_
  rotate_left
  ·simp only [putAll, Act.put, List.setIfInBounds_toArray, List.set_cons_zero, List.set_cons_succ]
   rfl
  refine one_ (i := 7) (N := none) #[true, true, true, true, true, true, true, true, false] rfl rfl (one_of HT_.out (by kernel_rfl)) (by decide) (fun K hK => ?_)
  have hs32 : w31.cell? ⟨gb250, 0, none⟩ = some (.int .i64 0) := (kC BK250.out 0).trans rfl
  have hfs32 := kF BK250.out 0
  have hns32_0 := NB246_250.out
  have hns32_1 := NB247_250.out
  have hms32_0 := NB250_246.out
  have hms32_1 := NB250_247.out
  have hs33 : w31.cell? ⟨gb250, 1, none⟩ = some (.int .i64 0) := (kC BK250.out 1).trans rfl
  have hfs33 := kF BK250.out 1
  have hns33_0 := NB246_250.out
  have hns33_1 := NB247_250.out
  have hms33_0 := NB250_246.out
  have hms33_1 := NB250_247.out
  refine skip_ (w1 := ?_) (by rfl) rfl ?_ ?_
  rotate_left
  ·go_simp
   rfl
  refine hK.out _ _ ⟨((cell_far (p := ⟨gb250, _, none⟩) NB247_250.out _).trans (((cell_far (p := ⟨gb250, _, none⟩) NB247_250.out _).trans (hHeld.1)))), ((cell_far (p := ⟨gb250, _, none⟩) NB247_250.out _).trans (((cell_far (p := ⟨gb250, _, none⟩) NB247_250.out _).trans (hHeld.2.1)))), ((cell_far (p := ⟨gb250, _, none⟩) NB246_250.out _).trans (((cell_far (p := ⟨gb250, _, none⟩) NB246_250.out _).trans (hHeld.2.2.1)))), ((cell_far (p := ⟨gb250, _, none⟩) NB246_250.out _).trans (((cell_far (p := ⟨gb250, _, none⟩) NB246_250.out _).trans (hHeld.2.2.2.1)))), ((cell_far (p := ⟨gb250, _, none⟩) NB246_250.out _).trans (((cell_far (p := ⟨gb250, _, none⟩) NB246_250.out _).trans (hHeld.2.2.2.2))))⟩ (fun hHeld => ?_)
  clear hK K
  refine pure_ (i := 8) (N := some 7) (v := ?_) (a' := ?_) #[true, true, true, true, true, true, true, true, true] rfl rfl (any_of HT_.out (by kernel_rfl)) (fun _ _ _ h => h) (Or.inl ⟨by rfl, ?_⟩) ?_ ?_
  rotate_left
  ·intro w'
   go_simp
   with_reducible rfl
  rotate_left
  ·simp only [Act.put, List.setIfInBounds_toArray, List.set_cons_zero, List.set_cons_succ, i64_w, i32_w]
   rfl
  refine done_ (done_of HT_.out (by kernel_rfl)) ?_
  have hnb34 := NB250_246.out
  have hnc34 := NB246_250.out
  have hnb35 := NB250_247.out
  have hnc35 := NB247_250.out
  have hcz36_0 : w31.cell? ⟨gb250, 0, none⟩ = some (.int .i64 0) := (kC BK250.out 0).trans rfl
  have hcz36_1 : w31.cell? ⟨gb250, 1, none⟩ = some (.int .i64 0) := (kC BK250.out 1).trans rfl
  have hfz36_0 := kF BK250.out 0
  have hfz36_1 := kF BK250.out 1
  try go_wp2_with (first | ((with_reducible refine gate_callee (f := 105) rfl ?_); refine goesL_ (some 22) rfl rfl Try.func105 (by kernel_rfl) rfl #[.agg #[.int .i64 t248, .int .i64 t249], .int .i64 a0_2] rfl (by (try simp only [List.map_toArray, List.map_cons, List.map_nil]); first | done | rfl | (simp only [List.length_drop, List.length_take]; rfl)) ?_; (with_reducible refine (impl_roots.calls k t248 t249 a0_2 t261 t264 _ A24.out).mono ?_); rintro e w37 ⟨v262, rfl, ho0, hb⟩; refine ⟨_, rfl, ?_⟩; have n0_ := Am (Kd.R_lower (Kd.R_newB (Kd.R_newB ho0 (g := gb247) (o := .cells #[.int .i64 a1_0, .int .i64 a1_1] 26 (0, 0)) (by (with_reducible repeat (first | refine kN ?_ _ | refine kD ?_ | refine kA ?_ _)); refine kR ?_ NB247_250.out _; (with_reducible repeat (first | refine kN ?_ _ | refine kD ?_ | refine kA ?_ _)); refine kR ?_ NB247_250.out _; (with_reducible repeat (first | refine kN ?_ _ | refine kD ?_ | refine kA ?_ _)); exact BK247.out)) (g := gb250) (o := .cells #[.int .i64 t248, .int .i64 t249] 26 (0, 0)) (by (with_reducible repeat (first | refine kN ?_ _ | refine kD ?_ | refine kA ?_ _)); refine kP (cs := #[.int .i64 t248, .int .i64 0]) ?_ 1 _ rfl; (with_reducible repeat (first | refine kN ?_ _ | refine kD ?_ | refine kA ?_ _)); refine kP (cs := #[.int .i64 0, .int .i64 0]) ?_ 0 _ rfl; (with_reducible repeat (first | refine kN ?_ _ | refine kD ?_ | refine kA ?_ _)); exact BK250.out)) (bZ (by repeat (first | (with_reducible first | exact HB.out | apply bA | apply bN | apply bD | refine bS ?_ GE246.out | refine bS ?_ GE247.out | refine bS ?_ GE250.out) | exact HB.out)))); have n1_ := Am (kB (g := gb246) (o := .cells #[.int .i64 a0_0, .int .i64 a0_1, .int .i64 a0_2] 30 (0, 0)) (by (with_reducible repeat (first | refine kN ?_ _ | refine kD ?_ | refine kA ?_ _)); refine kR ?_ NB246_250.out _; (with_reducible repeat (first | refine kN ?_ _ | refine kD ?_ | refine kA ?_ _)); refine kR ?_ NB246_250.out _; (with_reducible repeat (first | refine kN ?_ _ | refine kD ?_ | refine kA ?_ _)); exact BK246.out) hb); have n2_ := Am (kB (g := gb247) (o := .cells #[.int .i64 a1_0, .int .i64 a1_1] 26 (0, 0)) (by (with_reducible repeat (first | refine kN ?_ _ | refine kD ?_ | refine kA ?_ _)); refine kR ?_ NB247_250.out _; (with_reducible repeat (first | refine kN ?_ _ | refine kD ?_ | refine kA ?_ _)); refine kR ?_ NB247_250.out _; (with_reducible repeat (first | refine kN ?_ _ | refine kD ?_ | refine kA ?_ _)); exact BK247.out) hb); have n3_ := Am (kB (g := gb250) (o := .cells #[.int .i64 t248, .int .i64 t249] 26 (0, 0)) (by (with_reducible repeat (first | refine kN ?_ _ | refine kD ?_ | refine kA ?_ _)); refine kP (cs := #[.int .i64 t248, .int .i64 0]) ?_ 1 _ rfl; (with_reducible repeat (first | refine kN ?_ _ | refine kD ?_ | refine kA ?_ _)); refine kP (cs := #[.int .i64 0, .int .i64 0]) ?_ 0 _ rfl; (with_reducible repeat (first | refine kN ?_ _ | refine kD ?_ | refine kA ?_ _)); exact BK250.out) hb); have n4_ := Am (bT (by repeat (first | (with_reducible first | exact HB.out | apply bA | apply bN | apply bD | refine bS ?_ GE246.out | refine bS ?_ GE247.out | refine bS ?_ GE250.out) | exact HB.out)) hb); clear BK246; clear BK247; clear BK250; clear HB; have HO263 := n0_; have BK246 := n1_; have BK247 := n2_; have BK250 := n3_; have HB := n4_; clear n0_ n1_ n2_ n3_ n4_; (try clear hb); (try clear hb2); (try clear hk); (try clear hi); (try clear ho0); obtain ⟨Ao38, co38, eo38⟩ := Kd.R_slice HO263.out; subst eo38) | ((with_reducible refine gate_callee (f := 85) rfl ?_); refine goesL_ (some 25) rfl rfl Try.func85 (by kernel_rfl) rfl #[.slice Ao38 t261.length co38, .bool t264] rfl (by (try simp only [List.map_toArray, List.map_cons, List.map_nil]); first | done | rfl | (simp only [List.length_drop, List.length_take]; rfl)) ?_; (with_reducible refine (impl_ifTurns.calls k (fun k_ => some k_ = (.slice Ao38 t261.length co38 : Value).ownBlock) (.slice Ao38 t261.length co38) t261 t264 t265 t268 w _ ?side1 ?side2 A25.out).mono ?_); (case side1 => repeat (first | (with_reducible first | exact HB.out | apply bA | apply bN | apply bD | refine bS ?_ GE246.out | refine bS ?_ GE247.out | refine bS ?_ GE250.out) | exact HB.out)); (case side2 => exact Kd.R_tight rfl HO263.out); rintro e w39 ⟨v266, rfl, ho0, hb, hkp⟩; refine ⟨_, rfl, ?_⟩; have n0_ := Am (blk_kept (by (with_reducible repeat (first | refine kN ?_ _ | refine kD ?_ | refine kA ?_ _)); exact BK246.out) hkp (fun hs_ => (fun e_ => (Kd.R_ne HO263.out BK246.out (by decide)) e_) hs_)); have n1_ := Am (blk_kept (by (with_reducible repeat (first | refine kN ?_ _ | refine kD ?_ | refine kA ?_ _)); exact BK247.out) hkp (fun hs_ => (fun e_ => (Kd.R_away HO263.out (fun _ hk => hk.1.2)) e_) hs_)); have n2_ := Am (blk_kept (by (with_reducible repeat (first | refine kN ?_ _ | refine kD ?_ | refine kA ?_ _)); exact BK250.out) hkp (fun hs_ => (fun e_ => (Kd.R_away HO263.out (fun _ hk => hk.2)) e_) hs_)); have n3_ := Am (Kd.R_mono (ok' := fun k_ => k_ ≠ gb247 ∧ k_ ≠ gb250) ho0 (fun k_ hk_ => ⟨Or.elim hk_ (fun hs_ => fun e_ => (Kd.R_away HO263.out (fun _ hk => hk.1.2)) (by rw [← e_]; exact hs_)) (fun hn_ => (Kd.freshB (g := gb247) (o := .cells #[.int .i64 a1_0, .int .i64 a1_1] 26 (0, 0)) (by (with_reducible repeat (first | refine kN ?_ _ | refine kD ?_ | refine kA ?_ _)); exact BK247.out) k_ hn_)), Or.elim hk_ (fun hs_ => fun e_ => (Kd.R_away HO263.out (fun _ hk => hk.2)) (by rw [← e_]; exact hs_)) (fun hn_ => (Kd.freshB (g := gb250) (o := .cells #[.int .i64 t248, .int .i64 t249] 26 (0, 0)) (by (with_reducible repeat (first | refine kN ?_ _ | refine kD ?_ | refine kA ?_ _)); exact BK250.out) k_ hn_))⟩)); have n4_ := Am (hb); clear BK246; clear BK247; clear BK250; clear HB; clear HO263; have BK246 := n0_; have BK247 := n1_; have BK250 := n2_; have HO267 := n3_; have HB := n4_; clear n0_ n1_ n2_ n3_ n4_; (try clear hb); (try clear hkp); (try clear ho0)))
  go_ret2
  exact ⟨_, by first | rfl | (simp [errW_none, errW_some] <;> rfl) | (simp [*, errW_none, errW_some] <;> rfl), by (with_reducible repeat (first | apply Kd.R_alloc | apply Kd.R_drewN | apply Kd.R_drew)); exact Kd.R_mono HO267.out (fun _ hk => trivial), by repeat (first | (with_reducible first | exact HB.out | apply bA | apply bN | apply bD | refine bS ?_ GE246.out | refine bS ?_ GE247.out | refine bS ?_ GE250.out) | exact HB.out)⟩

end Go.Proofs.Ytioggbokjfdoaaa.PFnExactThreeMeet
