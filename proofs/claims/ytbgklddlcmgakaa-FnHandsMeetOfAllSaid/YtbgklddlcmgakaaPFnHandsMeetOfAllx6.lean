-- WRITTEN BY A PROGRAM OF THIS SESSION (wip/tools): its own text, not the kit's printed one.
import Derived.Test.YtbgklddlcmgakaaPFnHandsMeetOfAllx0
import Derived.Test.YtbgklddlcmgakaaPFnHandsMeetOfAllx5
namespace Go.Proofs.Ytbgklddlcmgakaa.PFnHandsMeetOfAll
open Go.RowKit Go.Proofs.YtbgklddlcmgakaaW.PrintWords Go.Proofs.YtbgklddlcmgakaaW.PrintLast Go.Proofs.YtbgklddlcmgakaaW.PrintMore
attribute [local go_sem] max2_int min2_int max_two min_two max_three min_three max_four min_four   -- for this text's walks alone
set_option linter.unusedVariables false
set_option linter.unusedSimpArgs false

/-! ### spec_diMake: function 47 -/
def spec_diMake.f (k : Nat) (a0 : Int) (a1 : Int) : Option (Int × Int × Bool) := if a1 = 0 then (none) else ((spec_diCommon.f k (Int.tmod (wrap64 ((Int.tmod a0 a1) + a1)) a1) a1).bind fun t205 => (if t205 = 0 then (none) else (if (wrap64 (Int.tdiv a1 t205)) > 1000000 then (some (0, 0, false)) else (some (wrap64 (Int.tdiv (Int.tmod (wrap64 ((Int.tmod a0 a1) + a1)) a1) t205), wrap64 (Int.tdiv a1 t205), true)))))
theorem spec_diMake.mono : ∀ a0 a1 k, LeO (spec_diMake.f k a0 a1) (spec_diMake.f (k + 1) a0 a1) := by
 intro a0 a1 k
 unfold spec_diMake.f
 repeat' first
   | (with_reducible exact spec_diCommon.mono _ _ _)
   | (with_reducible exact LeO.refl _)
   | (with_reducible exact LeO.none _)
   | (with_reducible refine LeO.ite ?_ ?_)
   | (with_reducible refine LeO.bind ?_ (fun _ => ?_))
   | exact spec_diCommon.mono _ _ _
   | exact LeO.none _
   | refine LeO.ite ?_ ?_
   | refine LeO.bind ?_ (fun _ => ?_)
def spec_diMake.T3 : Bool × List (List Nat × List Nat) := (true, [([], []), ([], []), ([0, 1], [0, 1]), ([], []), ([], []), ([3, 4], [3, 4]), ([2, 5], [2, 5]), ([], []), ([7, 6, 0, 1, 2, 3, 4, 5, 6, 7], [6, 7])])
def spec_diMake.B3 : List Nat := [0, 0, 3, 0, 0, 24, 63, 0, 255]
theorem spec_diMake.tab3 : rtab .any (opsOf Try.f47 3) = spec_diMake.T3 := by kernel_rfl
theorem spec_diMake.bits3 : waitsOk spec_diMake.T3.2 spec_diMake.B3 = true := by kernel_rfl
set_option maxHeartbeats 8000000 in
set_option maxRecDepth 100000 in
theorem spec_diMake.calls (k : Nat) (a0 : Int) (a1 : Int) (r1 : Int) (r2 : Int) (r3 : Bool) (w : World) (h : spec_diMake.f k a0 a1 = some (r1, r2, r3)) :
  Calls Try.prog 47 #[.int .i64 a0, .int .i64 a1] w fun e w' => e = .returned (.tuple #[.agg #[.int .i64 r1, .int .i64 r2], .bool r3]) ∧ Below w.heap.size w w' := by
 have hu23 := Try.underlying23
 have HB := Am (Below.refl w.heap.size w)
 have H : (if a1 = 0 then (none) else ((spec_diCommon.f k (Int.tmod (wrap64 ((Int.tmod a0 a1) + a1)) a1) a1).bind fun t205 => (if t205 = 0 then (none) else (if (wrap64 (Int.tdiv a1 t205)) > 1000000 then (some (0, 0, false)) else (some (wrap64 (Int.tdiv (Int.tmod (wrap64 ((Int.tmod a0 a1) + a1)) a1) t205), wrap64 (Int.tdiv a1 t205), true)))))) = some (r1, r2, r3) := h
 clear h
 by_cases c3 : a1 = 0
 ·rw [if_pos c3] at H
  exact absurd H (by simp)
 rw [if_neg c3] at H
 have c3b0 : (a1 == 0) = false := beq_eq_false_iff_ne.mpr c3
 have c3b1 : (a1 != 0) = true := bne_iff_ne.mpr c3
 replace H := Option.bind_eq_some_iff.mp H
 obtain ⟨t205, A40, H⟩ := H
 try dsimp only at H
 have A4 := Am A40
 clear A40
 by_cases c5 : t205 = 0
 ·rw [if_pos c5] at H
  exact absurd H (by simp)
 rw [if_neg c5] at H
 have c5b0 : (t205 == 0) = false := beq_eq_false_iff_ne.mpr c5
 have c5b1 : (t205 != 0) = true := bne_iff_ne.mpr c5
 by_cases c6 : (wrap64 (Int.tdiv a1 t205)) > 1000000
 ·rw [if_pos c6] at H
  have c6b0 : decide (1000000 < (wrap64 (Int.tdiv a1 t205))) = true := decide_eq_true c6
  clear c6
  focus
   simp only [Option.some.injEq, Prod.mk.injEq] at H
   obtain ⟨rfl, rfl, rfl⟩ := H
   go_enter Try.func47, Try.ntmps47
   try go_wp2_with (first | ((with_reducible refine gate_dst (N := 4) rfl ?_); refine bE 4 #[.int .i64 0, .int .i64 0] 23 ?_; intro gb204 hg w7 hbox hb; have hv := vK HB hb; have n0_ := Am (bT hv hb); have n1_ := Am (hbox); have GW204 := kG hg hv; have GE204 := kG hg hv; clear HB; have HB := n0_; have BK204 := n1_; clear n0_ n1_ hv; clear hb hbox hg) | ((with_reducible refine gate_callee (f := 61) rfl ?_); refine gL (some 17) Try.func61 #[.int .i64 (Int.tmod (wrap64 ((Int.tmod a0 a1) + a1)) a1), .int .i64 a1] rfl ?_; (with_reducible refine (spec_diCommon.calls k (Int.tmod (wrap64 ((Int.tmod a0 a1) + a1)) a1) a1 t205 _ A4.out).mono ?_); rintro e w' ⟨rfl, ⟨nd, rfl⟩⟩; refine ⟨_, rfl, ?_⟩; (try (rw [drewN_self w7]; generalize hq_ : World.drewN w7 _ = w7; have n0_ : Aside0 (w7.heap[gb204]? = some (.cells #[.int .i64 0, .int .i64 0] 23 (0, 0))) := ⟨by rw [← hq_]; exact (kU BK204)⟩; have n1_ : Aside0 (Below w.heap.size w w7) := ⟨by rw [← hq_]; exact (by repeat (first | (with_reducible first | exact HB.out | apply bA | apply bN | apply bD | refine bX ?_ (by assumption)) | exact HB.out))⟩; clear BK204 HB hq_; have BK204 := n0_; have HB := n1_; clear n0_ n1_))))
   have n0_ := Am (kD BK204.out)
   have n1_ := Am (bD HB.out)
   clear BK204 HB
   have BK204 := n0_; have HB := n1_
   clear n0_ n1_
   refine start_ (n := 9) (S := fun w' => True) (ds := []) (pT 9 0) (by kernel_rfl) rfl rfl trivial (fun hHeld => ?_); refine with_tabW spec_diMake.tab3 spec_diMake.bits3 (fun HT_ HW_ => ?_)
   generalize w7.drew = w8 at BK204 HB hHeld ⊢
   iterate 7
    refine pI (v := ?_) (a' := ?_) rfl (any_of HT_.out (by kernel_rfl)) (fun _ _ _ h => h) (Or.inl ⟨by rfl, ?_⟩) ?_ ?_
    rotate_left
    ·intro w'
     go_simp
     with_reducible rfl
    rotate_left
    ·show Act.put _ (some _) _ = _
     simp only [Act.put, List.setIfInBounds_toArray, List.set_cons_zero, List.set_cons_succ, i64_w, i32_w]
     rfl
   refine one_ (i := 7) (N := some 7) (pT 9 8) rfl rfl (one_of HT_.out (by kernel_rfl)) (by decide) (fun K hK => ?_)
   refine box_step ?hg (N := 7) ?hd (cs := #[.int .i64 0, .int .i64 0]) (t := 23) ?hr ?_; (case hd => rfl); (case hg => rfl); (case hr => first | (go_simp; done) | (go_simp; rfl))
   intro gb206 hg w9 hbox hb
   have hp0 := pA BK204 hb
   have hv := vK HB hb
   have n1_ := Am (bT hv hb)
   have n2_ := Am (hbox)
   have GW206 := kG hg hv
   have GE206 := kG hg hv
   have hp1 := pK BK204 hb
   obtain ⟨NB204_206, NB206_204⟩ := kXY hg hp1 BK204
   clear HB
   replace BK204 := hp0 BK204
   have HB := n1_; have BK206 := n2_
   clear n1_ n2_ hp0 hp1 hv hb hbox hg
   refine hK.out _ _ trivial (fun hHeld => ?_)
   clear hK K
   refine norm_ (a' := ?_) ?_ ?_
   rotate_left
   ·show Act.put _ (some 7) _ = _
    simp only [Act.put, List.setIfInBounds_toArray, List.set_cons_zero, List.set_cons_succ, i64_w, i32_w]
    rfl
   refine one_ (i := 8) (N := none) (pT 9 9) rfl rfl (one_of HT_.out (by kernel_rfl)) (by decide) (fun K hK => ?_)
   have hs10 : w9.cell? ⟨gb206, 0, none⟩ = some (.int .i64 0) := (kC BK206.out 0).trans rfl
   have hfs10 := kF BK206.out 0
   have hns10_0 := NB204_206.out; have hms10_0 := NB206_204.out
   have hs11 : w9.cell? ⟨gb206, 1, none⟩ = some (.int .i64 0) := (kC BK206.out 1).trans rfl
   have hfs11 := kF BK206.out 1
   have hns11_0 := NB204_206.out; have hms11_0 := NB206_204.out
   refine skip_ (w1 := ?_) (by rfl) rfl ?_ ?_
   rotate_left
   ·go_simp
    rfl
   refine hK.out _ _ trivial (fun hHeld => ?_)
   clear hK K
   refine done_ (done_of HT_.out (by kernel_rfl)) ?_
   have nq12 := kO NB206_204
   have hcz13_0 : w9.cell? ⟨gb206, 0, none⟩ = some (.int .i64 0) := (kC BK206.out 0).trans rfl
   have hcz13_1 : w9.cell? ⟨gb206, 1, none⟩ = some (.int .i64 0) := (kC BK206.out 1).trans rfl
   have hfz13_0 := kF BK206.out 0
   have hfz13_1 := kF BK206.out 1
   have zq14 := c2 BK204
   try go_wp2
   refine bodyPost_ret (results_ct rfl _ _ gb204 23 #[.int .i64 0, .int .i64 0] (0, 0) _ rfl (by (with_reducible repeat (first | refine kN ?_ _ | refine kD ?_ | refine kA ?_ _)); refine kP (cs := #[.int .i64 0, .int .i64 0]) ?_ 1 _ rfl; (with_reducible repeat (first | refine kN ?_ _ | refine kD ?_ | refine kA ?_ _)); refine kP (cs := #[.int .i64 0, .int .i64 0]) ?_ 0 _ rfl; (with_reducible repeat (first | refine kN ?_ _ | refine kD ?_ | refine kA ?_ _)); refine kR ?_ NB204_206.out _; (with_reducible repeat (first | refine kN ?_ _ | refine kD ?_ | refine kA ?_ _)); refine kR ?_ NB204_206.out _; (with_reducible repeat (first | refine kN ?_ _ | refine kD ?_ | refine kA ?_ _)); exact BK204.out) Try.underlying23 rfl (by kernel_rfl)) rfl ?_
   exact ⟨by first | rfl | (simp [errW_none, errW_some] <;> rfl) | (simp [*, errW_none, errW_some] <;> rfl), by repeat (first | (with_reducible first | exact HB.out | apply bA | apply bN | apply bD | refine bX ?_ (by assumption)) | exact HB.out)⟩
 rw [if_neg c6] at H
 have c6b0 : decide (1000000 < (wrap64 (Int.tdiv a1 t205))) = false := decide_eq_false c6
 clear c6
 focus
  simp only [Option.some.injEq, Prod.mk.injEq] at H
  obtain ⟨rfl, rfl, rfl⟩ := H
  go_enter Try.func47, Try.ntmps47
  try go_wp2_with (first | ((with_reducible refine gate_dst (N := 4) rfl ?_); refine bE 4 #[.int .i64 0, .int .i64 0] 23 ?_; intro gb204 hg w15 hbox hb; have hv := vK HB hb; have n0_ := Am (bT hv hb); have n1_ := Am (hbox); have GW204 := kG hg hv; have GE204 := kG hg hv; clear HB; have HB := n0_; have BK204 := n1_; clear n0_ n1_ hv; clear hb hbox hg) | ((with_reducible refine gate_callee (f := 61) rfl ?_); refine gL (some 17) Try.func61 #[.int .i64 (Int.tmod (wrap64 ((Int.tmod a0 a1) + a1)) a1), .int .i64 a1] rfl ?_; (with_reducible refine (spec_diCommon.calls k (Int.tmod (wrap64 ((Int.tmod a0 a1) + a1)) a1) a1 t205 _ A4.out).mono ?_); rintro e w' ⟨rfl, ⟨nd, rfl⟩⟩; refine ⟨_, rfl, ?_⟩; (try (rw [drewN_self w15]; generalize hq_ : World.drewN w15 _ = w15; have n0_ : Aside0 (w15.heap[gb204]? = some (.cells #[.int .i64 0, .int .i64 0] 23 (0, 0))) := ⟨by rw [← hq_]; exact (kU BK204)⟩; have n1_ : Aside0 (Below w.heap.size w w15) := ⟨by rw [← hq_]; exact (by repeat (first | (with_reducible first | exact HB.out | apply bA | apply bN | apply bD | refine bX ?_ (by assumption)) | exact HB.out))⟩; clear BK204 HB hq_; have BK204 := n0_; have HB := n1_; clear n0_ n1_))))
  have n0_ := Am (kD BK204.out)
  have n1_ := Am (bD HB.out)
  clear BK204 HB
  have BK204 := n0_; have HB := n1_
  clear n0_ n1_
  refine start_ (n := 9) (S := fun w' => True) (ds := []) (pT 9 0) (by kernel_rfl) rfl rfl trivial (fun hHeld => ?_); refine with_tabW spec_diMake.tab3 spec_diMake.bits3 (fun HT_ HW_ => ?_)
  generalize w15.drew = w16 at BK204 HB hHeld ⊢
  iterate 7
   refine pI (v := ?_) (a' := ?_) rfl (any_of HT_.out (by kernel_rfl)) (fun _ _ _ h => h) (Or.inl ⟨by rfl, ?_⟩) ?_ ?_
   rotate_left
   ·intro w'
    go_simp
    with_reducible rfl
   rotate_left
   ·show Act.put _ (some _) _ = _
    simp only [Act.put, List.setIfInBounds_toArray, List.set_cons_zero, List.set_cons_succ, i64_w, i32_w]
    rfl
  refine one_ (i := 7) (N := some 7) (pT 9 8) rfl rfl (one_of HT_.out (by kernel_rfl)) (by decide) (fun K hK => ?_)
  refine box_step ?hg (N := 7) ?hd (cs := #[.int .i64 0, .int .i64 0]) (t := 23) ?hr ?_; (case hd => rfl); (case hg => rfl); (case hr => first | (go_simp; done) | (go_simp; rfl))
  intro gb206 hg w17 hbox hb
  have hp0 := pA BK204 hb
  have hv := vK HB hb
  have n1_ := Am (bT hv hb)
  have n2_ := Am (hbox)
  have GW206 := kG hg hv
  have GE206 := kG hg hv
  have hp1 := pK BK204 hb
  obtain ⟨NB204_206, NB206_204⟩ := kXY hg hp1 BK204
  clear HB
  replace BK204 := hp0 BK204
  have HB := n1_; have BK206 := n2_
  clear n1_ n2_ hp0 hp1 hv hb hbox hg
  refine hK.out _ _ trivial (fun hHeld => ?_)
  clear hK K
  refine norm_ (a' := ?_) ?_ ?_
  rotate_left
  ·show Act.put _ (some 7) _ = _
   simp only [Act.put, List.setIfInBounds_toArray, List.set_cons_zero, List.set_cons_succ, i64_w, i32_w]
   rfl
  refine one_ (i := 8) (N := none) (pT 9 9) rfl rfl (one_of HT_.out (by kernel_rfl)) (by decide) (fun K hK => ?_)
  have hs18 : w17.cell? ⟨gb206, 0, none⟩ = some (.int .i64 0) := (kC BK206.out 0).trans rfl
  have hfs18 := kF BK206.out 0
  have hns18_0 := NB204_206.out; have hms18_0 := NB206_204.out
  have hs19 : w17.cell? ⟨gb206, 1, none⟩ = some (.int .i64 0) := (kC BK206.out 1).trans rfl
  have hfs19 := kF BK206.out 1
  have hns19_0 := NB204_206.out; have hms19_0 := NB206_204.out
  refine skip_ (w1 := ?_) (by rfl) rfl ?_ ?_
  rotate_left
  ·go_simp
   rfl
  refine hK.out _ _ trivial (fun hHeld => ?_)
  clear hK K
  refine done_ (done_of HT_.out (by kernel_rfl)) ?_
  have nq20 := kO NB206_204
  have hcz21_0 : w17.cell? ⟨gb206, 0, none⟩ = some (.int .i64 0) := (kC BK206.out 0).trans rfl
  have hcz21_1 : w17.cell? ⟨gb206, 1, none⟩ = some (.int .i64 0) := (kC BK206.out 1).trans rfl
  have hfz21_0 := kF BK206.out 0
  have hfz21_1 := kF BK206.out 1
  have zq22 := c2 BK204
  try go_wp2
  refine bodyPost_ret (results_ct rfl _ _ gb204 23 #[.int .i64 (wrap64 (Int.tdiv (Int.tmod (wrap64 ((Int.tmod a0 a1) + a1)) a1) t205)), .int .i64 (wrap64 (Int.tdiv a1 t205))] (0, 0) _ rfl (by (with_reducible repeat (first | refine kN ?_ _ | refine kD ?_ | refine kA ?_ _)); refine kP (cs := #[.int .i64 (wrap64 (Int.tdiv (Int.tmod (wrap64 ((Int.tmod a0 a1) + a1)) a1) t205)), .int .i64 0]) ?_ 1 _ rfl; (with_reducible repeat (first | refine kN ?_ _ | refine kD ?_ | refine kA ?_ _)); refine kP (cs := #[.int .i64 0, .int .i64 0]) ?_ 0 _ rfl; (with_reducible repeat (first | refine kN ?_ _ | refine kD ?_ | refine kA ?_ _)); refine kR ?_ NB204_206.out _; (with_reducible repeat (first | refine kN ?_ _ | refine kD ?_ | refine kA ?_ _)); refine kR ?_ NB204_206.out _; (with_reducible repeat (first | refine kN ?_ _ | refine kD ?_ | refine kA ?_ _)); exact BK204.out) Try.underlying23 rfl (by kernel_rfl)) rfl ?_
  exact ⟨by first | rfl | (simp [errW_none, errW_some] <;> rfl) | (simp [*, errW_none, errW_some] <;> rfl), by repeat (first | (with_reducible first | exact HB.out | apply bA | apply bN | apply bD | refine bX ?_ (by assumption)) | exact HB.out)⟩
/-! ### spec_diAdd: function 45 -/
def spec_diAdd.f (k : Nat) (a0_0 : Int) (a0_1 : Int) (a1_0 : Int) (a1_1 : Int) (a2 : Int) : Option (Int × Int × Bool) := (spec_diMake.f k (wrap64 ((wrap64 (a0_0 * a1_1)) + (wrap64 ((wrap64 (a2 * a1_0)) * a0_1)))) (wrap64 (a0_1 * a1_1))).bind fun bt210 => (some (bt210.1, bt210.2.1, bt210.2.2))
theorem spec_diAdd.mono : ∀ a0 a1 a2 a3 a4 k, LeO (spec_diAdd.f k a0 a1 a2 a3 a4) (spec_diAdd.f (k + 1) a0 a1 a2 a3 a4) := by
 intro a0 a1 a2 a3 a4 k
 unfold spec_diAdd.f
 repeat' first
   | (with_reducible exact spec_diMake.mono _ _ _)
   | (with_reducible exact LeO.refl _)
   | (with_reducible exact LeO.none _)
   | (with_reducible refine LeO.ite ?_ ?_)
   | (with_reducible refine LeO.bind ?_ (fun _ => ?_))
   | exact spec_diMake.mono _ _ _
   | exact LeO.none _
   | refine LeO.ite ?_ ?_
   | refine LeO.bind ?_ (fun _ => ?_)
set_option maxHeartbeats 8000000 in
set_option maxRecDepth 100000 in
theorem spec_diAdd.calls (k : Nat) (a0_0 : Int) (a0_1 : Int) (a1_0 : Int) (a1_1 : Int) (a2 : Int) (r1 : Int) (r2 : Int) (r3 : Bool) (w : World) (h : spec_diAdd.f k a0_0 a0_1 a1_0 a1_1 a2 = some (r1, r2, r3)) :
  Calls Try.prog 45 #[.agg #[.int .i64 a0_0, .int .i64 a0_1], .agg #[.int .i64 a1_0, .int .i64 a1_1], .int .i64 a2] w fun e w' => e = .returned (.tuple #[.agg #[.int .i64 r1, .int .i64 r2], .bool r3]) ∧ Below w.heap.size w w' := by
 have hu23 := Try.underlying23
 have HB := Am (Below.refl w.heap.size w)
 have H : ((spec_diMake.f k (wrap64 ((wrap64 (a0_0 * a1_1)) + (wrap64 ((wrap64 (a2 * a1_0)) * a0_1)))) (wrap64 (a0_1 * a1_1))).bind fun bt210 => (some (bt210.1, bt210.2.1, bt210.2.2))) = some (r1, r2, r3) := h
 clear h
 replace H := Option.bind_eq_some_iff.mp H
 obtain ⟨⟨t210, t211, t212⟩, A40, H⟩ := H
 try dsimp only at H
 have A4 := Am A40
 clear A40
 focus
  simp only [Option.some.injEq, Prod.mk.injEq] at H
  obtain ⟨rfl, rfl, rfl⟩ := H
  go_enter Try.func45, Try.ntmps45
  go_wp2_with (first | ((with_reducible refine gate_dst (N := 3) rfl ?_); refine bE 3 #[.int .i64 a0_0, .int .i64 a0_1] 23 ?_; intro gb207 hg w5 hbox hb; have hv := vK HB hb; have n0_ := Am (bT hv hb); have n1_ := Am (hbox); have GW207 := kG hg hv; have GE207 := kG hg hv; clear HB; have HB := n0_; have BK207 := n1_; clear n0_ n1_ hv; clear hb hbox hg) | ((with_reducible refine gate_dst (N := 4) rfl ?_); refine bE 4 #[.int .i64 a1_0, .int .i64 a1_1] 23 ?_; intro gb208 hg w6 hbox hb; have hp0 := pA BK207 hb; have hv := vK HB hb; have n1_ := Am (bT hv hb); have n2_ := Am (hbox); have GW208 := kG hg hv; have GE208 := kG hg hv; have hp1 := pK BK207 hb; obtain ⟨NB207_208, NB208_207⟩ := kXY hg hp1 BK207; clear HB; replace BK207 := hp0 BK207; have HB := n1_; have BK208 := n2_; clear n1_ n2_ hp0 hp1 hv; clear hb hbox hg) | ((with_reducible refine gate_dst (N := 6) rfl ?_); refine bE 6 #[.int .i64 0, .int .i64 0] 23 ?_; intro gb209 hg w7 hbox hb; have hp0 := pA BK207 hb; have hv := vK HB hb; have n2_ := Am (bT hv hb); have n3_ := Am (hbox); have GW209 := kG hg hv; have GE209 := kG hg hv; have hp1 := pK BK207 hb; obtain ⟨NB207_209, NB209_207⟩ := kXY hg hp1 BK207; obtain ⟨NB208_209, NB209_208⟩ := kXY hg hp1 BK208; clear HB; replace BK207 := hp0 BK207; replace BK208 := hp0 BK208; have HB := n2_; have BK209 := n3_; clear n2_ n3_ hp0 hp1 hv; clear hb hbox hg; have nq8 := kO NB207_208; have nq9 := kO NB207_209; have zq10 := c2 BK207; have nq11 := kO NB208_209; have zq12 := c2 BK208) | ((with_reducible refine gate_callee (f := 47) rfl ?_); refine gL (some 26) Try.func47 #[.int .i64 (wrap64 ((wrap64 (a0_0 * a1_1)) + (wrap64 ((wrap64 (a2 * a1_0)) * a0_1)))), .int .i64 (wrap64 (a0_1 * a1_1))] rfl ?_; (with_reducible refine (spec_diMake.calls k (wrap64 ((wrap64 (a0_0 * a1_1)) + (wrap64 ((wrap64 (a2 * a1_0)) * a0_1)))) (wrap64 (a0_1 * a1_1)) t210 t211 t212 _ A4.out).mono ?_); rintro e w13 ⟨rfl, hb⟩; refine ⟨_, rfl, ?_⟩; have hp0 := pA BK207 hb; have hv := vK HB hb; have n3_ := Am (bT hv hb); clear HB; replace BK207 := hp0 BK207; replace BK208 := hp0 BK208; replace BK209 := hp0 BK209; have HB := n3_; clear n3_ hp0 hv; (try clear hb); have zq14 := c2 BK209))
  refine bodyPost_ret (results_ct rfl _ _ gb209 23 #[.int .i64 t210, .int .i64 t211] (0, 0) _ rfl (by (with_reducible repeat (first | refine kN ?_ _ | refine kD ?_ | refine kA ?_ _)); refine kP (cs := #[.int .i64 t210, .int .i64 0]) ?_ 1 _ rfl; (with_reducible repeat (first | refine kN ?_ _ | refine kD ?_ | refine kA ?_ _)); refine kP (cs := #[.int .i64 0, .int .i64 0]) ?_ 0 _ rfl; (with_reducible repeat (first | refine kN ?_ _ | refine kD ?_ | refine kA ?_ _)); exact BK209.out) Try.underlying23 rfl (by kernel_rfl)) rfl ?_
  exact ⟨by first | rfl | (simp [errW_none, errW_some] <;> rfl) | (simp [*, errW_none, errW_some] <;> rfl), by repeat (first | (with_reducible first | exact HB.out | apply bA | apply bN | apply bD | refine bX ?_ (by assumption)) | exact HB.out)⟩
/-! ### spec_diTimes: function 67 -/
def spec_diTimes.f (k : Nat) (a0_0 : Int) (a0_1 : Int) (a1 : Int) : Option (Int × Int) := (spec_diMake.f k (wrap64 (a0_0 * a1)) a0_1).bind fun bt215 => (some (bt215.1, bt215.2.1))
theorem spec_diTimes.mono : ∀ a0 a1 a2 k, LeO (spec_diTimes.f k a0 a1 a2) (spec_diTimes.f (k + 1) a0 a1 a2) := by
 intro a0 a1 a2 k
 unfold spec_diTimes.f
 repeat' first
   | (with_reducible exact spec_diMake.mono _ _ _)
   | (with_reducible exact LeO.refl _)
   | (with_reducible exact LeO.none _)
   | (with_reducible refine LeO.ite ?_ ?_)
   | (with_reducible refine LeO.bind ?_ (fun _ => ?_))
   | exact spec_diMake.mono _ _ _
   | exact LeO.none _
   | refine LeO.ite ?_ ?_
   | refine LeO.bind ?_ (fun _ => ?_)
set_option maxHeartbeats 8000000 in
set_option maxRecDepth 100000 in
theorem spec_diTimes.calls (k : Nat) (a0_0 : Int) (a0_1 : Int) (a1 : Int) (r1 : Int) (r2 : Int) (w : World) (h : spec_diTimes.f k a0_0 a0_1 a1 = some (r1, r2)) :
  Calls Try.prog 67 #[.agg #[.int .i64 a0_0, .int .i64 a0_1], .int .i64 a1] w fun e w' => e = .returned (.agg #[.int .i64 r1, .int .i64 r2]) ∧ Below w.heap.size w w' := by
 have hu23 := Try.underlying23
 have HB := Am (Below.refl w.heap.size w)
 have H : ((spec_diMake.f k (wrap64 (a0_0 * a1)) a0_1).bind fun bt215 => (some (bt215.1, bt215.2.1))) = some (r1, r2) := h
 clear h
 replace H := Option.bind_eq_some_iff.mp H
 obtain ⟨⟨t215, t216, t217⟩, A30, H⟩ := H
 try dsimp only at H
 have A3 := Am A30
 clear A30
 focus
  simp only [Option.some.injEq, Prod.mk.injEq] at H
  obtain ⟨rfl, rfl⟩ := H
  go_enter Try.func67, Try.ntmps67
  go_wp2_with (first | ((with_reducible refine gate_dst (N := 2) rfl ?_); refine bE 2 #[.int .i64 a0_0, .int .i64 a0_1] 23 ?_; intro gb213 hg w4 hbox hb; have hv := vK HB hb; have n0_ := Am (bT hv hb); have n1_ := Am (hbox); have GW213 := kG hg hv; have GE213 := kG hg hv; clear HB; have HB := n0_; have BK213 := n1_; clear n0_ n1_ hv; clear hb hbox hg) | ((with_reducible refine gate_dst (N := 4) rfl ?_); refine bE 4 #[.int .i64 0, .int .i64 0] 23 ?_; intro gb214 hg w5 hbox hb; have hp0 := pA BK213 hb; have hv := vK HB hb; have n1_ := Am (bT hv hb); have n2_ := Am (hbox); have GW214 := kG hg hv; have GE214 := kG hg hv; have hp1 := pK BK213 hb; obtain ⟨NB213_214, NB214_213⟩ := kXY hg hp1 BK213; clear HB; replace BK213 := hp0 BK213; have HB := n1_; have BK214 := n2_; clear n1_ n2_ hp0 hp1 hv; clear hb hbox hg; have nq6 := kO NB213_214; have zq7 := c2 BK213) | ((with_reducible refine gate_callee (f := 47) rfl ?_); refine gL (some 14) Try.func47 #[.int .i64 (wrap64 (a0_0 * a1)), .int .i64 a0_1] rfl ?_; (with_reducible refine (spec_diMake.calls k (wrap64 (a0_0 * a1)) a0_1 t215 t216 t217 _ A3.out).mono ?_); rintro e w8 ⟨rfl, hb⟩; refine ⟨_, rfl, ?_⟩; have hp0 := pA BK213 hb; have hv := vK HB hb; have n2_ := Am (bT hv hb); clear HB; replace BK213 := hp0 BK213; replace BK214 := hp0 BK214; have HB := n2_; clear n2_ hp0 hv; (try clear hb)) | ((with_reducible refine gate_dst (N := 5) rfl ?_); refine bE 5 #[.int .i64 0, .int .i64 0] 23 ?_; intro gb218 hg w9 hbox hb; have hp0 := pA BK213 hb; have hv := vK HB hb; have n2_ := Am (bT hv hb); have n3_ := Am (hbox); have GW218 := kG hg hv; have GE218 := kG hg hv; have hp1 := pK BK213 hb; obtain ⟨NB213_218, NB218_213⟩ := kXY hg hp1 BK213; obtain ⟨NB214_218, NB218_214⟩ := kXY hg hp1 BK214; clear HB; replace BK213 := hp0 BK213; replace BK214 := hp0 BK214; have HB := n2_; have BK218 := n3_; clear n2_ n3_ hp0 hp1 hv; clear hb hbox hg; have nq10 := kO NB218_213; have nq11 := kO NB218_214; have hcz12_0 : w9.cell? ⟨gb218, 0, none⟩ = some (.int .i64 0) := (kC BK218.out 0).trans rfl; have hcz12_1 : w9.cell? ⟨gb218, 1, none⟩ = some (.int .i64 0) := (kC BK218.out 1).trans rfl; have hfz12_0 := kF BK218.out 0; have hfz12_1 := kF BK218.out 1; have zq13 := c2 BK214))
  refine bodyPost_ret (results_cell_row rfl _ _ gb214 23 #[.int .i64 t215, .int .i64 t216] (0, 0) _ rfl (by (with_reducible repeat (first | refine kN ?_ _ | refine kD ?_ | refine kA ?_ _)); refine kP (cs := #[.int .i64 t215, .int .i64 0]) ?_ 1 _ rfl; (with_reducible repeat (first | refine kN ?_ _ | refine kD ?_ | refine kA ?_ _)); refine kP (cs := #[.int .i64 0, .int .i64 0]) ?_ 0 _ rfl; (with_reducible repeat (first | refine kN ?_ _ | refine kD ?_ | refine kA ?_ _)); refine kR ?_ NB214_218.out _; (with_reducible repeat (first | refine kN ?_ _ | refine kD ?_ | refine kA ?_ _)); refine kR ?_ NB214_218.out _; (with_reducible repeat (first | refine kN ?_ _ | refine kD ?_ | refine kA ?_ _)); exact BK214.out) Try.underlying23 rfl (by kernel_rfl)) rfl ?_
  exact ⟨by first | rfl | (simp [errW_none, errW_some] <;> rfl) | (simp [*, errW_none, errW_some] <;> rfl), by repeat (first | (with_reducible first | exact HB.out | apply bA | apply bN | apply bD | refine bX ?_ (by assumption)) | exact HB.out)⟩
/-! ### spec_diMirror: function 46 -/
def spec_diMirror.f (k : Nat) (a0_0 : Int) (a0_1 : Int) : Option (Int × Int) := (spec_diTimes.f k a0_0 a0_1 (-1)).bind fun bt221 => (some (bt221.1, bt221.2))
theorem spec_diMirror.mono : ∀ a0 a1 k, LeO (spec_diMirror.f k a0 a1) (spec_diMirror.f (k + 1) a0 a1) := by
 intro a0 a1 k
 unfold spec_diMirror.f
 repeat' first
   | (with_reducible exact spec_diTimes.mono _ _ _ _)
   | (with_reducible exact LeO.refl _)
   | (with_reducible exact LeO.none _)
   | (with_reducible refine LeO.ite ?_ ?_)
   | (with_reducible refine LeO.bind ?_ (fun _ => ?_))
   | exact spec_diTimes.mono _ _ _ _
   | exact LeO.none _
   | refine LeO.ite ?_ ?_
   | refine LeO.bind ?_ (fun _ => ?_)
set_option maxHeartbeats 8000000 in
set_option maxRecDepth 100000 in
theorem spec_diMirror.calls (k : Nat) (a0_0 : Int) (a0_1 : Int) (r1 : Int) (r2 : Int) (w : World) (h : spec_diMirror.f k a0_0 a0_1 = some (r1, r2)) :
  Calls Try.prog 46 #[.agg #[.int .i64 a0_0, .int .i64 a0_1]] w fun e w' => e = .returned (.agg #[.int .i64 r1, .int .i64 r2]) ∧ Below w.heap.size w w' := by
 have hu23 := Try.underlying23
 have HB := Am (Below.refl w.heap.size w)
 have H : ((spec_diTimes.f k a0_0 a0_1 (-1)).bind fun bt221 => (some (bt221.1, bt221.2))) = some (r1, r2) := h
 clear h
 replace H := Option.bind_eq_some_iff.mp H
 obtain ⟨⟨t221, t222⟩, A20, H⟩ := H
 try dsimp only at H
 have A2 := Am A20
 clear A20
 focus
  simp only [Option.some.injEq, Prod.mk.injEq] at H
  obtain ⟨rfl, rfl⟩ := H
  go_enter Try.func46, Try.ntmps46
  go_wp2_with (first | ((with_reducible refine gate_dst (N := 1) rfl ?_); refine bE 1 #[.int .i64 a0_0, .int .i64 a0_1] 23 ?_; intro gb219 hg w3 hbox hb; have hv := vK HB hb; have n0_ := Am (bT hv hb); have n1_ := Am (hbox); have GW219 := kG hg hv; have GE219 := kG hg hv; clear HB; have HB := n0_; have BK219 := n1_; clear n0_ n1_ hv; clear hb hbox hg) | ((with_reducible refine gate_dst (N := 2) rfl ?_); refine bE 2 #[.int .i64 0, .int .i64 0] 23 ?_; intro gb220 hg w4 hbox hb; have hp0 := pA BK219 hb; have hv := vK HB hb; have n1_ := Am (bT hv hb); have n2_ := Am (hbox); have GW220 := kG hg hv; have GE220 := kG hg hv; have hp1 := pK BK219 hb; obtain ⟨NB219_220, NB220_219⟩ := kXY hg hp1 BK219; clear HB; replace BK219 := hp0 BK219; have HB := n1_; have BK220 := n2_; clear n1_ n2_ hp0 hp1 hv; clear hb hbox hg; have nq5 := kO NB219_220; have zq6 := c2 BK219) | ((with_reducible refine gate_callee (f := 67) rfl ?_); refine gL (some 4) Try.func67 #[.agg #[.int .i64 a0_0, .int .i64 a0_1], .int .i64 (-1)] rfl ?_; (with_reducible refine (spec_diTimes.calls k a0_0 a0_1 (-1) t221 t222 _ A2.out).mono ?_); rintro e w7 ⟨rfl, hb⟩; refine ⟨_, rfl, ?_⟩; have hp0 := pA BK219 hb; have hv := vK HB hb; have n2_ := Am (bT hv hb); clear HB; replace BK219 := hp0 BK219; replace BK220 := hp0 BK220; have HB := n2_; clear n2_ hp0 hv; (try clear hb); have zq8 := c2 BK220))
  refine bodyPost_ret (results_cell_row rfl _ _ gb220 23 #[.int .i64 t221, .int .i64 t222] (0, 0) _ rfl (by (with_reducible repeat (first | refine kN ?_ _ | refine kD ?_ | refine kA ?_ _)); refine kP (cs := #[.int .i64 t221, .int .i64 0]) ?_ 1 _ rfl; (with_reducible repeat (first | refine kN ?_ _ | refine kD ?_ | refine kA ?_ _)); refine kP (cs := #[.int .i64 0, .int .i64 0]) ?_ 0 _ rfl; (with_reducible repeat (first | refine kN ?_ _ | refine kD ?_ | refine kA ?_ _)); exact BK220.out) Try.underlying23 rfl (by kernel_rfl)) rfl ?_
  exact ⟨by first | rfl | (simp [errW_none, errW_some] <;> rfl) | (simp [*, errW_none, errW_some] <;> rfl), by repeat (first | (with_reducible first | exact HB.out | apply bA | apply bN | apply bD | refine bX ?_ (by assumption)) | exact HB.out)⟩
/-! ### spec_meTimes: function 23 -/
mutual
def spec_meTimes.j0 : Nat → Int → Int → Int → Option ((List (S23)) × Bool)
 | 0, _, _, _ => none
 | k + 1, x8, x229000, x229001 => spec_meTimes.l0 k x8 ([] : List (S23)) 0 x229000 x229001
def spec_meTimes.l0 : Nat → Int → List (S23) → Int → Int → Int → Option ((List (S23)) × Bool)
 | 0, _, _, _, _, _ => none
 | k + 1, x8, x9, x10, x229000, x229001 => if x10 < x8 then ((spec_diMake.f k (wrap64 (x229000 + (wrap64 (x10 * x229001)))) (wrap64 (x229001 * x8))).bind fun bt231 => (if bt231.2.2 = true then (if x9.length < 8796093022208 then (spec_meTimes.l0 k x8 (x9 ++ [(⟨bt231.1, bt231.2.1⟩ : S23)]) (wrap64 (x10 + 1)) x229000 x229001) else (none)) else (some (([] : List (S23)), false)))) else (some (x9, true))
end
def spec_meTimes.f (k : Nat) (a0_0 : Int) (a0_1 : Int) (a0_2 : Int) (a1_0 : Int) (a1_1 : Int) : Option ((List (S23)) × Bool) := (spec_diAdd.f k a1_0 a1_1 a0_0 a0_1 (-1)).bind fun bt225 => (if bt225.2.2 = true then (if a0_2 < 0 then ((spec_diMirror.f k bt225.1 bt225.2.1).bind fun bt229 => (spec_meTimes.j0 k (wrap64 (-a0_2)) bt229.1 bt229.2)) else (spec_meTimes.j0 k a0_2 bt225.1 bt225.2.1)) else (some (([] : List (S23)), false)))
theorem spec_meTimes.mono_l : ∀ k, (∀ y0 y1 y2, LeO (spec_meTimes.j0 k y0 y1 y2) (spec_meTimes.j0 (k + 1) y0 y1 y2)) ∧ (∀ y0 y1 y2 y3 y4, LeO (spec_meTimes.l0 k y0 y1 y2 y3 y4) (spec_meTimes.l0 (k + 1) y0 y1 y2 y3 y4))
 | 0 => ⟨fun _ _ _ r h => by simp [spec_meTimes.j0] at h, fun _ _ _ _ _ r h => by simp [spec_meTimes.l0] at h⟩
 | k + 1 => by
  obtain ⟨ih0, ih1⟩ := spec_meTimes.mono_l k
  refine ⟨?_, ?_⟩
  ·intro y0 y1 y2
   unfold spec_meTimes.j0
   repeat' first
   | (with_reducible apply ih0)
   | (with_reducible apply ih1)
   | (with_reducible exact spec_diAdd.mono _ _ _ _ _ _)
   | (with_reducible exact spec_diMake.mono _ _ _)
   | (with_reducible exact spec_diMirror.mono _ _ _)
   | (with_reducible exact LeO.refl _)
   | (with_reducible exact LeO.none _)
   | (with_reducible refine LeO.ite ?_ ?_)
   | (with_reducible refine LeO.bind ?_ (fun _ => ?_))
   | apply ih0
   | apply ih1
   | exact spec_diAdd.mono _ _ _ _ _ _
   | exact spec_diMake.mono _ _ _
   | exact spec_diMirror.mono _ _ _
   | exact LeO.none _
   | refine LeO.ite ?_ ?_
   | refine LeO.bind ?_ (fun _ => ?_)
  ·intro y0 y1 y2 y3 y4
   unfold spec_meTimes.l0
   repeat' first
   | (with_reducible apply ih0)
   | (with_reducible apply ih1)
   | (with_reducible exact spec_diAdd.mono _ _ _ _ _ _)
   | (with_reducible exact spec_diMake.mono _ _ _)
   | (with_reducible exact spec_diMirror.mono _ _ _)
   | (with_reducible exact LeO.refl _)
   | (with_reducible exact LeO.none _)
   | (with_reducible refine LeO.ite ?_ ?_)
   | (with_reducible refine LeO.bind ?_ (fun _ => ?_))
   | apply ih0
   | apply ih1
   | exact spec_diAdd.mono _ _ _ _ _ _
   | exact spec_diMake.mono _ _ _
   | exact spec_diMirror.mono _ _ _
   | exact LeO.none _
   | refine LeO.ite ?_ ?_
   | refine LeO.bind ?_ (fun _ => ?_)
theorem spec_meTimes.mono : ∀ a0 a1 a2 a3 a4 k, LeO (spec_meTimes.f k a0 a1 a2 a3 a4) (spec_meTimes.f (k + 1) a0 a1 a2 a3 a4) := by
 intro a0 a1 a2 a3 a4 k
 obtain ⟨ih0, ih1⟩ := spec_meTimes.mono_l k
 unfold spec_meTimes.f
 repeat' first
   | (with_reducible apply ih0)
   | (with_reducible apply ih1)
   | (with_reducible exact spec_diAdd.mono _ _ _ _ _ _)
   | (with_reducible exact spec_diMake.mono _ _ _)
   | (with_reducible exact spec_diMirror.mono _ _ _)
   | (with_reducible exact LeO.refl _)
   | (with_reducible exact LeO.none _)
   | (with_reducible refine LeO.ite ?_ ?_)
   | (with_reducible refine LeO.bind ?_ (fun _ => ?_))
   | apply ih0
   | apply ih1
   | exact spec_diAdd.mono _ _ _ _ _ _
   | exact spec_diMake.mono _ _ _
   | exact spec_diMirror.mono _ _ _
   | exact LeO.none _
   | refine LeO.ite ?_ ?_
   | refine LeO.bind ?_ (fun _ => ?_)
set_option maxHeartbeats 8000000 in
set_option maxRecDepth 100000 in
theorem spec_meTimes.calls (k : Nat) (a0_0 : Int) (a0_1 : Int) (a0_2 : Int) (a1_0 : Int) (a1_1 : Int) (r1 : List (S23)) (r2 : Bool) (w : World) (h : spec_meTimes.f k a0_0 a0_1 a0_2 a1_0 a1_1 = some (r1, r2)) :
  Calls Try.prog 23 #[.agg #[.int .i64 a0_0, .int .i64 a0_1, .int .i64 a0_2], .agg #[.int .i64 a1_0, .int .i64 a1_1]] w fun e w' => ∃ v0_ : Value, e = .returned (.tuple #[v0_, .bool r2]) ∧ Kd.R k23 23 w' w.heap.size (fun _ => True) v0_ r1 ∧ Below w.heap.size w w' := by
 have hu25 := Try.underlying25; have hu23 := Try.underlying23
 have HB := Am (Below.refl w.heap.size w)
 have H : ((spec_diAdd.f k a1_0 a1_1 a0_0 a0_1 (-1)).bind fun bt225 => (if bt225.2.2 = true then (if a0_2 < 0 then ((spec_diMirror.f k bt225.1 bt225.2.1).bind fun bt229 => (spec_meTimes.j0 k (wrap64 (-a0_2)) bt229.1 bt229.2)) else (spec_meTimes.j0 k a0_2 bt225.1 bt225.2.1)) else (some (([] : List (S23)), false)))) = some (r1, r2) := h
 clear h
 replace H := Option.bind_eq_some_iff.mp H
 obtain ⟨⟨t225, t226, t227⟩, A30, H⟩ := H
 try dsimp only at H
 have A3 := Am A30
 clear A30
 by_cases c4 : t227 = true
 ·subst c4
  have H1 : (if a0_2 < 0 then ((spec_diMirror.f k t225 t226).bind fun bt229 => (spec_meTimes.j0 k (wrap64 (-a0_2)) bt229.1 bt229.2)) else (spec_meTimes.j0 k a0_2 t225 t226)) = some (r1, r2) := by rw [if_pos rfl] at H; exact H
  clear H
  have H := H1
  clear H1
  have HC5 := Am H
  clear H
  go_enter Try.func23, Try.ntmps23
  go_upto_if 25 with (first | ((with_reducible refine gate_dst (N := 2) rfl ?_); refine bE 2 #[.int .i64 a0_0, .int .i64 a0_1, .int .i64 a0_2] 25 ?_; intro gb223 hg w6 hbox hb; have n0_ := Am (bT (by repeat (first | (with_reducible first | exact HB.out | apply bA | apply bN | apply bD) | exact HB.out)) hb); have n1_ := Am (hbox); have n2_ := Am ((by rw [hg]; exact (bZ (by repeat (first | (with_reducible first | exact HB.out | apply bA | apply bN | apply bD) | exact HB.out))) : w.heap.size ≤ gb223)); have n3_ := Am ((by rw [hg]; exact (bZ (by repeat (first | (with_reducible first | exact HB.out | apply bA | apply bN | apply bD) | exact HB.out))) : w.heap.size ≤ gb223)); clear HB; have HB := n0_; have BK223 := n1_; have GW223 := n2_; have GE223 := n3_; clear n0_ n1_ n2_ n3_; clear hb hbox hg) | ((with_reducible refine gate_dst (N := 3) rfl ?_); refine bE 3 #[.int .i64 a1_0, .int .i64 a1_1] 23 ?_; intro gb224 hg w7 hbox hb; have n0_ := Am (kB (g := gb223) (o := .cells #[.int .i64 a0_0, .int .i64 a0_1, .int .i64 a0_2] 25 (0, 0)) (kU BK223) hb); have n1_ := Am (bT (by repeat (first | (with_reducible first | exact HB.out | apply bA | apply bN | apply bD | refine bX ?_ (by assumption)) | exact HB.out)) hb); have n2_ := Am (hbox); have n3_ := Am ((by rw [hg]; exact (bZ (by repeat (first | (with_reducible first | exact HB.out | apply bA | apply bN | apply bD | refine bX ?_ (by assumption)) | exact HB.out))) : w.heap.size ≤ gb224)); have n4_ := Am ((by rw [hg]; exact (bZ (by repeat (first | (with_reducible first | exact HB.out | apply bA | apply bN | apply bD | refine bX ?_ (by assumption)) | exact HB.out))) : w.heap.size ≤ gb224)); have n5_ := Am ((by rw [hg]; exact Nat.ne_of_lt (kL (g := gb223) (o := .cells #[.int .i64 a0_0, .int .i64 a0_1, .int .i64 a0_2] 25 (0, 0)) (kU BK223)) : gb223 ≠ gb224)); have n6_ := Am ((by rw [hg]; exact Nat.ne_of_gt (kL (g := gb223) (o := .cells #[.int .i64 a0_0, .int .i64 a0_1, .int .i64 a0_2] 25 (0, 0)) (kU BK223)) : gb224 ≠ gb223)); clear BK223; clear HB; have BK223 := n0_; have HB := n1_; have BK224 := n2_; have GW224 := n3_; have GE224 := n4_; have NB223_224 := n5_; have NB224_223 := n6_; clear n0_ n1_ n2_ n3_ n4_ n5_ n6_; clear hb hbox hg; have nq8 := kO NB224_223; have zq9 := c2 BK224; have zq10 := c3 BK223) | ((with_reducible refine gate_callee (f := 45) rfl ?_); refine gL (some 17) Try.func45 #[.agg #[.int .i64 a1_0, .int .i64 a1_1], .agg #[.int .i64 a0_0, .int .i64 a0_1], .int .i64 (-1)] rfl ?_; (with_reducible refine (spec_diAdd.calls k a1_0 a1_1 a0_0 a0_1 (-1) t225 t226 true _ A3.out).mono ?_); rintro e w11 ⟨rfl, hb⟩; refine ⟨_, rfl, ?_⟩; have n0_ := Am (kB (g := gb223) (o := .cells #[.int .i64 a0_0, .int .i64 a0_1, .int .i64 a0_2] 25 (0, 0)) (kU BK223) hb); have n1_ := Am (kB (g := gb224) (o := .cells #[.int .i64 a1_0, .int .i64 a1_1] 23 (0, 0)) (kU BK224) hb); have n2_ := Am (bT (by repeat (first | (with_reducible first | exact HB.out | apply bA | apply bN | apply bD | refine bX ?_ (by assumption)) | exact HB.out)) hb); clear BK223; clear BK224; clear HB; have BK223 := n0_; have BK224 := n1_; have HB := n2_; clear n0_ n1_ n2_; (try clear hb); (try clear hb2); (try clear hk); (try clear hi)) | ((with_reducible refine gate_dst (N := 6) rfl ?_); refine bE 6 #[.int .i64 0, .int .i64 0] 23 ?_; intro gb228 hg w12 hbox hb; have n0_ := Am (kB (g := gb223) (o := .cells #[.int .i64 a0_0, .int .i64 a0_1, .int .i64 a0_2] 25 (0, 0)) (kU BK223) hb); have n1_ := Am (kB (g := gb224) (o := .cells #[.int .i64 a1_0, .int .i64 a1_1] 23 (0, 0)) (kU BK224) hb); have n2_ := Am (bT (by repeat (first | (with_reducible first | exact HB.out | apply bA | apply bN | apply bD | refine bX ?_ (by assumption)) | exact HB.out)) hb); have n3_ := Am (hbox); have n4_ := Am ((by rw [hg]; exact (bZ (by repeat (first | (with_reducible first | exact HB.out | apply bA | apply bN | apply bD | refine bX ?_ (by assumption)) | exact HB.out))) : w.heap.size ≤ gb228)); have n5_ := Am ((by rw [hg]; exact (bZ (by repeat (first | (with_reducible first | exact HB.out | apply bA | apply bN | apply bD | refine bX ?_ (by assumption)) | exact HB.out))) : w.heap.size ≤ gb228)); have n6_ := Am ((by rw [hg]; exact Nat.ne_of_lt (kL (g := gb223) (o := .cells #[.int .i64 a0_0, .int .i64 a0_1, .int .i64 a0_2] 25 (0, 0)) (kU BK223)) : gb223 ≠ gb228)); have n7_ := Am ((by rw [hg]; exact Nat.ne_of_gt (kL (g := gb223) (o := .cells #[.int .i64 a0_0, .int .i64 a0_1, .int .i64 a0_2] 25 (0, 0)) (kU BK223)) : gb228 ≠ gb223)); have n8_ := Am ((by rw [hg]; exact Nat.ne_of_lt (kL (g := gb224) (o := .cells #[.int .i64 a1_0, .int .i64 a1_1] 23 (0, 0)) (kU BK224)) : gb224 ≠ gb228)); have n9_ := Am ((by rw [hg]; exact Nat.ne_of_gt (kL (g := gb224) (o := .cells #[.int .i64 a1_0, .int .i64 a1_1] 23 (0, 0)) (kU BK224)) : gb228 ≠ gb224)); clear BK223; clear BK224; clear HB; have BK223 := n0_; have BK224 := n1_; have HB := n2_; have BK228 := n3_; have GW228 := n4_; have GE228 := n5_; have NB223_228 := n6_; have NB228_223 := n7_; have NB224_228 := n8_; have NB228_224 := n9_; clear n0_ n1_ n2_ n3_ n4_ n5_ n6_ n7_ n8_ n9_; clear hb hbox hg; have nq13 := kO NB228_223; have nq14 := kO NB228_224; have zq15 := c2 BK228; have zq16 := c3 BK223))
  (try simp only [Act.put, List.setIfInBounds_toArray, List.set_cons_zero, List.set_cons_succ])
  go_cut [8] (fun v8 wc => ∃ (kq : Nat) (x8_4 : Int) (x229000_4 : Int) (x229001_4 : Int), v8 = .int .i64 x8_4 ∧ Aside0 (spec_meTimes.j0 kq x8_4 x229000_4 x229001_4 = some (r1, r2)) ∧ Aside0 (kq ≤ k) ∧ Aside0 (wc.heap[gb223]? = some (.cells #[.int .i64 a0_0, .int .i64 a0_1, .int .i64 a0_2] 25 (0, 0))) ∧ Aside0 (wc.heap[gb224]? = some (.cells #[.int .i64 a1_0, .int .i64 a1_1] 23 (0, 0))) ∧ Aside0 (wc.heap[gb228]? = some (.cells #[.int .i64 x229000_4, .int .i64 x229001_4] 23 (0, 0))) ∧ Aside0 (Below w.heap.size w wc))
  case first =>
   have H := HC5.out
   clear HC5
   by_cases c17 : a0_2 < 0
   ·rw [if_pos c17] at H
    have c17b0 : decide (a0_2 < 0) = true := decide_eq_true c17
    clear c17
    (first | rw [c17b0] | (simp only [i64_w, i32_w]; rw [c17b0]) | skip)
    replace H := Option.bind_eq_some_iff.mp H
    obtain ⟨⟨t229, t230⟩, A180, H⟩ := H
    try dsimp only at H
    have A18 := Am A180
    clear A180
    focus
     have H' := Am H
     clear H
     have nq19 := kO NB228_223; have nq20 := kO NB228_224
     have zq21 := c2 BK228
     go_wp2_with (first | ((with_reducible refine gate_callee (f := 46) rfl ?_); refine gL (some 27) Try.func46 #[.agg #[.int .i64 t225, .int .i64 t226]] rfl ?_; (with_reducible refine (spec_diMirror.calls k t225 t226 t229 t230 _ A18.out).mono ?_); rintro e w22 ⟨rfl, hb⟩; refine ⟨_, rfl, ?_⟩; have hp0 := pB gb228 BK223 hb; have n2_ := Am (kB (g := gb228) (o := .cells #[.int .i64 t225, .int .i64 t226] 23 (0, 0)) (by (with_reducible repeat (first | refine kN ?_ _ | refine kD ?_ | refine kA ?_ _)); refine kP (cs := #[.int .i64 t225, .int .i64 0]) ?_ 1 _ rfl; (with_reducible repeat (first | refine kN ?_ _ | refine kD ?_ | refine kA ?_ _)); refine kP (cs := #[.int .i64 0, .int .i64 0]) ?_ 0 _ rfl; (with_reducible repeat (first | refine kN ?_ _ | refine kD ?_ | refine kA ?_ _)); exact BK228.out) hb); have hv := vK HB hb; have n3_ := Am (bT hv hb); clear BK228; clear HB; replace BK223 := hp0 NB223_228 BK223; replace BK224 := hp0 NB224_228 BK224; have BK228 := n2_; have HB := n3_; clear n2_ n3_ hp0 hv; (try clear hb); have zq23 := c2 BK228))
     go_meet
     case rel => exact ⟨_, (wrap64 (-a0_2)), (t229), (t230), (by first | rfl | (simp; done) | (simp [*]; done)), H', ⟨by first | omega | exact Nat.le_refl _⟩, ⟨by (with_reducible repeat (first | refine kN ?_ _ | refine kD ?_ | refine kA ?_ _)); refine kR ?_ NB223_228.out _; (with_reducible repeat (first | refine kN ?_ _ | refine kD ?_ | refine kA ?_ _)); refine kR ?_ NB223_228.out _; (with_reducible repeat (first | refine kN ?_ _ | refine kD ?_ | refine kA ?_ _)); exact BK223.out⟩, ⟨by (with_reducible repeat (first | refine kN ?_ _ | refine kD ?_ | refine kA ?_ _)); refine kR ?_ NB224_228.out _; (with_reducible repeat (first | refine kN ?_ _ | refine kD ?_ | refine kA ?_ _)); refine kR ?_ NB224_228.out _; (with_reducible repeat (first | refine kN ?_ _ | refine kD ?_ | refine kA ?_ _)); exact BK224.out⟩, ⟨by (with_reducible repeat (first | refine kN ?_ _ | refine kD ?_ | refine kA ?_ _)); refine kP (cs := #[.int .i64 t229, .int .i64 t226]) ?_ 1 _ rfl; (with_reducible repeat (first | refine kN ?_ _ | refine kD ?_ | refine kA ?_ _)); refine kP (cs := #[.int .i64 t225, .int .i64 t226]) ?_ 0 _ rfl; (with_reducible repeat (first | refine kN ?_ _ | refine kD ?_ | refine kA ?_ _)); exact BK228.out⟩, ⟨by repeat (first | (with_reducible first | exact HB.out | apply bA | apply bN | apply bD | refine bX ?_ (by assumption)) | exact HB.out)⟩⟩
   rw [if_neg c17] at H
   have c17b0 : decide (a0_2 < 0) = false := decide_eq_false c17
   clear c17
   (first | rw [c17b0] | (simp only [i64_w, i32_w]; rw [c17b0]) | skip)
   focus
    have H' := Am H
    clear H
    go_wp2
    go_meet
    case rel => exact ⟨_, (a0_2), (t225), (t226), (by first | rfl | (simp; done) | (simp [*]; done)), H', ⟨by first | omega | exact Nat.le_refl _⟩, ⟨by (with_reducible repeat (first | refine kN ?_ _ | refine kD ?_ | refine kA ?_ _)); refine kR ?_ NB223_228.out _; (with_reducible repeat (first | refine kN ?_ _ | refine kD ?_ | refine kA ?_ _)); refine kR ?_ NB223_228.out _; (with_reducible repeat (first | refine kN ?_ _ | refine kD ?_ | refine kA ?_ _)); exact BK223.out⟩, ⟨by (with_reducible repeat (first | refine kN ?_ _ | refine kD ?_ | refine kA ?_ _)); refine kR ?_ NB224_228.out _; (with_reducible repeat (first | refine kN ?_ _ | refine kD ?_ | refine kA ?_ _)); refine kR ?_ NB224_228.out _; (with_reducible repeat (first | refine kN ?_ _ | refine kD ?_ | refine kA ?_ _)); exact BK224.out⟩, ⟨by (with_reducible repeat (first | refine kN ?_ _ | refine kD ?_ | refine kA ?_ _)); refine kP (cs := #[.int .i64 t225, .int .i64 0]) ?_ 1 _ rfl; (with_reducible repeat (first | refine kN ?_ _ | refine kD ?_ | refine kA ?_ _)); refine kP (cs := #[.int .i64 0, .int .i64 0]) ?_ 0 _ rfl; (with_reducible repeat (first | refine kN ?_ _ | refine kD ?_ | refine kA ?_ _)); exact BK228.out⟩, ⟨by repeat (first | (with_reducible first | exact HB.out | apply bA | apply bN | apply bD | refine bX ?_ (by assumption)) | exact HB.out)⟩⟩
  clear HC5
  (try clear c4); (try clear c20); (try clear zq10); (try clear zq15); (try clear zq16); (try clear zq9)
  obtain ⟨kq, x8_4, x229000_4, x229001_4, rfl, HA, HJ4, BK223, BK224, BK228, HB⟩ := hcut
  cases kq with
  | zero => exact absurd HA.out (by simp [spec_meTimes.j0])
  | succ kj4 =>
   have H := HA.out
   clear HA
   simp only [spec_meTimes.j0] at H
   have H' := Am H
   clear H
   go_wp2
   go_loopg [9, 10] kj4 (fun kq v9 v10 w' => ∃ (x9_2 : List (S23)) (x10_2 : Int), v10 = .int .i64 x10_2 ∧ Aside0 (spec_meTimes.l0 kq x8_4 x9_2 x10_2 x229000_4 x229001_4 = some (r1, r2)) ∧ Aside0 (kq ≤ kj4) ∧ Aside0 (Kd.R k23 23 w' w.heap.size (fun k_ => k_ ≠ gb224 ∧ k_ ≠ gb228) v9 x9_2) ∧ Aside0 (w'.heap[gb223]? = some (.cells #[.int .i64 a0_0, .int .i64 a0_1, .int .i64 a0_2] 25 (0, 0))) ∧ Aside0 (w'.heap[gb224]? = some (.cells #[.int .i64 a1_0, .int .i64 a1_1] 23 (0, 0))) ∧ Aside0 (w'.heap[gb228]? = some (.cells #[.int .i64 x229000_4, .int .i64 x229001_4] 23 (0, 0))) ∧ Aside0 (Below w.heap.size w w'))
   case atStart => exact ⟨(([] : List (S23))), (0), (by first | rfl | (simp; done) | (simp [*]; done)), H', ⟨Nat.le_refl _⟩, ⟨by first | exact Kd.R_nil _ _ _ _ _ | exact Kd.N_nil _ _ _ _ _ | exact Kd.V_nil _ _ _ _ _ | exact Kd.Q_nil _ _ _ _ _ | exact Kd.S_nil _ _ _ _ _⟩, kV BK223, kV BK224, kV BK228, ⟨by repeat (first | (with_reducible first | exact HB.out | apply bA | apply bN | apply bD | refine bX ?_ (by assumption)) | exact HB.out)⟩⟩
   case round =>
    clear H'
    (try clear c4); (try clear c20); (try clear zq10); (try clear zq15); (try clear zq16); (try clear zq9)
    obtain ⟨x9_2, x10_2, rfl, HA, HK2, HO_9, BK223, BK224, BK228, HB⟩ := hrel
    cases gk with
    | zero => exact absurd HA.out (by simp [spec_meTimes.l0])
    | succ k2 =>
     have H := HA.out
     clear HA
     simp only [spec_meTimes.l0] at H
     by_cases c24 : x10_2 < x8_4
     ·rw [if_pos c24] at H
      have c24b0 : decide (x10_2 < x8_4) = true := decide_eq_true c24
      clear c24
      replace H := Option.bind_eq_some_iff.mp H
      obtain ⟨⟨t231, t232, t233⟩, A250, H⟩ := H
      try dsimp only at H
      have A25 := Am A250
      clear A250
      by_cases c26 : t233 = true
      ·subst c26
       have H1 : (if x9_2.length < 8796093022208 then (spec_meTimes.l0 k2 x8_4 (x9_2 ++ [(⟨t231, t232⟩ : S23)]) (wrap64 (x10_2 + 1)) x229000_4 x229001_4) else (none)) = some (r1, r2) := by rw [if_pos rfl] at H; exact H
       clear H
       have H := H1
       clear H1
       by_cases c27 : x9_2.length < 8796093022208
       ·rw [if_pos c27] at H
        have LMc27 := Am c27
        clear c27
        obtain ⟨y235, hy235⟩ : ∃ y_ : List (S23), y_ = (x9_2 ++ [(⟨t231, t232⟩ : S23)]) := ⟨_, rfl⟩
        replace H : (spec_meTimes.l0 k2 x8_4 y235 (wrap64 (x10_2 + 1)) x229000_4 x229001_4) = some (r1, r2) := by first | (rw [hy235]; with_reducible exact H) | (have H2_ := (Option.bind_some _ _).symm.trans H; rw [hy235]; with_reducible exact H2_) | (have H2_ := (Option.bind_some _ _).symm.trans H; with_reducible exact H2_) | with_reducible exact H | (rw [hy235]; exact H) | exact H
        have Ny235 := Am hy235
        clear hy235
        focus
         have H' := Am H
         clear H
         have nq28 := kO NB228_223; have nq29 := kO NB228_224
         have zq30 := c2 BK228
         go_wp2_with (first | ((with_reducible refine gate_callee (f := 47) rfl ?_); refine gL (some 47) Try.func47 #[.int .i64 (wrap64 (x229000_4 + (wrap64 (x10_2 * x229001_4)))), .int .i64 (wrap64 (x229001_4 * x8_4))] rfl ?_; (with_reducible refine (spec_diMake.calls k2 (wrap64 (x229000_4 + (wrap64 (x10_2 * x229001_4)))) (wrap64 (x229001_4 * x8_4)) t231 t232 true _ A25.out).mono ?_); rintro e w31 ⟨rfl, hb⟩; refine ⟨_, rfl, ?_⟩; have n0_ := Am (Kd.R_below (kW HO_9) hb); have hp0 := pA BK223 hb; have hv := vK HB hb; have n4_ := Am (bT hv hb); clear HO_9; clear HB; have HO_9 := n0_; replace BK223 := hp0 BK223; replace BK224 := hp0 BK224; replace BK228 := hp0 BK228; have HB := n4_; clear n0_ n4_ hp0 hv; (try clear hb)) | ((with_reducible refine gate_dst (N := 11) rfl ?_); refine bE 11 #[.int .i64 0, .int .i64 0] 23 ?_; intro gb234 hg w32 hbox hb; have n0_ := Am (Kd.R_below (Kd.R_elderB (kW HO_9) gb234 (Nat.le_of_eq hg.symm)) hb); have hp0 := pA BK223 hb; have hv := vK HB hb; have n4_ := Am (bT hv hb); have n5_ := Am (hbox); have GW234 := kG hg hv; have GE234 := kG hg hv; have hp1 := pK BK223 hb; obtain ⟨NB223_234, NB234_223⟩ := kXY hg hp1 BK223; obtain ⟨NB224_234, NB234_224⟩ := kXY hg hp1 BK224; obtain ⟨NB228_234, NB234_228⟩ := kXY hg hp1 BK228; clear HO_9; clear HB; have HO_9 := n0_; replace BK223 := hp0 BK223; replace BK224 := hp0 BK224; replace BK228 := hp0 BK228; have HB := n4_; have BK234 := n5_; clear n0_ n4_ n5_ hp0 hp1 hv; clear hb hbox hg; have nq33 := kO NB234_223; have nq34 := kO NB234_224; have nq35 := kO NB234_228; have zq36 := c2 BK234) | ((with_reducible refine gate_builtin (b := .append) (xs := #[.tmp 52, .tmp 54]) rfl ?_); at_builtin; refine Kd.R_append k23 (w0 := w) w.heap.size rfl (.tmp 52) (.tmp 54) 26 23 (.agg #[(.int .i64 0), (.int .i64 0)]) 16 rfl Try.underlying26 info23 rfl (by decide) (by omega) u9 x9_2 (⟨t231, t232⟩ : S23) [.int .i64 t231, .int .i64 t232] (fun k_ => k_ ≠ gb224 ∧ k_ ≠ gb228 ∧ k_ ≠ gb234) (fun _ => False) rfl (by first | (go_simp; done) | (go_simp; rfl)) ?aP (fun _ hk => hk.elim) ?aF ?aO ?aB ?aS ?aL ?_; (case aP => exact k23_mkM _ _ _ (⟨t231, t232⟩ : S23)); (case aB => exact (by repeat (first | (with_reducible first | exact HB.out | apply bA | apply bN | apply bD | refine bX ?_ (by assumption)) | exact HB.out))); (case aF => exact (fun k_ hk => ⟨Kd.freshB (g := gb224) (o := .cells #[.int .i64 a1_0, .int .i64 a1_1] 23 (0, 0)) (by (with_reducible repeat (first | refine kN ?_ _ | refine kD ?_ | refine kA ?_ _)); refine kR ?_ NB224_234.out _; (with_reducible repeat (first | refine kN ?_ _ | refine kD ?_ | refine kA ?_ _)); refine kR ?_ NB224_234.out _; (with_reducible repeat (first | refine kN ?_ _ | refine kD ?_ | refine kA ?_ _)); exact BK224.out) k_ hk, Kd.freshB (g := gb228) (o := .cells #[.int .i64 x229000_4, .int .i64 x229001_4] 23 (0, 0)) (by (with_reducible repeat (first | refine kN ?_ _ | refine kD ?_ | refine kA ?_ _)); refine kR ?_ NB228_234.out _; (with_reducible repeat (first | refine kN ?_ _ | refine kD ?_ | refine kA ?_ _)); refine kR ?_ NB228_234.out _; (with_reducible repeat (first | refine kN ?_ _ | refine kD ?_ | refine kA ?_ _)); exact BK228.out) k_ hk, Kd.freshB (g := gb234) (o := .cells #[.int .i64 t231, .int .i64 t232] 23 (0, 0)) (by (with_reducible repeat (first | refine kN ?_ _ | refine kD ?_ | refine kA ?_ _)); refine kP (cs := #[.int .i64 t231, .int .i64 0]) ?_ 1 _ rfl; (with_reducible repeat (first | refine kN ?_ _ | refine kD ?_ | refine kA ?_ _)); refine kP (cs := #[.int .i64 0, .int .i64 0]) ?_ 0 _ rfl; (with_reducible repeat (first | refine kN ?_ _ | refine kD ?_ | refine kA ?_ _)); exact BK234.out) k_ hk⟩)); (case aO => exact (by (with_reducible repeat (first | apply Kd.R_alloc | apply Kd.R_drewN | apply Kd.R_drew)); exact Kd.R_mono (Kd.R_far (p := ⟨gb234, 1, none⟩) (Kd.R_far (p := ⟨gb234, 0, none⟩) (Kd.R_mono HO_9.out (fun k_ hk => (⟨hk, hk.2⟩ : _ ∧ k_ ≠ gb234))) (fun _ hk => hk.2) (.int .i64 t231)) (fun _ hk => hk.2) (.int .i64 t232)) (fun _ hk => ⟨hk.1.1.1, ⟨hk.1.1.2, hk.1.2⟩⟩))); (case aS => exact (bZ (by repeat (first | (with_reducible first | exact HB.out | apply bA | apply bN | apply bD | refine bX ?_ (by assumption)) | exact HB.out)))); (case aL => have := LMc27.out; omega); intro v236 w37 ho hb hg hat; rw [← Ny235.out] at ho; have n0_ := Am (blk_grown (g := gb223) (o := .cells #[.int .i64 a0_0, .int .i64 a0_1, .int .i64 a0_2] 25 (0, 0)) (by (with_reducible repeat (first | refine kN ?_ _ | refine kD ?_ | refine kA ?_ _)); refine kR ?_ NB223_234.out _; (with_reducible repeat (first | refine kN ?_ _ | refine kD ?_ | refine kA ?_ _)); refine kR ?_ NB223_234.out _; (with_reducible repeat (first | refine kN ?_ _ | refine kD ?_ | refine kA ?_ _)); exact BK223.out) hg (Kd.R_ne HO_9.out BK223.out (by decide))); have n1_ := Am (blk_grown (g := gb224) (o := .cells #[.int .i64 a1_0, .int .i64 a1_1] 23 (0, 0)) (by (with_reducible repeat (first | refine kN ?_ _ | refine kD ?_ | refine kA ?_ _)); refine kR ?_ NB224_234.out _; (with_reducible repeat (first | refine kN ?_ _ | refine kD ?_ | refine kA ?_ _)); refine kR ?_ NB224_234.out _; (with_reducible repeat (first | refine kN ?_ _ | refine kD ?_ | refine kA ?_ _)); exact BK224.out) hg (Kd.R_away HO_9.out (fun _ hk => hk.1.1))); have n2_ := Am (blk_grown (g := gb228) (o := .cells #[.int .i64 x229000_4, .int .i64 x229001_4] 23 (0, 0)) (by (with_reducible repeat (first | refine kN ?_ _ | refine kD ?_ | refine kA ?_ _)); refine kR ?_ NB228_234.out _; (with_reducible repeat (first | refine kN ?_ _ | refine kD ?_ | refine kA ?_ _)); refine kR ?_ NB228_234.out _; (with_reducible repeat (first | refine kN ?_ _ | refine kD ?_ | refine kA ?_ _)); exact BK228.out) hg (Kd.R_away HO_9.out (fun _ hk => hk.1.2))); have n3_ := Am (blk_grown (g := gb234) (o := .cells #[.int .i64 t231, .int .i64 t232] 23 (0, 0)) (by (with_reducible repeat (first | refine kN ?_ _ | refine kD ?_ | refine kA ?_ _)); refine kP (cs := #[.int .i64 t231, .int .i64 0]) ?_ 1 _ rfl; (with_reducible repeat (first | refine kN ?_ _ | refine kD ?_ | refine kA ?_ _)); refine kP (cs := #[.int .i64 0, .int .i64 0]) ?_ 0 _ rfl; (with_reducible repeat (first | refine kN ?_ _ | refine kD ?_ | refine kA ?_ _)); exact BK234.out) hg (Kd.R_away HO_9.out (fun _ hk => hk.2))); have n4_ := Am (hb); have n5_ := Am (ho); clear BK223; clear BK224; clear BK228; clear BK234; clear HB; clear HO_9; have BK223 := n0_; have BK224 := n1_; have BK228 := n2_; have BK234 := n3_; have HB := n4_; have HO237 := n5_; clear n0_ n1_ n2_ n3_ n4_ n5_; clear ho hb hg hat))
         go_roundg k2
         case measure => have := HJ4.out; have := HK2.out; omega
         case rel =>
          refine ⟨(y235), (wrap64 (x10_2 + 1)), (by first | rfl | (simp; done) | (simp [*]; done)), H', ⟨by have := HJ4.out; have := HK2.out; omega⟩, ⟨by (with_reducible repeat (first | apply Kd.R_alloc | apply Kd.R_drewN | apply Kd.R_drew)); exact Kd.R_mono HO237.out (fun _ hk => ⟨hk.1, hk.2.1⟩)⟩, ⟨?_⟩, ⟨?_⟩, ⟨?_⟩, ⟨by repeat (first | (with_reducible first | exact HB.out | apply bA | apply bN | apply bD | refine bX ?_ (by assumption)) | exact HB.out)⟩⟩
          all_goals ((with_reducible repeat (first | refine kN ?_ _ | refine kD ?_ | refine kA ?_ _)); exact Aside0.out (by assumption))
       rw [if_neg c27] at H
       exact absurd H (by simp)
      replace c26 := Bool.eq_false_iff.mpr c26
      subst c26
      have H1 : (some (([] : List (S23)), false)) = some (r1, r2) := by rw [if_neg (show ¬ (false = true) by decide)] at H; exact H
      clear H
      have H := H1
      clear H1
      focus
       simp only [Option.some.injEq, Prod.mk.injEq] at H
       obtain ⟨rfl, rfl⟩ := H
       have nq38 := kO NB228_223; have nq39 := kO NB228_224
       have zq40 := c2 BK228
       go_wp2_with (first | ((with_reducible refine gate_callee (f := 47) rfl ?_); refine gL (some 47) Try.func47 #[.int .i64 (wrap64 (x229000_4 + (wrap64 (x10_2 * x229001_4)))), .int .i64 (wrap64 (x229001_4 * x8_4))] rfl ?_; (with_reducible refine (spec_diMake.calls k2 (wrap64 (x229000_4 + (wrap64 (x10_2 * x229001_4)))) (wrap64 (x229001_4 * x8_4)) t231 t232 false _ A25.out).mono ?_); rintro e w41 ⟨rfl, hb⟩; refine ⟨_, rfl, ?_⟩; have n0_ := Am (Kd.R_below (kW HO_9) hb); have hp0 := pA BK223 hb; have hv := vK HB hb; have n4_ := Am (bT hv hb); clear HO_9; clear HB; have HO_9 := n0_; replace BK223 := hp0 BK223; replace BK224 := hp0 BK224; replace BK228 := hp0 BK228; have HB := n4_; clear n0_ n4_ hp0 hv; (try clear hb)) | ((with_reducible refine gate_dst (N := 11) rfl ?_); refine bE 11 #[.int .i64 0, .int .i64 0] 23 ?_; intro gb234 hg w42 hbox hb; have n0_ := Am (Kd.R_below (Kd.R_elderB (kW HO_9) gb234 (Nat.le_of_eq hg.symm)) hb); have hp0 := pA BK223 hb; have hv := vK HB hb; have n4_ := Am (bT hv hb); have n5_ := Am (hbox); have GW234 := kG hg hv; have GE234 := kG hg hv; have hp1 := pK BK223 hb; obtain ⟨NB223_234, NB234_223⟩ := kXY hg hp1 BK223; obtain ⟨NB224_234, NB234_224⟩ := kXY hg hp1 BK224; obtain ⟨NB228_234, NB234_228⟩ := kXY hg hp1 BK228; clear HO_9; clear HB; have HO_9 := n0_; replace BK223 := hp0 BK223; replace BK224 := hp0 BK224; replace BK228 := hp0 BK228; have HB := n4_; have BK234 := n5_; clear n0_ n4_ n5_ hp0 hp1 hv; clear hb hbox hg; have nq43 := kO NB234_223; have nq44 := kO NB234_224; have nq45 := kO NB234_228; have zq46 := c2 BK234))
       go_ret2
       exact ⟨_, by first | rfl | (simp [errW_none, errW_some] <;> rfl) | (simp [*, errW_none, errW_some] <;> rfl), by first | exact Kd.R_nil _ _ _ _ _ | exact Kd.N_nil _ _ _ _ _ | exact Kd.V_nil _ _ _ _ _ | exact Kd.Q_nil _ _ _ _ _ | exact Kd.S_nil _ _ _ _ _, by repeat (first | (with_reducible first | exact HB.out | apply bA | apply bN | apply bD | refine bX ?_ (by assumption)) | exact HB.out)⟩
     rw [if_neg c24] at H
     have c24b0 : decide (x10_2 < x8_4) = false := decide_eq_false c24
     clear c24
     focus
      simp only [Option.some.injEq, Prod.mk.injEq] at H
      obtain ⟨rfl, rfl⟩ := H
      go_wp2
      go_ret2
      exact ⟨_, by first | rfl | (simp [errW_none, errW_some] <;> rfl) | (simp [*, errW_none, errW_some] <;> rfl), by (with_reducible repeat (first | apply Kd.R_alloc | apply Kd.R_drewN | apply Kd.R_drew)); exact Kd.R_mono HO_9.out (fun _ hk => trivial), by repeat (first | (with_reducible first | exact HB.out | apply bA | apply bN | apply bD | refine bX ?_ (by assumption)) | exact HB.out)⟩
 replace c4 := Bool.eq_false_iff.mpr c4
 subst c4
 have H1 : (some (([] : List (S23)), false)) = some (r1, r2) := by rw [if_neg (show ¬ (false = true) by decide)] at H; exact H
 clear H
 have H := H1
 clear H1
 focus
  simp only [Option.some.injEq, Prod.mk.injEq] at H
  obtain ⟨rfl, rfl⟩ := H
  go_enter Try.func23, Try.ntmps23
  go_wp2_with (first | ((with_reducible refine gate_dst (N := 2) rfl ?_); refine bE 2 #[.int .i64 a0_0, .int .i64 a0_1, .int .i64 a0_2] 25 ?_; intro gb223 hg w47 hbox hb; have hv := vK HB hb; have n0_ := Am (bT hv hb); have n1_ := Am (hbox); have GW223 := kG hg hv; have GE223 := kG hg hv; clear HB; have HB := n0_; have BK223 := n1_; clear n0_ n1_ hv; clear hb hbox hg) | ((with_reducible refine gate_dst (N := 3) rfl ?_); refine bE 3 #[.int .i64 a1_0, .int .i64 a1_1] 23 ?_; intro gb224 hg w48 hbox hb; have hp0 := pA BK223 hb; have hv := vK HB hb; have n1_ := Am (bT hv hb); have n2_ := Am (hbox); have GW224 := kG hg hv; have GE224 := kG hg hv; have hp1 := pK BK223 hb; obtain ⟨NB223_224, NB224_223⟩ := kXY hg hp1 BK223; clear HB; replace BK223 := hp0 BK223; have HB := n1_; have BK224 := n2_; clear n1_ n2_ hp0 hp1 hv; clear hb hbox hg; have nq49 := kO NB224_223; have zq50 := c2 BK224; have zq51 := c3 BK223) | ((with_reducible refine gate_callee (f := 45) rfl ?_); refine gL (some 17) Try.func45 #[.agg #[.int .i64 a1_0, .int .i64 a1_1], .agg #[.int .i64 a0_0, .int .i64 a0_1], .int .i64 (-1)] rfl ?_; (with_reducible refine (spec_diAdd.calls k a1_0 a1_1 a0_0 a0_1 (-1) t225 t226 false _ A3.out).mono ?_); rintro e w52 ⟨rfl, hb⟩; refine ⟨_, rfl, ?_⟩; have hp0 := pA BK223 hb; have hv := vK HB hb; have n2_ := Am (bT hv hb); clear HB; replace BK223 := hp0 BK223; replace BK224 := hp0 BK224; have HB := n2_; clear n2_ hp0 hv; (try clear hb)) | ((with_reducible refine gate_dst (N := 6) rfl ?_); refine bE 6 #[.int .i64 0, .int .i64 0] 23 ?_; intro gb228 hg w53 hbox hb; have hp0 := pA BK223 hb; have hv := vK HB hb; have n2_ := Am (bT hv hb); have n3_ := Am (hbox); have GW228 := kG hg hv; have GE228 := kG hg hv; have hp1 := pK BK223 hb; obtain ⟨NB223_228, NB228_223⟩ := kXY hg hp1 BK223; obtain ⟨NB224_228, NB228_224⟩ := kXY hg hp1 BK224; clear HB; replace BK223 := hp0 BK223; replace BK224 := hp0 BK224; have HB := n2_; have BK228 := n3_; clear n2_ n3_ hp0 hp1 hv; clear hb hbox hg; have nq54 := kO NB228_223; have nq55 := kO NB228_224; have zq56 := c2 BK228))
  go_ret2
  exact ⟨_, by first | rfl | (simp [errW_none, errW_some] <;> rfl) | (simp [*, errW_none, errW_some] <;> rfl), by first | exact Kd.R_nil _ _ _ _ _ | exact Kd.N_nil _ _ _ _ _ | exact Kd.V_nil _ _ _ _ _ | exact Kd.Q_nil _ _ _ _ _ | exact Kd.S_nil _ _ _ _ _, by repeat (first | (with_reducible first | exact HB.out | apply bA | apply bN | apply bD | refine bX ?_ (by assumption)) | exact HB.out)⟩
/-! ### spec_meRelative: function 24 -/
def spec_meRelative.f (k : Nat) (a0_0 : Int) (a0_1 : Int) (a0_2 : Int) (a1_0 : Int) (a1_1 : Int) (a1_2 : Int) : Option (Int × Int × Int) := (spec_diAdd.f k a0_0 a0_1 a1_0 a1_1 (-1)).bind fun bt241 => (some (bt241.1, bt241.2.1, wrap64 (a0_2 - a1_2)))
theorem spec_meRelative.mono : ∀ a0 a1 a2 a3 a4 a5 k, LeO (spec_meRelative.f k a0 a1 a2 a3 a4 a5) (spec_meRelative.f (k + 1) a0 a1 a2 a3 a4 a5) := by
 intro a0 a1 a2 a3 a4 a5 k
 unfold spec_meRelative.f
 repeat' first
   | (with_reducible exact spec_diAdd.mono _ _ _ _ _ _)
   | (with_reducible exact LeO.refl _)
   | (with_reducible exact LeO.none _)
   | (with_reducible refine LeO.ite ?_ ?_)
   | (with_reducible refine LeO.bind ?_ (fun _ => ?_))
   | exact spec_diAdd.mono _ _ _ _ _ _
   | exact LeO.none _
   | refine LeO.ite ?_ ?_
   | refine LeO.bind ?_ (fun _ => ?_)
set_option maxHeartbeats 8000000 in
set_option maxRecDepth 100000 in
theorem spec_meRelative.calls (k : Nat) (a0_0 : Int) (a0_1 : Int) (a0_2 : Int) (a1_0 : Int) (a1_1 : Int) (a1_2 : Int) (r1 : Int) (r2 : Int) (r3 : Int) (w : World) (h : spec_meRelative.f k a0_0 a0_1 a0_2 a1_0 a1_1 a1_2 = some (r1, r2, r3)) :
  Calls Try.prog 24 #[.agg #[.int .i64 a0_0, .int .i64 a0_1, .int .i64 a0_2], .agg #[.int .i64 a1_0, .int .i64 a1_1, .int .i64 a1_2]] w fun e w' => e = .returned (.agg #[.int .i64 r1, .int .i64 r2, .int .i64 r3]) ∧ Below w.heap.size w w' := by
 have hu25 := Try.underlying25; have hu23 := Try.underlying23
 have HB := Am (Below.refl w.heap.size w)
 have H : ((spec_diAdd.f k a0_0 a0_1 a1_0 a1_1 (-1)).bind fun bt241 => (some (bt241.1, bt241.2.1, wrap64 (a0_2 - a1_2)))) = some (r1, r2, r3) := h
 clear h
 replace H := Option.bind_eq_some_iff.mp H
 obtain ⟨⟨t241, t242, t243⟩, A30, H⟩ := H
 try dsimp only at H
 have A3 := Am A30
 clear A30
 focus
  simp only [Option.some.injEq, Prod.mk.injEq] at H
  obtain ⟨rfl, rfl, rfl⟩ := H
  go_enter Try.func24, Try.ntmps24
  go_wp2_with (first | ((with_reducible refine gate_dst (N := 2) rfl ?_); refine bE 2 #[.int .i64 a0_0, .int .i64 a0_1, .int .i64 a0_2] 25 ?_; intro gb238 hg w4 hbox hb; have hv := vK HB hb; have n0_ := Am (bT hv hb); have n1_ := Am (hbox); have GW238 := kG hg hv; have GE238 := kG hg hv; clear HB; have HB := n0_; have BK238 := n1_; clear n0_ n1_ hv; clear hb hbox hg) | ((with_reducible refine gate_dst (N := 3) rfl ?_); refine bE 3 #[.int .i64 a1_0, .int .i64 a1_1, .int .i64 a1_2] 25 ?_; intro gb239 hg w5 hbox hb; have hp0 := pA BK238 hb; have hv := vK HB hb; have n1_ := Am (bT hv hb); have n2_ := Am (hbox); have GW239 := kG hg hv; have GE239 := kG hg hv; have hp1 := pK BK238 hb; obtain ⟨NB238_239, NB239_238⟩ := kXY hg hp1 BK238; clear HB; replace BK238 := hp0 BK238; have HB := n1_; have BK239 := n2_; clear n1_ n2_ hp0 hp1 hv; clear hb hbox hg) | ((with_reducible refine gate_dst (N := 4) rfl ?_); refine bE 4 #[.int .i64 0, .int .i64 0, .int .i64 0] 25 ?_; intro gb240 hg w6 hbox hb; have hp0 := pA BK238 hb; have hv := vK HB hb; have n2_ := Am (bT hv hb); have n3_ := Am (hbox); have GW240 := kG hg hv; have GE240 := kG hg hv; have hp1 := pK BK238 hb; obtain ⟨NB238_240, NB240_238⟩ := kXY hg hp1 BK238; obtain ⟨NB239_240, NB240_239⟩ := kXY hg hp1 BK239; clear HB; replace BK238 := hp0 BK238; replace BK239 := hp0 BK239; have HB := n2_; have BK240 := n3_; clear n2_ n3_ hp0 hp1 hv; clear hb hbox hg; have nq7 := kO NB238_239; have nq8 := kO NB238_240; have zq9 := c3 BK238; have nq10 := kO NB239_240; have zq11 := c3 BK239) | ((with_reducible refine gate_callee (f := 45) rfl ?_); refine gL (some 12) Try.func45 #[.agg #[.int .i64 a0_0, .int .i64 a0_1], .agg #[.int .i64 a1_0, .int .i64 a1_1], .int .i64 (-1)] rfl ?_; (with_reducible refine (spec_diAdd.calls k a0_0 a0_1 a1_0 a1_1 (-1) t241 t242 t243 _ A3.out).mono ?_); rintro e w12 ⟨rfl, hb⟩; refine ⟨_, rfl, ?_⟩; have hp0 := pA BK238 hb; have hv := vK HB hb; have n3_ := Am (bT hv hb); clear HB; replace BK238 := hp0 BK238; replace BK239 := hp0 BK239; replace BK240 := hp0 BK240; have HB := n3_; clear n3_ hp0 hv; (try clear hb)) | ((with_reducible refine gate_dst (N := 5) rfl ?_); refine bE 5 #[.int .i64 0, .int .i64 0] 23 ?_; intro gb244 hg w13 hbox hb; have hp0 := pA BK238 hb; have hv := vK HB hb; have n3_ := Am (bT hv hb); have n4_ := Am (hbox); have GW244 := kG hg hv; have GE244 := kG hg hv; have hp1 := pK BK238 hb; obtain ⟨NB238_244, NB244_238⟩ := kXY hg hp1 BK238; obtain ⟨NB239_244, NB244_239⟩ := kXY hg hp1 BK239; obtain ⟨NB240_244, NB244_240⟩ := kXY hg hp1 BK240; clear HB; replace BK238 := hp0 BK238; replace BK239 := hp0 BK239; replace BK240 := hp0 BK240; have HB := n3_; have BK244 := n4_; clear n3_ n4_ hp0 hp1 hv; clear hb hbox hg; have nq14 := kO NB244_238; have nq15 := kO NB244_239; have nq16 := kO NB244_240; have hcz17_0 : w13.cell? ⟨gb244, 0, none⟩ = some (.int .i64 0) := (kC BK244.out 0).trans rfl; have hcz17_1 : w13.cell? ⟨gb244, 1, none⟩ = some (.int .i64 0) := (kC BK244.out 1).trans rfl; have hfz17_0 := kF BK244.out 0; have hfz17_1 := kF BK244.out 1; have zq18 := c3 BK238; have zq19 := c3 BK239; have zq20 := c3 BK240))
  refine bodyPost_ret (results_cell_row rfl _ _ gb240 25 #[.int .i64 t241, .int .i64 t242, .int .i64 (wrap64 (a0_2 - a1_2))] (0, 0) _ rfl (by (with_reducible repeat (first | refine kN ?_ _ | refine kD ?_ | refine kA ?_ _)); refine kP (cs := #[.int .i64 t241, .int .i64 t242, .int .i64 0]) ?_ 2 _ rfl; (with_reducible repeat (first | refine kN ?_ _ | refine kD ?_ | refine kA ?_ _)); refine kP (cs := #[.int .i64 t241, .int .i64 0, .int .i64 0]) ?_ 1 _ rfl; (with_reducible repeat (first | refine kN ?_ _ | refine kD ?_ | refine kA ?_ _)); refine kP (cs := #[.int .i64 0, .int .i64 0, .int .i64 0]) ?_ 0 _ rfl; (with_reducible repeat (first | refine kN ?_ _ | refine kD ?_ | refine kA ?_ _)); refine kR ?_ NB240_244.out _; (with_reducible repeat (first | refine kN ?_ _ | refine kD ?_ | refine kA ?_ _)); refine kR ?_ NB240_244.out _; (with_reducible repeat (first | refine kN ?_ _ | refine kD ?_ | refine kA ?_ _)); exact BK240.out) Try.underlying25 rfl (by kernel_rfl)) rfl ?_
  exact ⟨by first | rfl | (simp [errW_none, errW_some] <;> rfl) | (simp [*, errW_none, errW_some] <;> rfl), by repeat (first | (with_reducible first | exact HB.out | apply bA | apply bN | apply bD | refine bX ?_ (by assumption)) | exact HB.out)⟩
/-! ### spec_MeetTimes: function 5 -/
def spec_MeetTimes.f (k : Nat) (a0_0 : Int) (a0_1 : Int) (a0_2 : Int) (a1_0 : Int) (a1_1 : Int) (a1_2 : Int) : Option ((List (S23)) × Bool) := (spec_meAsked.f k a0_0 a0_1 a0_2 a1_0 a1_1 a1_2).bind fun t247 => (if t247 = true then ((spec_meRelative.f k a0_0 a0_1 a0_2 a1_0 a1_1 a1_2).bind fun bt248 => ((spec_meTimes.f k bt248.1 bt248.2.1 bt248.2.2 0 1).bind fun bt251 => (some (bt251.1, bt251.2)))) else (some (([] : List (S23)), false)))
theorem spec_MeetTimes.mono : ∀ a0 a1 a2 a3 a4 a5 k, LeO (spec_MeetTimes.f k a0 a1 a2 a3 a4 a5) (spec_MeetTimes.f (k + 1) a0 a1 a2 a3 a4 a5) := by
 intro a0 a1 a2 a3 a4 a5 k
 unfold spec_MeetTimes.f
 repeat' first
   | (with_reducible exact spec_meAsked.mono _ _ _ _ _ _ _)
   | (with_reducible exact spec_meRelative.mono _ _ _ _ _ _ _)
   | (with_reducible exact spec_meTimes.mono _ _ _ _ _ _)
   | (with_reducible exact LeO.refl _)
   | (with_reducible exact LeO.none _)
   | (with_reducible refine LeO.ite ?_ ?_)
   | (with_reducible refine LeO.bind ?_ (fun _ => ?_))
   | exact spec_meAsked.mono _ _ _ _ _ _ _
   | exact spec_meRelative.mono _ _ _ _ _ _ _
   | exact spec_meTimes.mono _ _ _ _ _ _
   | exact LeO.none _
   | refine LeO.ite ?_ ?_
   | refine LeO.bind ?_ (fun _ => ?_)
set_option maxHeartbeats 8000000 in
set_option maxRecDepth 100000 in
theorem spec_MeetTimes.calls (k : Nat) (a0_0 : Int) (a0_1 : Int) (a0_2 : Int) (a1_0 : Int) (a1_1 : Int) (a1_2 : Int) (r1 : List (S23)) (r2 : Bool) (w : World) (h : spec_MeetTimes.f k a0_0 a0_1 a0_2 a1_0 a1_1 a1_2 = some (r1, r2)) :
  Calls Try.prog 5 #[.agg #[.int .i64 a0_0, .int .i64 a0_1, .int .i64 a0_2], .agg #[.int .i64 a1_0, .int .i64 a1_1, .int .i64 a1_2]] w fun e w' => ∃ v0_ : Value, e = .returned (.tuple #[v0_, .bool r2]) ∧ Kd.R k23 23 w' w.heap.size (fun _ => True) v0_ r1 ∧ Below w.heap.size w w' := by
 have hu25 := Try.underlying25; have hu23 := Try.underlying23
 have HB := Am (Below.refl w.heap.size w)
 have H : ((spec_meAsked.f k a0_0 a0_1 a0_2 a1_0 a1_1 a1_2).bind fun t247 => (if t247 = true then ((spec_meRelative.f k a0_0 a0_1 a0_2 a1_0 a1_1 a1_2).bind fun bt248 => ((spec_meTimes.f k bt248.1 bt248.2.1 bt248.2.2 0 1).bind fun bt251 => (some (bt251.1, bt251.2)))) else (some (([] : List (S23)), false)))) = some (r1, r2) := h
 clear h
 replace H := Option.bind_eq_some_iff.mp H
 obtain ⟨t247, A30, H⟩ := H
 try dsimp only at H
 have A3 := Am A30
 clear A30
 by_cases c4 : t247 = true
 ·subst c4
  have H1 : ((spec_meRelative.f k a0_0 a0_1 a0_2 a1_0 a1_1 a1_2).bind fun bt248 => ((spec_meTimes.f k bt248.1 bt248.2.1 bt248.2.2 0 1).bind fun bt251 => (some (bt251.1, bt251.2)))) = some (r1, r2) := by rw [if_pos rfl] at H; exact H
  clear H
  have H := H1
  clear H1
  replace H := Option.bind_eq_some_iff.mp H
  obtain ⟨⟨t248, t249, t250⟩, A50, H⟩ := H
  try dsimp only at H
  have A5 := Am A50
  clear A50
  replace H := Option.bind_eq_some_iff.mp H
  obtain ⟨⟨t251, t254⟩, A60, H⟩ := H
  try dsimp only at H
  have A6 := Am A60
  clear A60
  focus
   simp only [Option.some.injEq, Prod.mk.injEq] at H
   obtain ⟨rfl, rfl⟩ := H
   go_enter Try.func5, Try.ntmps5
   go_wp2_with (first | ((with_reducible refine gate_dst (N := 2) rfl ?_); refine bE 2 #[.int .i64 a0_0, .int .i64 a0_1, .int .i64 a0_2] 25 ?_; intro gb245 hg w7 hbox hb; have hv := vK HB hb; have n0_ := Am (bT hv hb); have n1_ := Am (hbox); have GW245 := kG hg hv; have GE245 := kG hg hv; clear HB; have HB := n0_; have BK245 := n1_; clear n0_ n1_ hv; clear hb hbox hg) | ((with_reducible refine gate_dst (N := 3) rfl ?_); refine bE 3 #[.int .i64 a1_0, .int .i64 a1_1, .int .i64 a1_2] 25 ?_; intro gb246 hg w8 hbox hb; have hp0 := pA BK245 hb; have hv := vK HB hb; have n1_ := Am (bT hv hb); have n2_ := Am (hbox); have GW246 := kG hg hv; have GE246 := kG hg hv; have hp1 := pK BK245 hb; obtain ⟨NB245_246, NB246_245⟩ := kXY hg hp1 BK245; clear HB; replace BK245 := hp0 BK245; have HB := n1_; have BK246 := n2_; clear n1_ n2_ hp0 hp1 hv; clear hb hbox hg; have nq9 := kO NB245_246; have zq10 := c3 BK245; have zq11 := c3 BK246) | ((with_reducible refine gate_callee (f := 22) rfl ?_); refine gL (some 8) Try.func22 #[.agg #[.int .i64 a0_0, .int .i64 a0_1, .int .i64 a0_2], .agg #[.int .i64 a1_0, .int .i64 a1_1, .int .i64 a1_2]] rfl ?_; (with_reducible refine (spec_meAsked.calls k a0_0 a0_1 a0_2 a1_0 a1_1 a1_2 true _ A3.out).mono ?_); rintro e w12 ⟨rfl, hb⟩; refine ⟨_, rfl, ?_⟩; have hp0 := pA BK245 hb; have hv := vK HB hb; have n2_ := Am (bT hv hb); clear HB; replace BK245 := hp0 BK245; replace BK246 := hp0 BK246; have HB := n2_; clear n2_ hp0 hv; (try clear hb); have zq13 := c3 BK245; have zq14 := c3 BK246) | ((with_reducible refine gate_callee (f := 24) rfl ?_); refine gL (some 12) Try.func24 #[.agg #[.int .i64 a0_0, .int .i64 a0_1, .int .i64 a0_2], .agg #[.int .i64 a1_0, .int .i64 a1_1, .int .i64 a1_2]] rfl ?_; (with_reducible refine (spec_meRelative.calls k a0_0 a0_1 a0_2 a1_0 a1_1 a1_2 t248 t249 t250 _ A5.out).mono ?_); rintro e w15 ⟨rfl, hb⟩; refine ⟨_, rfl, ?_⟩; have hp0 := pA BK245 hb; have hv := vK HB hb; have n2_ := Am (bT hv hb); clear HB; replace BK245 := hp0 BK245; replace BK246 := hp0 BK246; have HB := n2_; clear n2_ hp0 hv; (try clear hb)) | ((with_reducible refine gate_callee (f := 23) rfl ?_); refine gL (some 14) Try.func23 #[.agg #[.int .i64 t248, .int .i64 t249, .int .i64 t250], .agg #[.int .i64 0, .int .i64 1]] rfl ?_; (with_reducible refine (spec_meTimes.calls k t248 t249 t250 0 1 t251 t254 _ A6.out).mono ?_); rintro e w16 ⟨v252, rfl, ho0, hb⟩; refine ⟨_, rfl, ?_⟩; have n0_ := Am (Kd.R_lower ho0 (bZ (by repeat (first | (with_reducible first | exact HB.out | apply bA | apply bN | apply bD | refine bX ?_ (by assumption)) | exact HB.out)))); have hp0 := pA BK245 hb; have hv := vK HB hb; have n3_ := Am (bT hv hb); clear HB; have HO253 := n0_; replace BK245 := hp0 BK245; replace BK246 := hp0 BK246; have HB := n3_; clear n0_ n3_ hp0 hv; (try clear hb); (try clear ho0)))
   go_ret2
   exact ⟨_, by first | rfl | (simp [errW_none, errW_some] <;> rfl) | (simp [*, errW_none, errW_some] <;> rfl), by (with_reducible repeat (first | apply Kd.R_alloc | apply Kd.R_drewN | apply Kd.R_drew)); exact HO253.out, by repeat (first | (with_reducible first | exact HB.out | apply bA | apply bN | apply bD | refine bX ?_ (by assumption)) | exact HB.out)⟩
 replace c4 := Bool.eq_false_iff.mpr c4
 subst c4
 have H1 : (some (([] : List (S23)), false)) = some (r1, r2) := by rw [if_neg (show ¬ (false = true) by decide)] at H; exact H
 clear H
 have H := H1
 clear H1
 focus
  simp only [Option.some.injEq, Prod.mk.injEq] at H
  obtain ⟨rfl, rfl⟩ := H
  go_enter Try.func5, Try.ntmps5
  go_wp2_with (first | ((with_reducible refine gate_dst (N := 2) rfl ?_); refine bE 2 #[.int .i64 a0_0, .int .i64 a0_1, .int .i64 a0_2] 25 ?_; intro gb245 hg w17 hbox hb; have hv := vK HB hb; have n0_ := Am (bT hv hb); have n1_ := Am (hbox); have GW245 := kG hg hv; have GE245 := kG hg hv; clear HB; have HB := n0_; have BK245 := n1_; clear n0_ n1_ hv; clear hb hbox hg) | ((with_reducible refine gate_dst (N := 3) rfl ?_); refine bE 3 #[.int .i64 a1_0, .int .i64 a1_1, .int .i64 a1_2] 25 ?_; intro gb246 hg w18 hbox hb; have hp0 := pA BK245 hb; have hv := vK HB hb; have n1_ := Am (bT hv hb); have n2_ := Am (hbox); have GW246 := kG hg hv; have GE246 := kG hg hv; have hp1 := pK BK245 hb; obtain ⟨NB245_246, NB246_245⟩ := kXY hg hp1 BK245; clear HB; replace BK245 := hp0 BK245; have HB := n1_; have BK246 := n2_; clear n1_ n2_ hp0 hp1 hv; clear hb hbox hg; have nq19 := kO NB245_246; have zq20 := c3 BK245; have zq21 := c3 BK246) | ((with_reducible refine gate_callee (f := 22) rfl ?_); refine gL (some 8) Try.func22 #[.agg #[.int .i64 a0_0, .int .i64 a0_1, .int .i64 a0_2], .agg #[.int .i64 a1_0, .int .i64 a1_1, .int .i64 a1_2]] rfl ?_; (with_reducible refine (spec_meAsked.calls k a0_0 a0_1 a0_2 a1_0 a1_1 a1_2 false _ A3.out).mono ?_); rintro e w22 ⟨rfl, hb⟩; refine ⟨_, rfl, ?_⟩; have hp0 := pA BK245 hb; have hv := vK HB hb; have n2_ := Am (bT hv hb); clear HB; replace BK245 := hp0 BK245; replace BK246 := hp0 BK246; have HB := n2_; clear n2_ hp0 hv; (try clear hb)))
  go_ret2
  exact ⟨_, by first | rfl | (simp [errW_none, errW_some] <;> rfl) | (simp [*, errW_none, errW_some] <;> rfl), by first | exact Kd.R_nil _ _ _ _ _ | exact Kd.N_nil _ _ _ _ _ | exact Kd.V_nil _ _ _ _ _ | exact Kd.Q_nil _ _ _ _ _ | exact Kd.S_nil _ _ _ _ _, by repeat (first | (with_reducible first | exact HB.out | apply bA | apply bN | apply bD | refine bX ?_ (by assumption)) | exact HB.out)⟩
end Go.Proofs.Ytbgklddlcmgakaa.PFnHandsMeetOfAll
