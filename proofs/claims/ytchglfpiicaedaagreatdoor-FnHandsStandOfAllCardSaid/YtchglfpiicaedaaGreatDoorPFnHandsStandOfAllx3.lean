-- WRITTEN BY A PROGRAM OF THIS SESSION (wip/tools): its own text, not the kit's printed one.
import Derived.Test.YtchglfpiicaedaaGreatDoorPFnHandsStandOfAllx0
import Derived.Test.YtchglfpiicaedaaGreatDoorPFnHandsStandOfAllx2
namespace Go.Proofs.YtchglfpiicaedaaGreatDoor.PFnHandsStandOfAll
open Go.RowKit Go.Proofs.YtchglfpiicaedaaGreatDoorW.PrintWords Go.Proofs.YtchglfpiicaedaaGreatDoorW.PrintLast Go.Proofs.YtchglfpiicaedaaGreatDoorW.PrintMore
attribute [local go_sem] max2_int min2_int max_two min_two max_three min_three max_four min_four   -- for this text's walks alone
set_option linter.unusedVariables false
set_option linter.unusedSimpArgs false

/-! ### spec_diMake: function 38 -/
def spec_diMake.f (k : Nat) (a0 : Int) (a1 : Int) : Option (Int × Int × Bool) := if a1 = 0 then (none) else ((spec_diCommon.f k (Int.tmod (wrap64 ((Int.tmod a0 a1) + a1)) a1) a1).bind fun t131 => (if t131 = 0 then (none) else (if (wrap64 (Int.tdiv a1 t131)) > 1000000 then (some (0, 0, false)) else (some (wrap64 (Int.tdiv (Int.tmod (wrap64 ((Int.tmod a0 a1) + a1)) a1) t131), wrap64 (Int.tdiv a1 t131), true)))))
theorem spec_diMake.mono : ∀ a0 a1 k, LeO (spec_diMake.f k a0 a1) (spec_diMake.f (k + 1) a0 a1) := by
 intro a0 a1 k
 unfold spec_diMake.f
 repeat' first
   | (with_reducible exact spec_diCommon.mono _ _ _)
   | (with_reducible exact LeO.refl _)
   | (with_reducible exact LeO.none _)
   | (with_reducible refine LeO.ite ?_ ?_)
   | (with_reducible refine LeO.bind ?_ (fun _ => ?_))
   | exact spec_diCommon.mono _ _ _
   | exact LeO.none _
   | refine LeO.ite ?_ ?_
   | refine LeO.bind ?_ (fun _ => ?_)
def spec_diMake.T3 : Bool × List (List Nat × List Nat) := (true, [([], []), ([], []), ([0, 1], [0, 1]), ([], []), ([], []), ([3, 4], [3, 4]), ([2, 5], [2, 5]), ([], []), ([7, 6, 0, 1, 2, 3, 4, 5, 6, 7], [6, 7])])
def spec_diMake.B3 : List Nat := [0, 0, 3, 0, 0, 24, 63, 0, 255]
theorem spec_diMake.tab3 : rtab .any (opsOf Tryz.f38 3) = spec_diMake.T3 := by kernel_rfl
theorem spec_diMake.bits3 : waitsOk spec_diMake.T3.2 spec_diMake.B3 = true := by kernel_rfl
set_option maxHeartbeats 8000000 in
set_option maxRecDepth 100000 in
theorem spec_diMake.calls (k : Nat) (a0 : Int) (a1 : Int) (r1 : Int) (r2 : Int) (r3 : Bool) (w : World) (h : spec_diMake.f k a0 a1 = some (r1, r2, r3)) :
  Calls Tryz.prog 38 #[.int .i64 a0, .int .i64 a1] w fun e w' => e = .returned (.tuple #[.agg #[.int .i64 r1, .int .i64 r2], .bool r3]) ∧ Below w.heap.size w w' := by
 have hu23 := Tryz.underlying23
 have HB := Am (Below.refl w.heap.size w)
 have H : (if a1 = 0 then (none) else ((spec_diCommon.f k (Int.tmod (wrap64 ((Int.tmod a0 a1) + a1)) a1) a1).bind fun t131 => (if t131 = 0 then (none) else (if (wrap64 (Int.tdiv a1 t131)) > 1000000 then (some (0, 0, false)) else (some (wrap64 (Int.tdiv (Int.tmod (wrap64 ((Int.tmod a0 a1) + a1)) a1) t131), wrap64 (Int.tdiv a1 t131), true)))))) = some (r1, r2, r3) := h
 clear h
 by_cases c3 : a1 = 0
 ·rw [if_pos c3] at H
  exact absurd H (by simp)
 rw [if_neg c3] at H
 have c3b0 : (a1 == 0) = false := beq_eq_false_iff_ne.mpr c3
 have c3b1 : (a1 != 0) = true := bne_iff_ne.mpr c3
 replace H := Option.bind_eq_some_iff.mp H
 obtain ⟨t131, A40, H⟩ := H
 try dsimp only at H
 have A4 := Am A40
 clear A40
 by_cases c5 : t131 = 0
 ·rw [if_pos c5] at H
  exact absurd H (by simp)
 rw [if_neg c5] at H
 have c5b0 : (t131 == 0) = false := beq_eq_false_iff_ne.mpr c5
 have c5b1 : (t131 != 0) = true := bne_iff_ne.mpr c5
 by_cases c6 : (wrap64 (Int.tdiv a1 t131)) > 1000000
 ·rw [if_pos c6] at H
  have c6b0 : decide (1000000 < (wrap64 (Int.tdiv a1 t131))) = true := decide_eq_true c6
  clear c6
  focus
   simp only [Option.some.injEq, Prod.mk.injEq] at H
   obtain ⟨rfl, rfl, rfl⟩ := H
   go_enter Tryz.func38, Tryz.ntmps38
   try go_wp2_with (first | ((with_reducible refine gate_dst (N := 4) rfl ?_); refine bE 4 #[.int .i64 0, .int .i64 0] 23 ?_; intro gb130 hg w7 hbox hb; have hv := vK HB hb; have n0_ := Am (bT hv hb); have n1_ := Am (hbox); have GW130 := kG hg hv; have GE130 := kG hg hv; clear HB; have HB := n0_; have BK130 := n1_; clear n0_ n1_ hv; clear hb hbox hg) | ((with_reducible refine gate_callee (f := 59) rfl ?_); refine gL (some 17) Tryz.func59 #[.int .i64 (Int.tmod (wrap64 ((Int.tmod a0 a1) + a1)) a1), .int .i64 a1] rfl ?_; (with_reducible refine (spec_diCommon.calls k (Int.tmod (wrap64 ((Int.tmod a0 a1) + a1)) a1) a1 t131 _ A4.out).mono ?_); rintro e w' ⟨rfl, ⟨nd, rfl⟩⟩; refine ⟨_, rfl, ?_⟩; (try (rw [drewN_self w7]; generalize hq_ : World.drewN w7 _ = w7; have n0_ : Aside0 (w7.heap[gb130]? = some (.cells #[.int .i64 0, .int .i64 0] 23 (0, 0))) := ⟨by rw [← hq_]; exact (kU BK130)⟩; have n1_ : Aside0 (Below w.heap.size w w7) := ⟨by rw [← hq_]; exact (by repeat (first | (with_reducible first | exact HB.out | apply bA | apply bN | apply bD | refine bX ?_ (by assumption)) | exact HB.out))⟩; clear BK130 HB hq_; have BK130 := n0_; have HB := n1_; clear n0_ n1_))))
   have n0_ := Am (kD BK130.out)
   have n1_ := Am (bD HB.out)
   clear BK130 HB
   have BK130 := n0_; have HB := n1_
   clear n0_ n1_
   refine start_ (n := 9) (S := fun w' => True) (ds := []) (pT 9 0) (by kernel_rfl) rfl rfl trivial (fun hHeld => ?_); refine with_tabW spec_diMake.tab3 spec_diMake.bits3 (fun HT_ HW_ => ?_)
   generalize w7.drew = w8 at BK130 HB hHeld ⊢
   iterate 7
    refine pI (v := ?_) (a' := ?_) rfl (any_of HT_.out (by kernel_rfl)) (fun _ _ _ h => h) (Or.inl ⟨by rfl, ?_⟩) ?_ ?_
    rotate_left
    ·intro w'
     go_simp
     with_reducible rfl
    rotate_left
    ·show Act.put _ (some _) _ = _
     simp only [Act.put, List.setIfInBounds_toArray, List.set_cons_zero, List.set_cons_succ, i64_w, i32_w]
     rfl
   refine one_ (i := 7) (N := some 7) (pT 9 8) rfl rfl (one_of HT_.out (by kernel_rfl)) (by decide) (fun K hK => ?_)
   refine box_step ?hg (N := 7) ?hd (cs := #[.int .i64 0, .int .i64 0]) (t := 23) ?hr ?_; (case hd => rfl); (case hg => rfl); (case hr => first | (go_simp; done) | (go_simp; rfl))
   intro gb132 hg w9 hbox hb
   have hp0 := pA BK130 hb
   have hv := vK HB hb
   have n1_ := Am (bT hv hb)
   have n2_ := Am (hbox)
   have GW132 := kG hg hv
   have GE132 := kG hg hv
   have hp1 := pK BK130 hb
   obtain ⟨NB130_132, NB132_130⟩ := kXY hg hp1 BK130
   clear HB
   replace BK130 := hp0 BK130
   have HB := n1_; have BK132 := n2_
   clear n1_ n2_ hp0 hp1 hv hb hbox hg
   refine hK.out _ _ trivial (fun hHeld => ?_)
   clear hK K
   refine norm_ (a' := ?_) ?_ ?_
   rotate_left
   ·show Act.put _ (some 7) _ = _
    simp only [Act.put, List.setIfInBounds_toArray, List.set_cons_zero, List.set_cons_succ, i64_w, i32_w]
    rfl
   refine one_ (i := 8) (N := none) (pT 9 9) rfl rfl (one_of HT_.out (by kernel_rfl)) (by decide) (fun K hK => ?_)
   have hs10 : w9.cell? ⟨gb132, 0, none⟩ = some (.int .i64 0) := (kC BK132.out 0).trans rfl
   have hfs10 := kF BK132.out 0
   have hns10_0 := NB130_132.out; have hms10_0 := NB132_130.out
   have hs11 : w9.cell? ⟨gb132, 1, none⟩ = some (.int .i64 0) := (kC BK132.out 1).trans rfl
   have hfs11 := kF BK132.out 1
   have hns11_0 := NB130_132.out; have hms11_0 := NB132_130.out
   refine skip_ (w1 := ?_) (by rfl) rfl ?_ ?_
   rotate_left
   ·go_simp
    rfl
   refine hK.out _ _ trivial (fun hHeld => ?_)
   clear hK K
   refine done_ (done_of HT_.out (by kernel_rfl)) ?_
   have nq12 := kO NB132_130
   have hcz13_0 : w9.cell? ⟨gb132, 0, none⟩ = some (.int .i64 0) := (kC BK132.out 0).trans rfl
   have hcz13_1 : w9.cell? ⟨gb132, 1, none⟩ = some (.int .i64 0) := (kC BK132.out 1).trans rfl
   have hfz13_0 := kF BK132.out 0
   have hfz13_1 := kF BK132.out 1
   have zq14 := zc2 BK130
   try go_wp2
   refine bodyPost_ret (results_ct rfl _ _ gb130 23 #[.int .i64 0, .int .i64 0] (0, 0) _ rfl (by (with_reducible repeat (first | refine kN ?_ _ | refine kD ?_ | refine kA ?_ _)); refine kP (cs := #[.int .i64 0, .int .i64 0]) ?_ 1 _ rfl; (with_reducible repeat (first | refine kN ?_ _ | refine kD ?_ | refine kA ?_ _)); refine kP (cs := #[.int .i64 0, .int .i64 0]) ?_ 0 _ rfl; (with_reducible repeat (first | refine kN ?_ _ | refine kD ?_ | refine kA ?_ _)); refine kR ?_ NB130_132.out _; (with_reducible repeat (first | refine kN ?_ _ | refine kD ?_ | refine kA ?_ _)); refine kR ?_ NB130_132.out _; (with_reducible repeat (first | refine kN ?_ _ | refine kD ?_ | refine kA ?_ _)); exact BK130.out) Tryz.underlying23 rfl (by kernel_rfl)) rfl ?_
   exact ⟨by first | rfl | (simp [errW_none, errW_some] <;> rfl) | (simp [*, errW_none, errW_some] <;> rfl), by repeat (first | (with_reducible first | exact HB.out | apply bA | apply bN | apply bD | refine bX ?_ (by assumption)) | exact HB.out)⟩
 rw [if_neg c6] at H
 have c6b0 : decide (1000000 < (wrap64 (Int.tdiv a1 t131))) = false := decide_eq_false c6
 clear c6
 focus
  simp only [Option.some.injEq, Prod.mk.injEq] at H
  obtain ⟨rfl, rfl, rfl⟩ := H
  go_enter Tryz.func38, Tryz.ntmps38
  try go_wp2_with (first | ((with_reducible refine gate_dst (N := 4) rfl ?_); refine bE 4 #[.int .i64 0, .int .i64 0] 23 ?_; intro gb130 hg w15 hbox hb; have hv := vK HB hb; have n0_ := Am (bT hv hb); have n1_ := Am (hbox); have GW130 := kG hg hv; have GE130 := kG hg hv; clear HB; have HB := n0_; have BK130 := n1_; clear n0_ n1_ hv; clear hb hbox hg) | ((with_reducible refine gate_callee (f := 59) rfl ?_); refine gL (some 17) Tryz.func59 #[.int .i64 (Int.tmod (wrap64 ((Int.tmod a0 a1) + a1)) a1), .int .i64 a1] rfl ?_; (with_reducible refine (spec_diCommon.calls k (Int.tmod (wrap64 ((Int.tmod a0 a1) + a1)) a1) a1 t131 _ A4.out).mono ?_); rintro e w' ⟨rfl, ⟨nd, rfl⟩⟩; refine ⟨_, rfl, ?_⟩; (try (rw [drewN_self w15]; generalize hq_ : World.drewN w15 _ = w15; have n0_ : Aside0 (w15.heap[gb130]? = some (.cells #[.int .i64 0, .int .i64 0] 23 (0, 0))) := ⟨by rw [← hq_]; exact (kU BK130)⟩; have n1_ : Aside0 (Below w.heap.size w w15) := ⟨by rw [← hq_]; exact (by repeat (first | (with_reducible first | exact HB.out | apply bA | apply bN | apply bD | refine bX ?_ (by assumption)) | exact HB.out))⟩; clear BK130 HB hq_; have BK130 := n0_; have HB := n1_; clear n0_ n1_))))
  have n0_ := Am (kD BK130.out)
  have n1_ := Am (bD HB.out)
  clear BK130 HB
  have BK130 := n0_; have HB := n1_
  clear n0_ n1_
  refine start_ (n := 9) (S := fun w' => True) (ds := []) (pT 9 0) (by kernel_rfl) rfl rfl trivial (fun hHeld => ?_); refine with_tabW spec_diMake.tab3 spec_diMake.bits3 (fun HT_ HW_ => ?_)
  generalize w15.drew = w16 at BK130 HB hHeld ⊢
  iterate 7
   refine pI (v := ?_) (a' := ?_) rfl (any_of HT_.out (by kernel_rfl)) (fun _ _ _ h => h) (Or.inl ⟨by rfl, ?_⟩) ?_ ?_
   rotate_left
   ·intro w'
    go_simp
    with_reducible rfl
   rotate_left
   ·show Act.put _ (some _) _ = _
    simp only [Act.put, List.setIfInBounds_toArray, List.set_cons_zero, List.set_cons_succ, i64_w, i32_w]
    rfl
  refine one_ (i := 7) (N := some 7) (pT 9 8) rfl rfl (one_of HT_.out (by kernel_rfl)) (by decide) (fun K hK => ?_)
  refine box_step ?hg (N := 7) ?hd (cs := #[.int .i64 0, .int .i64 0]) (t := 23) ?hr ?_; (case hd => rfl); (case hg => rfl); (case hr => first | (go_simp; done) | (go_simp; rfl))
  intro gb132 hg w17 hbox hb
  have hp0 := pA BK130 hb
  have hv := vK HB hb
  have n1_ := Am (bT hv hb)
  have n2_ := Am (hbox)
  have GW132 := kG hg hv
  have GE132 := kG hg hv
  have hp1 := pK BK130 hb
  obtain ⟨NB130_132, NB132_130⟩ := kXY hg hp1 BK130
  clear HB
  replace BK130 := hp0 BK130
  have HB := n1_; have BK132 := n2_
  clear n1_ n2_ hp0 hp1 hv hb hbox hg
  refine hK.out _ _ trivial (fun hHeld => ?_)
  clear hK K
  refine norm_ (a' := ?_) ?_ ?_
  rotate_left
  ·show Act.put _ (some 7) _ = _
   simp only [Act.put, List.setIfInBounds_toArray, List.set_cons_zero, List.set_cons_succ, i64_w, i32_w]
   rfl
  refine one_ (i := 8) (N := none) (pT 9 9) rfl rfl (one_of HT_.out (by kernel_rfl)) (by decide) (fun K hK => ?_)
  have hs18 : w17.cell? ⟨gb132, 0, none⟩ = some (.int .i64 0) := (kC BK132.out 0).trans rfl
  have hfs18 := kF BK132.out 0
  have hns18_0 := NB130_132.out; have hms18_0 := NB132_130.out
  have hs19 : w17.cell? ⟨gb132, 1, none⟩ = some (.int .i64 0) := (kC BK132.out 1).trans rfl
  have hfs19 := kF BK132.out 1
  have hns19_0 := NB130_132.out; have hms19_0 := NB132_130.out
  refine skip_ (w1 := ?_) (by rfl) rfl ?_ ?_
  rotate_left
  ·go_simp
   rfl
  refine hK.out _ _ trivial (fun hHeld => ?_)
  clear hK K
  refine done_ (done_of HT_.out (by kernel_rfl)) ?_
  have nq20 := kO NB132_130
  have hcz21_0 : w17.cell? ⟨gb132, 0, none⟩ = some (.int .i64 0) := (kC BK132.out 0).trans rfl
  have hcz21_1 : w17.cell? ⟨gb132, 1, none⟩ = some (.int .i64 0) := (kC BK132.out 1).trans rfl
  have hfz21_0 := kF BK132.out 0
  have hfz21_1 := kF BK132.out 1
  have zq22 := zc2 BK130
  try go_wp2
  refine bodyPost_ret (results_ct rfl _ _ gb130 23 #[.int .i64 (wrap64 (Int.tdiv (Int.tmod (wrap64 ((Int.tmod a0 a1) + a1)) a1) t131)), .int .i64 (wrap64 (Int.tdiv a1 t131))] (0, 0) _ rfl (by (with_reducible repeat (first | refine kN ?_ _ | refine kD ?_ | refine kA ?_ _)); refine kP (cs := #[.int .i64 (wrap64 (Int.tdiv (Int.tmod (wrap64 ((Int.tmod a0 a1) + a1)) a1) t131)), .int .i64 0]) ?_ 1 _ rfl; (with_reducible repeat (first | refine kN ?_ _ | refine kD ?_ | refine kA ?_ _)); refine kP (cs := #[.int .i64 0, .int .i64 0]) ?_ 0 _ rfl; (with_reducible repeat (first | refine kN ?_ _ | refine kD ?_ | refine kA ?_ _)); refine kR ?_ NB130_132.out _; (with_reducible repeat (first | refine kN ?_ _ | refine kD ?_ | refine kA ?_ _)); refine kR ?_ NB130_132.out _; (with_reducible repeat (first | refine kN ?_ _ | refine kD ?_ | refine kA ?_ _)); exact BK130.out) Tryz.underlying23 rfl (by kernel_rfl)) rfl ?_
  exact ⟨by first | rfl | (simp [errW_none, errW_some] <;> rfl) | (simp [*, errW_none, errW_some] <;> rfl), by repeat (first | (with_reducible first | exact HB.out | apply bA | apply bN | apply bD | refine bX ?_ (by assumption)) | exact HB.out)⟩
/-! ### spec_diTimes: function 30 -/
def spec_diTimes.f (k : Nat) (a0_0 : Int) (a0_1 : Int) (a1 : Int) : Option (Int × Int) := (spec_diMake.f k (wrap64 (a0_0 * a1)) a0_1).bind fun bt135 => (some (bt135.1, bt135.2.1))
theorem spec_diTimes.mono : ∀ a0 a1 a2 k, LeO (spec_diTimes.f k a0 a1 a2) (spec_diTimes.f (k + 1) a0 a1 a2) := by
 intro a0 a1 a2 k
 unfold spec_diTimes.f
 repeat' first
   | (with_reducible exact spec_diMake.mono _ _ _)
   | (with_reducible exact LeO.refl _)
   | (with_reducible exact LeO.none _)
   | (with_reducible refine LeO.ite ?_ ?_)
   | (with_reducible refine LeO.bind ?_ (fun _ => ?_))
   | exact spec_diMake.mono _ _ _
   | exact LeO.none _
   | refine LeO.ite ?_ ?_
   | refine LeO.bind ?_ (fun _ => ?_)
set_option maxHeartbeats 8000000 in
set_option maxRecDepth 100000 in
theorem spec_diTimes.calls (k : Nat) (a0_0 : Int) (a0_1 : Int) (a1 : Int) (r1 : Int) (r2 : Int) (w : World) (h : spec_diTimes.f k a0_0 a0_1 a1 = some (r1, r2)) :
  Calls Tryz.prog 30 #[.agg #[.int .i64 a0_0, .int .i64 a0_1], .int .i64 a1] w fun e w' => e = .returned (.agg #[.int .i64 r1, .int .i64 r2]) ∧ Below w.heap.size w w' := by
 have hu23 := Tryz.underlying23
 have HB := Am (Below.refl w.heap.size w)
 have H : ((spec_diMake.f k (wrap64 (a0_0 * a1)) a0_1).bind fun bt135 => (some (bt135.1, bt135.2.1))) = some (r1, r2) := h
 clear h
 replace H := Option.bind_eq_some_iff.mp H
 obtain ⟨⟨t135, t136, t137⟩, A30, H⟩ := H
 try dsimp only at H
 have A3 := Am A30
 clear A30
 focus
  simp only [Option.some.injEq, Prod.mk.injEq] at H
  obtain ⟨rfl, rfl⟩ := H
  go_enter Tryz.func30, Tryz.ntmps30
  go_wp2_with (first | ((with_reducible refine gate_dst (N := 2) rfl ?_); refine bE 2 #[.int .i64 a0_0, .int .i64 a0_1] 23 ?_; intro gb133 hg w4 hbox hb; have hv := vK HB hb; have n0_ := Am (bT hv hb); have n1_ := Am (hbox); have GW133 := kG hg hv; have GE133 := kG hg hv; clear HB; have HB := n0_; have BK133 := n1_; clear n0_ n1_ hv; clear hb hbox hg) | ((with_reducible refine gate_dst (N := 4) rfl ?_); refine bE 4 #[.int .i64 0, .int .i64 0] 23 ?_; intro gb134 hg w5 hbox hb; have hp0 := pA BK133 hb; have hv := vK HB hb; have n1_ := Am (bT hv hb); have n2_ := Am (hbox); have GW134 := kG hg hv; have GE134 := kG hg hv; have hp1 := pK BK133 hb; obtain ⟨NB133_134, NB134_133⟩ := kXY hg hp1 BK133; clear HB; replace BK133 := hp0 BK133; have HB := n1_; have BK134 := n2_; clear n1_ n2_ hp0 hp1 hv; clear hb hbox hg; have nq6 := kO NB133_134; have zq7 := zc2 BK133) | ((with_reducible refine gate_callee (f := 38) rfl ?_); refine gL (some 14) Tryz.func38 #[.int .i64 (wrap64 (a0_0 * a1)), .int .i64 a0_1] rfl ?_; (with_reducible refine (spec_diMake.calls k (wrap64 (a0_0 * a1)) a0_1 t135 t136 t137 _ A3.out).mono ?_); rintro e w8 ⟨rfl, hb⟩; refine ⟨_, rfl, ?_⟩; have hp0 := pA BK133 hb; have hv := vK HB hb; have n2_ := Am (bT hv hb); clear HB; replace BK133 := hp0 BK133; replace BK134 := hp0 BK134; have HB := n2_; clear n2_ hp0 hv; (try clear hb)) | ((with_reducible refine gate_dst (N := 5) rfl ?_); refine bE 5 #[.int .i64 0, .int .i64 0] 23 ?_; intro gb138 hg w9 hbox hb; have hp0 := pA BK133 hb; have hv := vK HB hb; have n2_ := Am (bT hv hb); have n3_ := Am (hbox); have GW138 := kG hg hv; have GE138 := kG hg hv; have hp1 := pK BK133 hb; obtain ⟨NB133_138, NB138_133⟩ := kXY hg hp1 BK133; obtain ⟨NB134_138, NB138_134⟩ := kXY hg hp1 BK134; clear HB; replace BK133 := hp0 BK133; replace BK134 := hp0 BK134; have HB := n2_; have BK138 := n3_; clear n2_ n3_ hp0 hp1 hv; clear hb hbox hg; have nq10 := kO NB138_133; have nq11 := kO NB138_134; have hcz12_0 : w9.cell? ⟨gb138, 0, none⟩ = some (.int .i64 0) := (kC BK138.out 0).trans rfl; have hcz12_1 : w9.cell? ⟨gb138, 1, none⟩ = some (.int .i64 0) := (kC BK138.out 1).trans rfl; have hfz12_0 := kF BK138.out 0; have hfz12_1 := kF BK138.out 1; have zq13 := zc2 BK134))
  refine bodyPost_ret (results_cell_row rfl _ _ gb134 23 #[.int .i64 t135, .int .i64 t136] (0, 0) _ rfl (by (with_reducible repeat (first | refine kN ?_ _ | refine kD ?_ | refine kA ?_ _)); refine kP (cs := #[.int .i64 t135, .int .i64 0]) ?_ 1 _ rfl; (with_reducible repeat (first | refine kN ?_ _ | refine kD ?_ | refine kA ?_ _)); refine kP (cs := #[.int .i64 0, .int .i64 0]) ?_ 0 _ rfl; (with_reducible repeat (first | refine kN ?_ _ | refine kD ?_ | refine kA ?_ _)); refine kR ?_ NB134_138.out _; (with_reducible repeat (first | refine kN ?_ _ | refine kD ?_ | refine kA ?_ _)); refine kR ?_ NB134_138.out _; (with_reducible repeat (first | refine kN ?_ _ | refine kD ?_ | refine kA ?_ _)); exact BK134.out) Tryz.underlying23 rfl (by kernel_rfl)) rfl ?_
  exact ⟨by first | rfl | (simp [errW_none, errW_some] <;> rfl) | (simp [*, errW_none, errW_some] <;> rfl), by repeat (first | (with_reducible first | exact HB.out | apply bA | apply bN | apply bD | refine bX ?_ (by assumption)) | exact HB.out)⟩
/-! ### spec_LongHand: function 5 -/
def spec_LongHand.f (k : Nat) (a0 : Int) (a1_0 : Int) (a1_1 : Int) : Option (Int × Int × Bool) := (spec_diAsked.f k a0 a1_0 a1_1).bind fun t141 => (if t141 = true then ((spec_diTimes.f k a1_0 a1_1 a0).bind fun bt142 => (some (bt142.1, bt142.2, true))) else (some (0, 0, false)))
theorem spec_LongHand.mono : ∀ a0 a1 a2 k, LeO (spec_LongHand.f k a0 a1 a2) (spec_LongHand.f (k + 1) a0 a1 a2) := by
 intro a0 a1 a2 k
 unfold spec_LongHand.f
 repeat' first
   | (with_reducible exact spec_diAsked.mono _ _ _ _)
   | (with_reducible exact spec_diTimes.mono _ _ _ _)
   | (with_reducible exact LeO.refl _)
   | (with_reducible exact LeO.none _)
   | (with_reducible refine LeO.ite ?_ ?_)
   | (with_reducible refine LeO.bind ?_ (fun _ => ?_))
   | exact spec_diAsked.mono _ _ _ _
   | exact spec_diTimes.mono _ _ _ _
   | exact LeO.none _
   | refine LeO.ite ?_ ?_
   | refine LeO.bind ?_ (fun _ => ?_)
set_option maxHeartbeats 8000000 in
set_option maxRecDepth 100000 in
theorem spec_LongHand.calls (k : Nat) (a0 : Int) (a1_0 : Int) (a1_1 : Int) (r1 : Int) (r2 : Int) (r3 : Bool) (w : World) (h : spec_LongHand.f k a0 a1_0 a1_1 = some (r1, r2, r3)) :
  Calls Tryz.prog 5 #[.int .i64 a0, .agg #[.int .i64 a1_0, .int .i64 a1_1]] w fun e w' => e = .returned (.tuple #[.agg #[.int .i64 r1, .int .i64 r2], .bool r3]) ∧ Below w.heap.size w w' := by
 have hu23 := Tryz.underlying23
 have HB := Am (Below.refl w.heap.size w)
 have H : ((spec_diAsked.f k a0 a1_0 a1_1).bind fun t141 => (if t141 = true then ((spec_diTimes.f k a1_0 a1_1 a0).bind fun bt142 => (some (bt142.1, bt142.2, true))) else (some (0, 0, false)))) = some (r1, r2, r3) := h
 clear h
 replace H := Option.bind_eq_some_iff.mp H
 obtain ⟨t141, A30, H⟩ := H
 try dsimp only at H
 have A3 := Am A30
 clear A30
 by_cases c4 : t141 = true
 ·subst c4
  have H1 : ((spec_diTimes.f k a1_0 a1_1 a0).bind fun bt142 => (some (bt142.1, bt142.2, true))) = some (r1, r2, r3) := by rw [if_pos rfl] at H; exact H
  clear H
  have H := H1
  clear H1
  replace H := Option.bind_eq_some_iff.mp H
  obtain ⟨⟨t142, t143⟩, A50, H⟩ := H
  try dsimp only at H
  have A5 := Am A50
  clear A50
  focus
   simp only [Option.some.injEq, Prod.mk.injEq] at H
   obtain ⟨rfl, rfl, rfl⟩ := H
   go_enter Tryz.func5, Tryz.ntmps5
   go_wp2_with (first | ((with_reducible refine gate_dst (N := 3) rfl ?_); refine bE 3 #[.int .i64 a1_0, .int .i64 a1_1] 23 ?_; intro gb139 hg w6 hbox hb; have hv := vK HB hb; have n0_ := Am (bT hv hb); have n1_ := Am (hbox); have GW139 := kG hg hv; have GE139 := kG hg hv; clear HB; have HB := n0_; have BK139 := n1_; clear n0_ n1_ hv; clear hb hbox hg) | ((with_reducible refine gate_dst (N := 4) rfl ?_); refine bE 4 #[.int .i64 0, .int .i64 0] 23 ?_; intro gb140 hg w7 hbox hb; have hp0 := pA BK139 hb; have hv := vK HB hb; have n1_ := Am (bT hv hb); have n2_ := Am (hbox); have GW140 := kG hg hv; have GE140 := kG hg hv; have hp1 := pK BK139 hb; obtain ⟨NB139_140, NB140_139⟩ := kXY hg hp1 BK139; clear HB; replace BK139 := hp0 BK139; have HB := n1_; have BK140 := n2_; clear n1_ n2_ hp0 hp1 hv; clear hb hbox hg; have nq8 := kO NB139_140; have zq9 := zc2 BK139) | ((with_reducible refine gate_callee (f := 29) rfl ?_); refine gL (some 8) Tryz.func29 #[.int .i64 a0, .agg #[.int .i64 a1_0, .int .i64 a1_1]] rfl ?_; (with_reducible refine (spec_diAsked.calls k a0 a1_0 a1_1 true _ A3.out).mono ?_); rintro e w10 ⟨rfl, hb⟩; refine ⟨_, rfl, ?_⟩; have hp0 := pA BK139 hb; have hv := vK HB hb; have n2_ := Am (bT hv hb); clear HB; replace BK139 := hp0 BK139; replace BK140 := hp0 BK140; have HB := n2_; clear n2_ hp0 hv; (try clear hb); have zq11 := zc2 BK139) | ((with_reducible refine gate_callee (f := 30) rfl ?_); refine gL (some 13) Tryz.func30 #[.agg #[.int .i64 a1_0, .int .i64 a1_1], .int .i64 a0] rfl ?_; (with_reducible refine (spec_diTimes.calls k a1_0 a1_1 a0 t142 t143 _ A5.out).mono ?_); rintro e w12 ⟨rfl, hb⟩; refine ⟨_, rfl, ?_⟩; have hp0 := pA BK139 hb; have hv := vK HB hb; have n2_ := Am (bT hv hb); clear HB; replace BK139 := hp0 BK139; replace BK140 := hp0 BK140; have HB := n2_; clear n2_ hp0 hv; (try clear hb); have zq13 := zc2 BK140))
   refine bodyPost_ret (results_ct rfl _ _ gb140 23 #[.int .i64 t142, .int .i64 t143] (0, 0) _ rfl (by (with_reducible repeat (first | refine kN ?_ _ | refine kD ?_ | refine kA ?_ _)); refine kP (cs := #[.int .i64 t142, .int .i64 0]) ?_ 1 _ rfl; (with_reducible repeat (first | refine kN ?_ _ | refine kD ?_ | refine kA ?_ _)); refine kP (cs := #[.int .i64 0, .int .i64 0]) ?_ 0 _ rfl; (with_reducible repeat (first | refine kN ?_ _ | refine kD ?_ | refine kA ?_ _)); exact BK140.out) Tryz.underlying23 rfl (by kernel_rfl)) rfl ?_
   exact ⟨by first | rfl | (simp [errW_none, errW_some] <;> rfl) | (simp [*, errW_none, errW_some] <;> rfl), by repeat (first | (with_reducible first | exact HB.out | apply bA | apply bN | apply bD | refine bX ?_ (by assumption)) | exact HB.out)⟩
 replace c4 := Bool.eq_false_iff.mpr c4
 subst c4
 have H1 : (some (0, 0, false)) = some (r1, r2, r3) := by rw [if_neg (show ¬ (false = true) by decide)] at H; exact H
 clear H
 have H := H1
 clear H1
 focus
  simp only [Option.some.injEq, Prod.mk.injEq] at H
  obtain ⟨rfl, rfl, rfl⟩ := H
  go_enter Tryz.func5, Tryz.ntmps5
  go_wp2_with (first | ((with_reducible refine gate_dst (N := 3) rfl ?_); refine bE 3 #[.int .i64 a1_0, .int .i64 a1_1] 23 ?_; intro gb139 hg w14 hbox hb; have hv := vK HB hb; have n0_ := Am (bT hv hb); have n1_ := Am (hbox); have GW139 := kG hg hv; have GE139 := kG hg hv; clear HB; have HB := n0_; have BK139 := n1_; clear n0_ n1_ hv; clear hb hbox hg) | ((with_reducible refine gate_dst (N := 4) rfl ?_); refine bE 4 #[.int .i64 0, .int .i64 0] 23 ?_; intro gb140 hg w15 hbox hb; have hp0 := pA BK139 hb; have hv := vK HB hb; have n1_ := Am (bT hv hb); have n2_ := Am (hbox); have GW140 := kG hg hv; have GE140 := kG hg hv; have hp1 := pK BK139 hb; obtain ⟨NB139_140, NB140_139⟩ := kXY hg hp1 BK139; clear HB; replace BK139 := hp0 BK139; have HB := n1_; have BK140 := n2_; clear n1_ n2_ hp0 hp1 hv; clear hb hbox hg; have nq16 := kO NB139_140; have zq17 := zc2 BK139) | ((with_reducible refine gate_callee (f := 29) rfl ?_); refine gL (some 8) Tryz.func29 #[.int .i64 a0, .agg #[.int .i64 a1_0, .int .i64 a1_1]] rfl ?_; (with_reducible refine (spec_diAsked.calls k a0 a1_0 a1_1 false _ A3.out).mono ?_); rintro e w18 ⟨rfl, hb⟩; refine ⟨_, rfl, ?_⟩; have hp0 := pA BK139 hb; have hv := vK HB hb; have n2_ := Am (bT hv hb); clear HB; replace BK139 := hp0 BK139; replace BK140 := hp0 BK140; have HB := n2_; clear n2_ hp0 hv; (try clear hb); have zq19 := zc2 BK140))
  refine bodyPost_ret (results_ct rfl _ _ gb140 23 #[.int .i64 0, .int .i64 0] (0, 0) _ rfl (by (with_reducible repeat (first | refine kN ?_ _ | refine kD ?_ | refine kA ?_ _)); refine kP (cs := #[.int .i64 0, .int .i64 0]) ?_ 1 _ rfl; (with_reducible repeat (first | refine kN ?_ _ | refine kD ?_ | refine kA ?_ _)); refine kP (cs := #[.int .i64 0, .int .i64 0]) ?_ 0 _ rfl; (with_reducible repeat (first | refine kN ?_ _ | refine kD ?_ | refine kA ?_ _)); exact BK140.out) Tryz.underlying23 rfl (by kernel_rfl)) rfl ?_
  exact ⟨by first | rfl | (simp [errW_none, errW_some] <;> rfl) | (simp [*, errW_none, errW_some] <;> rfl), by repeat (first | (with_reducible first | exact HB.out | apply bA | apply bN | apply bD | refine bX ?_ (by assumption)) | exact HB.out)⟩
/-! ### impl_AngleOf: function 6 -/
def impl_AngleOf.f (k : Nat) (a0 : Int) (a1_0 : Int) (a1_1 : Int) : Option (Int × Int × Bool) := (impl_isTime.f k a0 a1_0 a1_1).bind fun t146 => (if t146 = true then ((impl_Turn_times.f k a1_0 a1_1 (wrap64 (a0 - 1))).bind fun bt147 => (some (bt147.1, bt147.2, true))) else (some (0, 0, false)))
theorem impl_AngleOf.mono : ∀ a0 a1 a2 k, LeO (impl_AngleOf.f k a0 a1 a2) (impl_AngleOf.f (k + 1) a0 a1 a2) := by
 intro a0 a1 a2 k
 unfold impl_AngleOf.f
 repeat' first
   | (with_reducible exact impl_Turn_times.mono _ _ _ _)
   | (with_reducible exact impl_isTime.mono _ _ _ _)
   | (with_reducible exact LeO.refl _)
   | (with_reducible exact LeO.none _)
   | (with_reducible refine LeO.ite ?_ ?_)
   | (with_reducible refine LeO.bind ?_ (fun _ => ?_))
   | exact impl_Turn_times.mono _ _ _ _
   | exact impl_isTime.mono _ _ _ _
   | exact LeO.none _
   | refine LeO.ite ?_ ?_
   | refine LeO.bind ?_ (fun _ => ?_)
set_option maxHeartbeats 8000000 in
set_option maxRecDepth 100000 in
theorem impl_AngleOf.calls (k : Nat) (a0 : Int) (a1_0 : Int) (a1_1 : Int) (r1 : Int) (r2 : Int) (r3 : Bool) (w : World) (h : impl_AngleOf.f k a0 a1_0 a1_1 = some (r1, r2, r3)) :
  Calls Tryz.prog 6 #[.int .i64 a0, .agg #[.int .i64 a1_0, .int .i64 a1_1]] w fun e w' => e = .returned (.tuple #[.agg #[.int .i64 r1, .int .i64 r2], .bool r3]) ∧ Below w.heap.size w w' := by
 have hu23 := Tryz.underlying23
 have HB := Am (Below.refl w.heap.size w)
 have H : ((impl_isTime.f k a0 a1_0 a1_1).bind fun t146 => (if t146 = true then ((impl_Turn_times.f k a1_0 a1_1 (wrap64 (a0 - 1))).bind fun bt147 => (some (bt147.1, bt147.2, true))) else (some (0, 0, false)))) = some (r1, r2, r3) := h
 clear h
 replace H := Option.bind_eq_some_iff.mp H
 obtain ⟨t146, A30, H⟩ := H
 try dsimp only at H
 have A3 := Am A30
 clear A30
 by_cases c4 : t146 = true
 ·subst c4
  have H1 : ((impl_Turn_times.f k a1_0 a1_1 (wrap64 (a0 - 1))).bind fun bt147 => (some (bt147.1, bt147.2, true))) = some (r1, r2, r3) := by rw [if_pos rfl] at H; exact H
  clear H
  have H := H1
  clear H1
  replace H := Option.bind_eq_some_iff.mp H
  obtain ⟨⟨t147, t148⟩, A50, H⟩ := H
  try dsimp only at H
  have A5 := Am A50
  clear A50
  focus
   simp only [Option.some.injEq, Prod.mk.injEq] at H
   obtain ⟨rfl, rfl, rfl⟩ := H
   go_enter Tryz.func6, Tryz.ntmps6
   go_wp2_with (first | ((with_reducible refine gate_dst (N := 3) rfl ?_); refine bE 3 #[.int .i64 a1_0, .int .i64 a1_1] 23 ?_; intro gb144 hg w6 hbox hb; have hv := vK HB hb; have n0_ := Am (bT hv hb); have n1_ := Am (hbox); have GW144 := kG hg hv; have GE144 := kG hg hv; clear HB; have HB := n0_; have BK144 := n1_; clear n0_ n1_ hv; clear hb hbox hg) | ((with_reducible refine gate_dst (N := 4) rfl ?_); refine bE 4 #[.int .i64 0, .int .i64 0] 23 ?_; intro gb145 hg w7 hbox hb; have hp0 := pA BK144 hb; have hv := vK HB hb; have n1_ := Am (bT hv hb); have n2_ := Am (hbox); have GW145 := kG hg hv; have GE145 := kG hg hv; have hp1 := pK BK144 hb; obtain ⟨NB144_145, NB145_144⟩ := kXY hg hp1 BK144; clear HB; replace BK144 := hp0 BK144; have HB := n1_; have BK145 := n2_; clear n1_ n2_ hp0 hp1 hv; clear hb hbox hg; have nq8 := kO NB144_145; have zq9 := zc2 BK144) | ((with_reducible refine gate_callee (f := 27) rfl ?_); refine gL (some 8) Tryz.func27 #[.int .i64 a0, .agg #[.int .i64 a1_0, .int .i64 a1_1]] rfl ?_; (with_reducible refine (impl_isTime.calls k a0 a1_0 a1_1 true _ A3.out).mono ?_); rintro e w10 ⟨rfl, hb⟩; refine ⟨_, rfl, ?_⟩; have hp0 := pA BK144 hb; have hv := vK HB hb; have n2_ := Am (bT hv hb); clear HB; replace BK144 := hp0 BK144; replace BK145 := hp0 BK145; have HB := n2_; clear n2_ hp0 hv; (try clear hb); have zq11 := zc2 BK144) | ((with_reducible refine gate_callee (f := 28) rfl ?_); refine gL (some 14) Tryz.func28 #[.agg #[.int .i64 a1_0, .int .i64 a1_1], .int .i64 (wrap64 (a0 - 1))] rfl ?_; (with_reducible refine (impl_Turn_times.calls k a1_0 a1_1 (wrap64 (a0 - 1)) t147 t148 _ A5.out).mono ?_); rintro e w12 ⟨rfl, hb⟩; refine ⟨_, rfl, ?_⟩; have hp0 := pA BK144 hb; have hv := vK HB hb; have n2_ := Am (bT hv hb); clear HB; replace BK144 := hp0 BK144; replace BK145 := hp0 BK145; have HB := n2_; clear n2_ hp0 hv; (try clear hb); have zq13 := zc2 BK145))
   refine bodyPost_ret (results_ct rfl _ _ gb145 23 #[.int .i64 t147, .int .i64 t148] (0, 0) _ rfl (by (with_reducible repeat (first | refine kN ?_ _ | refine kD ?_ | refine kA ?_ _)); refine kP (cs := #[.int .i64 t147, .int .i64 0]) ?_ 1 _ rfl; (with_reducible repeat (first | refine kN ?_ _ | refine kD ?_ | refine kA ?_ _)); refine kP (cs := #[.int .i64 0, .int .i64 0]) ?_ 0 _ rfl; (with_reducible repeat (first | refine kN ?_ _ | refine kD ?_ | refine kA ?_ _)); exact BK145.out) Tryz.underlying23 rfl (by kernel_rfl)) rfl ?_
   exact ⟨by first | rfl | (simp [errW_none, errW_some] <;> rfl) | (simp [*, errW_none, errW_some] <;> rfl), by repeat (first | (with_reducible first | exact HB.out | apply bA | apply bN | apply bD | refine bX ?_ (by assumption)) | exact HB.out)⟩
 replace c4 := Bool.eq_false_iff.mpr c4
 subst c4
 have H1 : (some (0, 0, false)) = some (r1, r2, r3) := by rw [if_neg (show ¬ (false = true) by decide)] at H; exact H
 clear H
 have H := H1
 clear H1
 focus
  simp only [Option.some.injEq, Prod.mk.injEq] at H
  obtain ⟨rfl, rfl, rfl⟩ := H
  go_enter Tryz.func6, Tryz.ntmps6
  go_wp2_with (first | ((with_reducible refine gate_dst (N := 3) rfl ?_); refine bE 3 #[.int .i64 a1_0, .int .i64 a1_1] 23 ?_; intro gb144 hg w14 hbox hb; have hv := vK HB hb; have n0_ := Am (bT hv hb); have n1_ := Am (hbox); have GW144 := kG hg hv; have GE144 := kG hg hv; clear HB; have HB := n0_; have BK144 := n1_; clear n0_ n1_ hv; clear hb hbox hg) | ((with_reducible refine gate_dst (N := 4) rfl ?_); refine bE 4 #[.int .i64 0, .int .i64 0] 23 ?_; intro gb145 hg w15 hbox hb; have hp0 := pA BK144 hb; have hv := vK HB hb; have n1_ := Am (bT hv hb); have n2_ := Am (hbox); have GW145 := kG hg hv; have GE145 := kG hg hv; have hp1 := pK BK144 hb; obtain ⟨NB144_145, NB145_144⟩ := kXY hg hp1 BK144; clear HB; replace BK144 := hp0 BK144; have HB := n1_; have BK145 := n2_; clear n1_ n2_ hp0 hp1 hv; clear hb hbox hg; have nq16 := kO NB144_145; have zq17 := zc2 BK144) | ((with_reducible refine gate_callee (f := 27) rfl ?_); refine gL (some 8) Tryz.func27 #[.int .i64 a0, .agg #[.int .i64 a1_0, .int .i64 a1_1]] rfl ?_; (with_reducible refine (impl_isTime.calls k a0 a1_0 a1_1 false _ A3.out).mono ?_); rintro e w18 ⟨rfl, hb⟩; refine ⟨_, rfl, ?_⟩; have hp0 := pA BK144 hb; have hv := vK HB hb; have n2_ := Am (bT hv hb); clear HB; replace BK144 := hp0 BK144; replace BK145 := hp0 BK145; have HB := n2_; clear n2_ hp0 hv; (try clear hb); have zq19 := zc2 BK145))
  refine bodyPost_ret (results_ct rfl _ _ gb145 23 #[.int .i64 0, .int .i64 0] (0, 0) _ rfl (by (with_reducible repeat (first | refine kN ?_ _ | refine kD ?_ | refine kA ?_ _)); refine kP (cs := #[.int .i64 0, .int .i64 0]) ?_ 1 _ rfl; (with_reducible repeat (first | refine kN ?_ _ | refine kD ?_ | refine kA ?_ _)); refine kP (cs := #[.int .i64 0, .int .i64 0]) ?_ 0 _ rfl; (with_reducible repeat (first | refine kN ?_ _ | refine kD ?_ | refine kA ?_ _)); exact BK145.out) Tryz.underlying23 rfl (by kernel_rfl)) rfl ?_
  exact ⟨by first | rfl | (simp [errW_none, errW_some] <;> rfl) | (simp [*, errW_none, errW_some] <;> rfl), by repeat (first | (with_reducible first | exact HB.out | apply bA | apply bN | apply bD | refine bX ?_ (by assumption)) | exact HB.out)⟩
/-! ### spec_AngleOf: function 7 -/
def spec_AngleOf.f (k : Nat) (a0 : Int) (a1_0 : Int) (a1_1 : Int) : Option (Int × Int × Bool) := (spec_diAsked.f k a0 a1_0 a1_1).bind fun t151 => (if t151 = true then ((spec_diTimes.f k a1_0 a1_1 (wrap64 (a0 - 1))).bind fun bt152 => (some (bt152.1, bt152.2, true))) else (some (0, 0, false)))
theorem spec_AngleOf.mono : ∀ a0 a1 a2 k, LeO (spec_AngleOf.f k a0 a1 a2) (spec_AngleOf.f (k + 1) a0 a1 a2) := by
 intro a0 a1 a2 k
 unfold spec_AngleOf.f
 repeat' first
   | (with_reducible exact spec_diAsked.mono _ _ _ _)
   | (with_reducible exact spec_diTimes.mono _ _ _ _)
   | (with_reducible exact LeO.refl _)
   | (with_reducible exact LeO.none _)
   | (with_reducible refine LeO.ite ?_ ?_)
   | (with_reducible refine LeO.bind ?_ (fun _ => ?_))
   | exact spec_diAsked.mono _ _ _ _
   | exact spec_diTimes.mono _ _ _ _
   | exact LeO.none _
   | refine LeO.ite ?_ ?_
   | refine LeO.bind ?_ (fun _ => ?_)
set_option maxHeartbeats 8000000 in
set_option maxRecDepth 100000 in
theorem spec_AngleOf.calls (k : Nat) (a0 : Int) (a1_0 : Int) (a1_1 : Int) (r1 : Int) (r2 : Int) (r3 : Bool) (w : World) (h : spec_AngleOf.f k a0 a1_0 a1_1 = some (r1, r2, r3)) :
  Calls Tryz.prog 7 #[.int .i64 a0, .agg #[.int .i64 a1_0, .int .i64 a1_1]] w fun e w' => e = .returned (.tuple #[.agg #[.int .i64 r1, .int .i64 r2], .bool r3]) ∧ Below w.heap.size w w' := by
 have hu23 := Tryz.underlying23
 have HB := Am (Below.refl w.heap.size w)
 have H : ((spec_diAsked.f k a0 a1_0 a1_1).bind fun t151 => (if t151 = true then ((spec_diTimes.f k a1_0 a1_1 (wrap64 (a0 - 1))).bind fun bt152 => (some (bt152.1, bt152.2, true))) else (some (0, 0, false)))) = some (r1, r2, r3) := h
 clear h
 replace H := Option.bind_eq_some_iff.mp H
 obtain ⟨t151, A30, H⟩ := H
 try dsimp only at H
 have A3 := Am A30
 clear A30
 by_cases c4 : t151 = true
 ·subst c4
  have H1 : ((spec_diTimes.f k a1_0 a1_1 (wrap64 (a0 - 1))).bind fun bt152 => (some (bt152.1, bt152.2, true))) = some (r1, r2, r3) := by rw [if_pos rfl] at H; exact H
  clear H
  have H := H1
  clear H1
  replace H := Option.bind_eq_some_iff.mp H
  obtain ⟨⟨t152, t153⟩, A50, H⟩ := H
  try dsimp only at H
  have A5 := Am A50
  clear A50
  focus
   simp only [Option.some.injEq, Prod.mk.injEq] at H
   obtain ⟨rfl, rfl, rfl⟩ := H
   go_enter Tryz.func7, Tryz.ntmps7
   go_wp2_with (first | ((with_reducible refine gate_dst (N := 3) rfl ?_); refine bE 3 #[.int .i64 a1_0, .int .i64 a1_1] 23 ?_; intro gb149 hg w6 hbox hb; have hv := vK HB hb; have n0_ := Am (bT hv hb); have n1_ := Am (hbox); have GW149 := kG hg hv; have GE149 := kG hg hv; clear HB; have HB := n0_; have BK149 := n1_; clear n0_ n1_ hv; clear hb hbox hg) | ((with_reducible refine gate_dst (N := 4) rfl ?_); refine bE 4 #[.int .i64 0, .int .i64 0] 23 ?_; intro gb150 hg w7 hbox hb; have hp0 := pA BK149 hb; have hv := vK HB hb; have n1_ := Am (bT hv hb); have n2_ := Am (hbox); have GW150 := kG hg hv; have GE150 := kG hg hv; have hp1 := pK BK149 hb; obtain ⟨NB149_150, NB150_149⟩ := kXY hg hp1 BK149; clear HB; replace BK149 := hp0 BK149; have HB := n1_; have BK150 := n2_; clear n1_ n2_ hp0 hp1 hv; clear hb hbox hg; have nq8 := kO NB149_150; have zq9 := zc2 BK149) | ((with_reducible refine gate_callee (f := 29) rfl ?_); refine gL (some 8) Tryz.func29 #[.int .i64 a0, .agg #[.int .i64 a1_0, .int .i64 a1_1]] rfl ?_; (with_reducible refine (spec_diAsked.calls k a0 a1_0 a1_1 true _ A3.out).mono ?_); rintro e w10 ⟨rfl, hb⟩; refine ⟨_, rfl, ?_⟩; have hp0 := pA BK149 hb; have hv := vK HB hb; have n2_ := Am (bT hv hb); clear HB; replace BK149 := hp0 BK149; replace BK150 := hp0 BK150; have HB := n2_; clear n2_ hp0 hv; (try clear hb); have zq11 := zc2 BK149) | ((with_reducible refine gate_callee (f := 30) rfl ?_); refine gL (some 14) Tryz.func30 #[.agg #[.int .i64 a1_0, .int .i64 a1_1], .int .i64 (wrap64 (a0 - 1))] rfl ?_; (with_reducible refine (spec_diTimes.calls k a1_0 a1_1 (wrap64 (a0 - 1)) t152 t153 _ A5.out).mono ?_); rintro e w12 ⟨rfl, hb⟩; refine ⟨_, rfl, ?_⟩; have hp0 := pA BK149 hb; have hv := vK HB hb; have n2_ := Am (bT hv hb); clear HB; replace BK149 := hp0 BK149; replace BK150 := hp0 BK150; have HB := n2_; clear n2_ hp0 hv; (try clear hb); have zq13 := zc2 BK150))
   refine bodyPost_ret (results_ct rfl _ _ gb150 23 #[.int .i64 t152, .int .i64 t153] (0, 0) _ rfl (by (with_reducible repeat (first | refine kN ?_ _ | refine kD ?_ | refine kA ?_ _)); refine kP (cs := #[.int .i64 t152, .int .i64 0]) ?_ 1 _ rfl; (with_reducible repeat (first | refine kN ?_ _ | refine kD ?_ | refine kA ?_ _)); refine kP (cs := #[.int .i64 0, .int .i64 0]) ?_ 0 _ rfl; (with_reducible repeat (first | refine kN ?_ _ | refine kD ?_ | refine kA ?_ _)); exact BK150.out) Tryz.underlying23 rfl (by kernel_rfl)) rfl ?_
   exact ⟨by first | rfl | (simp [errW_none, errW_some] <;> rfl) | (simp [*, errW_none, errW_some] <;> rfl), by repeat (first | (with_reducible first | exact HB.out | apply bA | apply bN | apply bD | refine bX ?_ (by assumption)) | exact HB.out)⟩
 replace c4 := Bool.eq_false_iff.mpr c4
 subst c4
 have H1 : (some (0, 0, false)) = some (r1, r2, r3) := by rw [if_neg (show ¬ (false = true) by decide)] at H; exact H
 clear H
 have H := H1
 clear H1
 focus
  simp only [Option.some.injEq, Prod.mk.injEq] at H
  obtain ⟨rfl, rfl, rfl⟩ := H
  go_enter Tryz.func7, Tryz.ntmps7
  go_wp2_with (first | ((with_reducible refine gate_dst (N := 3) rfl ?_); refine bE 3 #[.int .i64 a1_0, .int .i64 a1_1] 23 ?_; intro gb149 hg w14 hbox hb; have hv := vK HB hb; have n0_ := Am (bT hv hb); have n1_ := Am (hbox); have GW149 := kG hg hv; have GE149 := kG hg hv; clear HB; have HB := n0_; have BK149 := n1_; clear n0_ n1_ hv; clear hb hbox hg) | ((with_reducible refine gate_dst (N := 4) rfl ?_); refine bE 4 #[.int .i64 0, .int .i64 0] 23 ?_; intro gb150 hg w15 hbox hb; have hp0 := pA BK149 hb; have hv := vK HB hb; have n1_ := Am (bT hv hb); have n2_ := Am (hbox); have GW150 := kG hg hv; have GE150 := kG hg hv; have hp1 := pK BK149 hb; obtain ⟨NB149_150, NB150_149⟩ := kXY hg hp1 BK149; clear HB; replace BK149 := hp0 BK149; have HB := n1_; have BK150 := n2_; clear n1_ n2_ hp0 hp1 hv; clear hb hbox hg; have nq16 := kO NB149_150; have zq17 := zc2 BK149) | ((with_reducible refine gate_callee (f := 29) rfl ?_); refine gL (some 8) Tryz.func29 #[.int .i64 a0, .agg #[.int .i64 a1_0, .int .i64 a1_1]] rfl ?_; (with_reducible refine (spec_diAsked.calls k a0 a1_0 a1_1 false _ A3.out).mono ?_); rintro e w18 ⟨rfl, hb⟩; refine ⟨_, rfl, ?_⟩; have hp0 := pA BK149 hb; have hv := vK HB hb; have n2_ := Am (bT hv hb); clear HB; replace BK149 := hp0 BK149; replace BK150 := hp0 BK150; have HB := n2_; clear n2_ hp0 hv; (try clear hb); have zq19 := zc2 BK150))
  refine bodyPost_ret (results_ct rfl _ _ gb150 23 #[.int .i64 0, .int .i64 0] (0, 0) _ rfl (by (with_reducible repeat (first | refine kN ?_ _ | refine kD ?_ | refine kA ?_ _)); refine kP (cs := #[.int .i64 0, .int .i64 0]) ?_ 1 _ rfl; (with_reducible repeat (first | refine kN ?_ _ | refine kD ?_ | refine kA ?_ _)); refine kP (cs := #[.int .i64 0, .int .i64 0]) ?_ 0 _ rfl; (with_reducible repeat (first | refine kN ?_ _ | refine kD ?_ | refine kA ?_ _)); exact BK150.out) Tryz.underlying23 rfl (by kernel_rfl)) rfl ?_
  exact ⟨by first | rfl | (simp [errW_none, errW_some] <;> rfl) | (simp [*, errW_none, errW_some] <;> rfl), by repeat (first | (with_reducible first | exact HB.out | apply bA | apply bN | apply bD | refine bX ?_ (by assumption)) | exact HB.out)⟩
/-! ### impl_Turn_mirror: function 31 -/
def impl_Turn_mirror.f (k : Nat) (a0_0 : Int) (a0_1 : Int) : Option (Int × Int) := (impl_Turn_times.f k a0_0 a0_1 (-1)).bind fun bt156 => (some (bt156.1, bt156.2))
theorem impl_Turn_mirror.mono : ∀ a0 a1 k, LeO (impl_Turn_mirror.f k a0 a1) (impl_Turn_mirror.f (k + 1) a0 a1) := by
 intro a0 a1 k
 unfold impl_Turn_mirror.f
 repeat' first
   | (with_reducible exact impl_Turn_times.mono _ _ _ _)
   | (with_reducible exact LeO.refl _)
   | (with_reducible exact LeO.none _)
   | (with_reducible refine LeO.ite ?_ ?_)
   | (with_reducible refine LeO.bind ?_ (fun _ => ?_))
   | exact impl_Turn_times.mono _ _ _ _
   | exact LeO.none _
   | refine LeO.ite ?_ ?_
   | refine LeO.bind ?_ (fun _ => ?_)
set_option maxHeartbeats 8000000 in
set_option maxRecDepth 100000 in
theorem impl_Turn_mirror.calls (k : Nat) (a0_0 : Int) (a0_1 : Int) (r1 : Int) (r2 : Int) (w : World) (h : impl_Turn_mirror.f k a0_0 a0_1 = some (r1, r2)) :
  Calls Tryz.prog 31 #[.agg #[.int .i64 a0_0, .int .i64 a0_1]] w fun e w' => e = .returned (.agg #[.int .i64 r1, .int .i64 r2]) ∧ Below w.heap.size w w' := by
 have hu23 := Tryz.underlying23
 have HB := Am (Below.refl w.heap.size w)
 have H : ((impl_Turn_times.f k a0_0 a0_1 (-1)).bind fun bt156 => (some (bt156.1, bt156.2))) = some (r1, r2) := h
 clear h
 replace H := Option.bind_eq_some_iff.mp H
 obtain ⟨⟨t156, t157⟩, A20, H⟩ := H
 try dsimp only at H
 have A2 := Am A20
 clear A20
 focus
  simp only [Option.some.injEq, Prod.mk.injEq] at H
  obtain ⟨rfl, rfl⟩ := H
  go_enter Tryz.func31, Tryz.ntmps31
  go_wp2_with (first | ((with_reducible refine gate_dst (N := 1) rfl ?_); refine bE 1 #[.int .i64 a0_0, .int .i64 a0_1] 23 ?_; intro gb154 hg w3 hbox hb; have hv := vK HB hb; have n0_ := Am (bT hv hb); have n1_ := Am (hbox); have GW154 := kG hg hv; have GE154 := kG hg hv; clear HB; have HB := n0_; have BK154 := n1_; clear n0_ n1_ hv; clear hb hbox hg) | ((with_reducible refine gate_dst (N := 2) rfl ?_); refine bE 2 #[.int .i64 0, .int .i64 0] 23 ?_; intro gb155 hg w4 hbox hb; have hp0 := pA BK154 hb; have hv := vK HB hb; have n1_ := Am (bT hv hb); have n2_ := Am (hbox); have GW155 := kG hg hv; have GE155 := kG hg hv; have hp1 := pK BK154 hb; obtain ⟨NB154_155, NB155_154⟩ := kXY hg hp1 BK154; clear HB; replace BK154 := hp0 BK154; have HB := n1_; have BK155 := n2_; clear n1_ n2_ hp0 hp1 hv; clear hb hbox hg; have nq5 := kO NB154_155; have zq6 := zc2 BK154) | ((with_reducible refine gate_callee (f := 28) rfl ?_); refine gL (some 4) Tryz.func28 #[.agg #[.int .i64 a0_0, .int .i64 a0_1], .int .i64 (-1)] rfl ?_; (with_reducible refine (impl_Turn_times.calls k a0_0 a0_1 (-1) t156 t157 _ A2.out).mono ?_); rintro e w7 ⟨rfl, hb⟩; refine ⟨_, rfl, ?_⟩; have hp0 := pA BK154 hb; have hv := vK HB hb; have n2_ := Am (bT hv hb); clear HB; replace BK154 := hp0 BK154; replace BK155 := hp0 BK155; have HB := n2_; clear n2_ hp0 hv; (try clear hb); have zq8 := zc2 BK155))
  refine bodyPost_ret (results_cell_row rfl _ _ gb155 23 #[.int .i64 t156, .int .i64 t157] (0, 0) _ rfl (by (with_reducible repeat (first | refine kN ?_ _ | refine kD ?_ | refine kA ?_ _)); refine kP (cs := #[.int .i64 t156, .int .i64 0]) ?_ 1 _ rfl; (with_reducible repeat (first | refine kN ?_ _ | refine kD ?_ | refine kA ?_ _)); refine kP (cs := #[.int .i64 0, .int .i64 0]) ?_ 0 _ rfl; (with_reducible repeat (first | refine kN ?_ _ | refine kD ?_ | refine kA ?_ _)); exact BK155.out) Tryz.underlying23 rfl (by kernel_rfl)) rfl ?_
  exact ⟨by first | rfl | (simp [errW_none, errW_some] <;> rfl) | (simp [*, errW_none, errW_some] <;> rfl), by repeat (first | (with_reducible first | exact HB.out | apply bA | apply bN | apply bD | refine bX ?_ (by assumption)) | exact HB.out)⟩
/-! ### cmp_isNaN_int: function 72 -/
def cmp_isNaN_int.f (a0 : Int) : Option (Bool) := some (a0 != a0)
set_option maxHeartbeats 8000000 in
set_option maxRecDepth 100000 in
theorem cmp_isNaN_int.calls (a0 : Int) (r : Bool) (w : World) (h : cmp_isNaN_int.f a0 = some r) :
  Calls Tryz.prog 72 #[.int .i64 a0] w fun e w' => e = .returned (.bool r) ∧ Drawn0 w w' := by
 have H : (some (a0 != a0)) = some r := h
 clear h
 focus
  obtain rfl := Option.some.inj H
  go_enter Tryz.func72, Tryz.ntmps72
  go_wp2
  go_ret
  exact ⟨by first | rfl | (simp; done) | (simp [*]; done), by repeat (first | exact Drawn0.refl _ | apply Drawn0.step)⟩
/-! ### cmp_Compare_int: function 57 -/
def cmp_Compare_int.f (a0 : Int) (a1 : Int) : Option (Int) := (cmp_isNaN_int.f a0).bind fun t158 => ((cmp_isNaN_int.f a1).bind fun t159 => (if t158 = true then (if t159 = true then (some 0) else (some (-1))) else (if t159 = true then (some 1) else (if a0 < a1 then (some (-1)) else (if a0 > a1 then (some 1) else (some 0))))))
set_option maxHeartbeats 8000000 in
set_option maxRecDepth 100000 in
theorem cmp_Compare_int.calls (a0 : Int) (a1 : Int) (r : Int) (w : World) (h : cmp_Compare_int.f a0 a1 = some r) :
  Calls Tryz.prog 57 #[.int .i64 a0, .int .i64 a1] w fun e w' => e = .returned (.int .i64 r) ∧ Drawn0 w w' := by
 have H : ((cmp_isNaN_int.f a0).bind fun t158 => ((cmp_isNaN_int.f a1).bind fun t159 => (if t158 = true then (if t159 = true then (some 0) else (some (-1))) else (if t159 = true then (some 1) else (if a0 < a1 then (some (-1)) else (if a0 > a1 then (some 1) else (some 0))))))) = some r := h
 clear h
 replace H := Option.bind_eq_some_iff.mp H
 obtain ⟨t158, A30, H⟩ := H
 try dsimp only at H
 have A3 := Am A30
 clear A30
 replace H := Option.bind_eq_some_iff.mp H
 obtain ⟨t159, A40, H⟩ := H
 try dsimp only at H
 have A4 := Am A40
 clear A40
 by_cases c5 : t158 = true
 ·subst c5
  have H1 : (if t159 = true then (some 0) else (some (-1))) = some r := by rw [if_pos rfl] at H; exact H
  clear H
  have H := H1
  clear H1
  by_cases c6 : t159 = true
  ·subst c6
   have H1 : (some 0) = some r := by rw [if_pos rfl] at H; exact H
   clear H
   have H := H1
   clear H1
   focus
    obtain rfl := Option.some.inj H
    go_enter Tryz.func57, Tryz.ntmps57
    go_wp2_with (first | ((with_reducible refine gate_callee (f := 72) rfl ?_); refine gL (some 8) Tryz.func72 #[.int .i64 a0] rfl ?_; (with_reducible refine (cmp_isNaN_int.calls a0 true _ A3.out).mono ?_); rintro e w' ⟨rfl, ⟨nd, rfl⟩⟩; refine ⟨_, rfl, ?_⟩) | ((with_reducible refine gate_callee (f := 72) rfl ?_); refine gL (some 10) Tryz.func72 #[.int .i64 a1] rfl ?_; (with_reducible refine (cmp_isNaN_int.calls a1 true _ A4.out).mono ?_); rintro e w' ⟨rfl, ⟨nd, rfl⟩⟩; refine ⟨_, rfl, ?_⟩))
    go_ret
    exact ⟨by first | rfl | (simp; done) | (simp [*]; done), by repeat (first | exact Drawn0.refl _ | apply Drawn0.step)⟩
  replace c6 := Bool.eq_false_iff.mpr c6
  subst c6
  have H1 : (some (-1)) = some r := by rw [if_neg (show ¬ (false = true) by decide)] at H; exact H
  clear H
  have H := H1
  clear H1
  focus
   obtain rfl := Option.some.inj H
   go_enter Tryz.func57, Tryz.ntmps57
   go_wp2_with (first | ((with_reducible refine gate_callee (f := 72) rfl ?_); refine gL (some 8) Tryz.func72 #[.int .i64 a0] rfl ?_; (with_reducible refine (cmp_isNaN_int.calls a0 true _ A3.out).mono ?_); rintro e w' ⟨rfl, ⟨nd, rfl⟩⟩; refine ⟨_, rfl, ?_⟩) | ((with_reducible refine gate_callee (f := 72) rfl ?_); refine gL (some 10) Tryz.func72 #[.int .i64 a1] rfl ?_; (with_reducible refine (cmp_isNaN_int.calls a1 false _ A4.out).mono ?_); rintro e w' ⟨rfl, ⟨nd, rfl⟩⟩; refine ⟨_, rfl, ?_⟩))
   go_ret
   exact ⟨by first | rfl | (simp; done) | (simp [*]; done), by repeat (first | exact Drawn0.refl _ | apply Drawn0.step)⟩
 replace c5 := Bool.eq_false_iff.mpr c5
 subst c5
 have H1 : (if t159 = true then (some 1) else (if a0 < a1 then (some (-1)) else (if a0 > a1 then (some 1) else (some 0)))) = some r := by rw [if_neg (show ¬ (false = true) by decide)] at H; exact H
 clear H
 have H := H1
 clear H1
 by_cases c7 : t159 = true
 ·subst c7
  have H1 : (some 1) = some r := by rw [if_pos rfl] at H; exact H
  clear H
  have H := H1
  clear H1
  focus
   obtain rfl := Option.some.inj H
   go_enter Tryz.func57, Tryz.ntmps57
   go_wp2_with (first | ((with_reducible refine gate_callee (f := 72) rfl ?_); refine gL (some 8) Tryz.func72 #[.int .i64 a0] rfl ?_; (with_reducible refine (cmp_isNaN_int.calls a0 false _ A3.out).mono ?_); rintro e w' ⟨rfl, ⟨nd, rfl⟩⟩; refine ⟨_, rfl, ?_⟩) | ((with_reducible refine gate_callee (f := 72) rfl ?_); refine gL (some 10) Tryz.func72 #[.int .i64 a1] rfl ?_; (with_reducible refine (cmp_isNaN_int.calls a1 true _ A4.out).mono ?_); rintro e w' ⟨rfl, ⟨nd, rfl⟩⟩; refine ⟨_, rfl, ?_⟩))
   go_ret
   exact ⟨by first | rfl | (simp; done) | (simp [*]; done), by repeat (first | exact Drawn0.refl _ | apply Drawn0.step)⟩
 replace c7 := Bool.eq_false_iff.mpr c7
 subst c7
 have H1 : (if a0 < a1 then (some (-1)) else (if a0 > a1 then (some 1) else (some 0))) = some r := by rw [if_neg (show ¬ (false = true) by decide)] at H; exact H
 clear H
 have H := H1
 clear H1
 by_cases c8 : a0 < a1
 ·rw [if_pos c8] at H
  have c8b0 : decide (a0 < a1) = true := decide_eq_true c8
  clear c8
  focus
   obtain rfl := Option.some.inj H
   go_enter Tryz.func57, Tryz.ntmps57
   go_wp2_with (first | ((with_reducible refine gate_callee (f := 72) rfl ?_); refine gL (some 8) Tryz.func72 #[.int .i64 a0] rfl ?_; (with_reducible refine (cmp_isNaN_int.calls a0 false _ A3.out).mono ?_); rintro e w' ⟨rfl, ⟨nd, rfl⟩⟩; refine ⟨_, rfl, ?_⟩) | ((with_reducible refine gate_callee (f := 72) rfl ?_); refine gL (some 10) Tryz.func72 #[.int .i64 a1] rfl ?_; (with_reducible refine (cmp_isNaN_int.calls a1 false _ A4.out).mono ?_); rintro e w' ⟨rfl, ⟨nd, rfl⟩⟩; refine ⟨_, rfl, ?_⟩))
   go_ret
   exact ⟨by first | rfl | (simp; done) | (simp [*]; done), by repeat (first | exact Drawn0.refl _ | apply Drawn0.step)⟩
 rw [if_neg c8] at H
 have c8b0 : decide (a0 < a1) = false := decide_eq_false c8
 clear c8
 by_cases c9 : a0 > a1
 ·rw [if_pos c9] at H
  have c9b0 : decide (a1 < a0) = true := decide_eq_true c9
  clear c9
  focus
   obtain rfl := Option.some.inj H
   go_enter Tryz.func57, Tryz.ntmps57
   go_wp2_with (first | ((with_reducible refine gate_callee (f := 72) rfl ?_); refine gL (some 8) Tryz.func72 #[.int .i64 a0] rfl ?_; (with_reducible refine (cmp_isNaN_int.calls a0 false _ A3.out).mono ?_); rintro e w' ⟨rfl, ⟨nd, rfl⟩⟩; refine ⟨_, rfl, ?_⟩) | ((with_reducible refine gate_callee (f := 72) rfl ?_); refine gL (some 10) Tryz.func72 #[.int .i64 a1] rfl ?_; (with_reducible refine (cmp_isNaN_int.calls a1 false _ A4.out).mono ?_); rintro e w' ⟨rfl, ⟨nd, rfl⟩⟩; refine ⟨_, rfl, ?_⟩))
   go_ret
   exact ⟨by first | rfl | (simp; done) | (simp [*]; done), by repeat (first | exact Drawn0.refl _ | apply Drawn0.step)⟩
 rw [if_neg c9] at H
 have c9b0 : decide (a1 < a0) = false := decide_eq_false c9
 clear c9
 focus
  obtain rfl := Option.some.inj H
  go_enter Tryz.func57, Tryz.ntmps57
  go_wp2_with (first | ((with_reducible refine gate_callee (f := 72) rfl ?_); refine gL (some 8) Tryz.func72 #[.int .i64 a0] rfl ?_; (with_reducible refine (cmp_isNaN_int.calls a0 false _ A3.out).mono ?_); rintro e w' ⟨rfl, ⟨nd, rfl⟩⟩; refine ⟨_, rfl, ?_⟩) | ((with_reducible refine gate_callee (f := 72) rfl ?_); refine gL (some 10) Tryz.func72 #[.int .i64 a1] rfl ?_; (with_reducible refine (cmp_isNaN_int.calls a1 false _ A4.out).mono ?_); rintro e w' ⟨rfl, ⟨nd, rfl⟩⟩; refine ⟨_, rfl, ?_⟩))
  go_ret
  exact ⟨by first | rfl | (simp; done) | (simp [*]; done), by repeat (first | exact Drawn0.refl _ | apply Drawn0.step)⟩
/-! ### impl_Turn_compare: function 32 -/
def impl_Turn_compare.f (a0_0 : Int) (a0_1 : Int) (a1_0 : Int) (a1_1 : Int) : Option (Int) := (cmp_Compare_int.f (wrap64 (a0_0 * a1_1)) (wrap64 (a1_0 * a0_1))).bind fun t162 => (some t162)
set_option maxHeartbeats 8000000 in
set_option maxRecDepth 100000 in
theorem impl_Turn_compare.calls (a0_0 : Int) (a0_1 : Int) (a1_0 : Int) (a1_1 : Int) (r : Int) (w : World) (h : impl_Turn_compare.f a0_0 a0_1 a1_0 a1_1 = some r) :
  Calls Tryz.prog 32 #[.agg #[.int .i64 a0_0, .int .i64 a0_1], .agg #[.int .i64 a1_0, .int .i64 a1_1]] w fun e w' => e = .returned (.int .i64 r) ∧ Below w.heap.size w w' := by
 have hu23 := Tryz.underlying23
 have HB := Am (Below.refl w.heap.size w)
 have H : ((cmp_Compare_int.f (wrap64 (a0_0 * a1_1)) (wrap64 (a1_0 * a0_1))).bind fun t162 => (some t162)) = some r := h
 clear h
 replace H := Option.bind_eq_some_iff.mp H
 obtain ⟨t162, A30, H⟩ := H
 try dsimp only at H
 have A3 := Am A30
 clear A30
 focus
  obtain rfl := Option.some.inj H
  go_enter Tryz.func32, Tryz.ntmps32
  go_wp2_with (first | ((with_reducible refine gate_dst (N := 2) rfl ?_); refine bE 2 #[.int .i64 a0_0, .int .i64 a0_1] 23 ?_; intro gb160 hg w4 hbox hb; have hv := vK HB hb; have n0_ := Am (bT hv hb); have n1_ := Am (hbox); have GW160 := kG hg hv; have GE160 := kG hg hv; clear HB; have HB := n0_; have BK160 := n1_; clear n0_ n1_ hv; clear hb hbox hg) | ((with_reducible refine gate_dst (N := 3) rfl ?_); refine bE 3 #[.int .i64 a1_0, .int .i64 a1_1] 23 ?_; intro gb161 hg w5 hbox hb; have hp0 := pA BK160 hb; have hv := vK HB hb; have n1_ := Am (bT hv hb); have n2_ := Am (hbox); have GW161 := kG hg hv; have GE161 := kG hg hv; have hp1 := pK BK160 hb; obtain ⟨NB160_161, NB161_160⟩ := kXY hg hp1 BK160; clear HB; replace BK160 := hp0 BK160; have HB := n1_; have BK161 := n2_; clear n1_ n2_ hp0 hp1 hv; clear hb hbox hg; have nq6 := kO NB160_161; have zq7 := zc2 BK160; have hcz8_0 : w5.cell? ⟨gb161, 0, none⟩ = some (.int .i64 a1_0) := (kC BK161.out 0).trans rfl; have hcz8_1 : w5.cell? ⟨gb161, 1, none⟩ = some (.int .i64 a1_1) := (kC BK161.out 1).trans rfl; have hfz8_0 := kF BK161.out 0; have hfz8_1 := kF BK161.out 1) | ((with_reducible refine gate_callee (f := 57) rfl ?_); refine gL (some 15) Tryz.func57 #[.int .i64 (wrap64 (a0_0 * a1_1)), .int .i64 (wrap64 (a1_0 * a0_1))] rfl ?_; (with_reducible refine (cmp_Compare_int.calls (wrap64 (a0_0 * a1_1)) (wrap64 (a1_0 * a0_1)) t162 _ A3.out).mono ?_); rintro e w' ⟨rfl, ⟨nd, rfl⟩⟩; refine ⟨_, rfl, ?_⟩))
  go_ret
  exact ⟨by first | rfl | (simp [errW_none, errW_some] <;> rfl) | (simp [*, errW_none, errW_some] <;> rfl), by repeat (first | (with_reducible first | exact HB.out | apply bA | apply bN | apply bD | refine bX ?_ (by assumption)) | exact HB.out)⟩
/-! ### impl_SmallAngle: function 8 -/
def impl_SmallAngle.f (k : Nat) (a0 : Int) (a1_0 : Int) (a1_1 : Int) : Option (Int × Int × Bool) := (impl_AngleOf.f k a0 a1_0 a1_1).bind fun bt165 => (if bt165.2.2 = true then ((impl_Turn_mirror.f k bt165.1 bt165.2.1).bind fun bt169 => ((impl_Turn_compare.f bt169.1 bt169.2 bt165.1 bt165.2.1).bind fun t172 => (if t172 < 0 then (some (bt169.1, bt169.2, true)) else (some (bt165.1, bt165.2.1, true))))) else (some (0, 0, false)))
theorem impl_SmallAngle.mono : ∀ a0 a1 a2 k, LeO (impl_SmallAngle.f k a0 a1 a2) (impl_SmallAngle.f (k + 1) a0 a1 a2) := by
 intro a0 a1 a2 k
 unfold impl_SmallAngle.f
 repeat' first
   | (with_reducible exact impl_AngleOf.mono _ _ _ _)
   | (with_reducible exact impl_Turn_mirror.mono _ _ _)
   | (with_reducible exact LeO.refl _)
   | (with_reducible exact LeO.none _)
   | (with_reducible refine LeO.ite ?_ ?_)
   | (with_reducible refine LeO.bind ?_ (fun _ => ?_))
   | exact impl_AngleOf.mono _ _ _ _
   | exact impl_Turn_mirror.mono _ _ _
   | exact LeO.none _
   | refine LeO.ite ?_ ?_
   | refine LeO.bind ?_ (fun _ => ?_)
set_option maxHeartbeats 8000000 in
set_option maxRecDepth 100000 in
theorem impl_SmallAngle.calls (k : Nat) (a0 : Int) (a1_0 : Int) (a1_1 : Int) (r1 : Int) (r2 : Int) (r3 : Bool) (w : World) (h : impl_SmallAngle.f k a0 a1_0 a1_1 = some (r1, r2, r3)) :
  Calls Tryz.prog 8 #[.int .i64 a0, .agg #[.int .i64 a1_0, .int .i64 a1_1]] w fun e w' => e = .returned (.tuple #[.agg #[.int .i64 r1, .int .i64 r2], .bool r3]) ∧ Below w.heap.size w w' := by
 have hu23 := Tryz.underlying23
 have HB := Am (Below.refl w.heap.size w)
 have H : ((impl_AngleOf.f k a0 a1_0 a1_1).bind fun bt165 => (if bt165.2.2 = true then ((impl_Turn_mirror.f k bt165.1 bt165.2.1).bind fun bt169 => ((impl_Turn_compare.f bt169.1 bt169.2 bt165.1 bt165.2.1).bind fun t172 => (if t172 < 0 then (some (bt169.1, bt169.2, true)) else (some (bt165.1, bt165.2.1, true))))) else (some (0, 0, false)))) = some (r1, r2, r3) := h
 clear h
 replace H := Option.bind_eq_some_iff.mp H
 obtain ⟨⟨t165, t166, t167⟩, A30, H⟩ := H
 try dsimp only at H
 have A3 := Am A30
 clear A30
 by_cases c4 : t167 = true
 ·subst c4
  have H1 : ((impl_Turn_mirror.f k t165 t166).bind fun bt169 => ((impl_Turn_compare.f bt169.1 bt169.2 t165 t166).bind fun t172 => (if t172 < 0 then (some (bt169.1, bt169.2, true)) else (some (t165, t166, true))))) = some (r1, r2, r3) := by rw [if_pos rfl] at H; exact H
  clear H
  have H := H1
  clear H1
  replace H := Option.bind_eq_some_iff.mp H
  obtain ⟨⟨t169, t170⟩, A50, H⟩ := H
  try dsimp only at H
  have A5 := Am A50
  clear A50
  replace H := Option.bind_eq_some_iff.mp H
  obtain ⟨t172, A60, H⟩ := H
  try dsimp only at H
  have A6 := Am A60
  clear A60
  by_cases c7 : t172 < 0
  ·rw [if_pos c7] at H
   have c7b0 : decide (t172 < 0) = true := decide_eq_true c7
   clear c7
   focus
    simp only [Option.some.injEq, Prod.mk.injEq] at H
    obtain ⟨rfl, rfl, rfl⟩ := H
    go_enter Tryz.func8, Tryz.ntmps8
    go_wp2_with (first | ((with_reducible refine gate_dst (N := 3) rfl ?_); refine bE 3 #[.int .i64 a1_0, .int .i64 a1_1] 23 ?_; intro gb163 hg w8 hbox hb; have hv := vK HB hb; have n0_ := Am (bT hv hb); have n1_ := Am (hbox); have GW163 := kG hg hv; have GE163 := kG hg hv; clear HB; have HB := n0_; have BK163 := n1_; clear n0_ n1_ hv; clear hb hbox hg) | ((with_reducible refine gate_dst (N := 4) rfl ?_); refine bE 4 #[.int .i64 0, .int .i64 0] 23 ?_; intro gb164 hg w9 hbox hb; have hp0 := pA BK163 hb; have hv := vK HB hb; have n1_ := Am (bT hv hb); have n2_ := Am (hbox); have GW164 := kG hg hv; have GE164 := kG hg hv; have hp1 := pK BK163 hb; obtain ⟨NB163_164, NB164_163⟩ := kXY hg hp1 BK163; clear HB; replace BK163 := hp0 BK163; have HB := n1_; have BK164 := n2_; clear n1_ n2_ hp0 hp1 hv; clear hb hbox hg; have nq10 := kO NB163_164; have zq11 := zc2 BK163) | ((with_reducible refine gate_callee (f := 6) rfl ?_); refine gL (some 12) Tryz.func6 #[.int .i64 a0, .agg #[.int .i64 a1_0, .int .i64 a1_1]] rfl ?_; (with_reducible refine (impl_AngleOf.calls k a0 a1_0 a1_1 t165 t166 true _ A3.out).mono ?_); rintro e w12 ⟨rfl, hb⟩; refine ⟨_, rfl, ?_⟩; have hp0 := pA BK163 hb; have hv := vK HB hb; have n2_ := Am (bT hv hb); clear HB; replace BK163 := hp0 BK163; replace BK164 := hp0 BK164; have HB := n2_; clear n2_ hp0 hv; (try clear hb)) | ((with_reducible refine gate_dst (N := 6) rfl ?_); refine bE 6 #[.int .i64 0, .int .i64 0] 23 ?_; intro gb168 hg w13 hbox hb; have hp0 := pA BK163 hb; have hv := vK HB hb; have n2_ := Am (bT hv hb); have n3_ := Am (hbox); have GW168 := kG hg hv; have GE168 := kG hg hv; have hp1 := pK BK163 hb; obtain ⟨NB163_168, NB168_163⟩ := kXY hg hp1 BK163; obtain ⟨NB164_168, NB168_164⟩ := kXY hg hp1 BK164; clear HB; replace BK163 := hp0 BK163; replace BK164 := hp0 BK164; have HB := n2_; have BK168 := n3_; clear n2_ n3_ hp0 hp1 hv; clear hb hbox hg; have nq14 := kO NB168_163; have nq15 := kO NB168_164; have zq16 := zc2 BK168) | ((with_reducible refine gate_callee (f := 31) rfl ?_); refine gL (some 19) Tryz.func31 #[.agg #[.int .i64 t165, .int .i64 t166]] rfl ?_; (with_reducible refine (impl_Turn_mirror.calls k t165 t166 t169 t170 _ A5.out).mono ?_); rintro e w17 ⟨rfl, hb⟩; refine ⟨_, rfl, ?_⟩; have hp0 := pB gb168 BK163 hb; have n2_ := Am (kB (g := gb168) (o := .cells #[.int .i64 t165, .int .i64 t166] 23 (0, 0)) (by (with_reducible repeat (first | refine kN ?_ _ | refine kD ?_ | refine kA ?_ _)); refine kP (cs := #[.int .i64 t165, .int .i64 0]) ?_ 1 _ rfl; (with_reducible repeat (first | refine kN ?_ _ | refine kD ?_ | refine kA ?_ _)); refine kP (cs := #[.int .i64 0, .int .i64 0]) ?_ 0 _ rfl; (with_reducible repeat (first | refine kN ?_ _ | refine kD ?_ | refine kA ?_ _)); exact BK168.out) hb); have hv := vK HB hb; have n3_ := Am (bT hv hb); clear BK168; clear HB; replace BK163 := hp0 NB163_168 BK163; replace BK164 := hp0 NB164_168 BK164; have BK168 := n2_; have HB := n3_; clear n2_ n3_ hp0 hv; (try clear hb)) | ((with_reducible refine gate_dst (N := 8) rfl ?_); refine bE 8 #[.int .i64 0, .int .i64 0] 23 ?_; intro gb171 hg w18 hbox hb; have hp0 := pA BK163 hb; have hv := vK HB hb; have n3_ := Am (bT hv hb); have n4_ := Am (hbox); have GW171 := kG hg hv; have GE171 := kG hg hv; have hp1 := pK BK163 hb; obtain ⟨NB163_171, NB171_163⟩ := kXY hg hp1 BK163; obtain ⟨NB164_171, NB171_164⟩ := kXY hg hp1 BK164; obtain ⟨NB168_171, NB171_168⟩ := kXY hg hp1 BK168; clear HB; replace BK163 := hp0 BK163; replace BK164 := hp0 BK164; replace BK168 := hp0 BK168; have HB := n3_; have BK171 := n4_; clear n3_ n4_ hp0 hp1 hv; clear hb hbox hg; have nq19 := kO NB171_163; have nq20 := kO NB171_164; have nq21 := kO NB171_168; have zq22 := zc2 BK171; have zq23 := zc2 BK168) | ((with_reducible refine gate_callee (f := 32) rfl ?_); refine gL (some 22) Tryz.func32 #[.agg #[.int .i64 t169, .int .i64 t170], .agg #[.int .i64 t165, .int .i64 t166]] rfl ?_; (with_reducible refine (impl_Turn_compare.calls t169 t170 t165 t166 t172 _ A6.out).mono ?_); rintro e w24 ⟨rfl, hb⟩; refine ⟨_, rfl, ?_⟩; have hp0 := pB gb171 BK163 hb; have n3_ := Am (kB (g := gb171) (o := .cells #[.int .i64 t169, .int .i64 t170] 23 (0, 0)) (by (with_reducible repeat (first | refine kN ?_ _ | refine kD ?_ | refine kA ?_ _)); refine kP (cs := #[.int .i64 t169, .int .i64 0]) ?_ 1 _ rfl; (with_reducible repeat (first | refine kN ?_ _ | refine kD ?_ | refine kA ?_ _)); refine kP (cs := #[.int .i64 0, .int .i64 0]) ?_ 0 _ rfl; (with_reducible repeat (first | refine kN ?_ _ | refine kD ?_ | refine kA ?_ _)); exact BK171.out) hb); have hv := vK HB hb; have n4_ := Am (bT hv hb); clear BK171; clear HB; replace BK163 := hp0 NB163_171 BK163; replace BK164 := hp0 NB164_171 BK164; replace BK168 := hp0 NB168_171 BK168; have BK171 := n3_; have HB := n4_; clear n3_ n4_ hp0 hv; (try clear hb); have zq25 := zc2 BK171; have zq26 := zc2 BK164))
    refine bodyPost_ret (results_ct rfl _ _ gb164 23 #[.int .i64 t169, .int .i64 t170] (0, 0) _ rfl (by (with_reducible repeat (first | refine kN ?_ _ | refine kD ?_ | refine kA ?_ _)); refine kP (cs := #[.int .i64 t169, .int .i64 0]) ?_ 1 _ rfl; (with_reducible repeat (first | refine kN ?_ _ | refine kD ?_ | refine kA ?_ _)); refine kP (cs := #[.int .i64 0, .int .i64 0]) ?_ 0 _ rfl; (with_reducible repeat (first | refine kN ?_ _ | refine kD ?_ | refine kA ?_ _)); exact BK164.out) Tryz.underlying23 rfl (by kernel_rfl)) rfl ?_
    exact ⟨by first | rfl | (simp [errW_none, errW_some] <;> rfl) | (simp [*, errW_none, errW_some] <;> rfl), by repeat (first | (with_reducible first | exact HB.out | apply bA | apply bN | apply bD | refine bX ?_ (by assumption)) | exact HB.out)⟩
  rw [if_neg c7] at H
  have c7b0 : decide (t172 < 0) = false := decide_eq_false c7
  clear c7
  focus
   simp only [Option.some.injEq, Prod.mk.injEq] at H
   obtain ⟨rfl, rfl, rfl⟩ := H
   go_enter Tryz.func8, Tryz.ntmps8
   go_wp2_with (first | ((with_reducible refine gate_dst (N := 3) rfl ?_); refine bE 3 #[.int .i64 a1_0, .int .i64 a1_1] 23 ?_; intro gb163 hg w27 hbox hb; have hv := vK HB hb; have n0_ := Am (bT hv hb); have n1_ := Am (hbox); have GW163 := kG hg hv; have GE163 := kG hg hv; clear HB; have HB := n0_; have BK163 := n1_; clear n0_ n1_ hv; clear hb hbox hg) | ((with_reducible refine gate_dst (N := 4) rfl ?_); refine bE 4 #[.int .i64 0, .int .i64 0] 23 ?_; intro gb164 hg w28 hbox hb; have hp0 := pA BK163 hb; have hv := vK HB hb; have n1_ := Am (bT hv hb); have n2_ := Am (hbox); have GW164 := kG hg hv; have GE164 := kG hg hv; have hp1 := pK BK163 hb; obtain ⟨NB163_164, NB164_163⟩ := kXY hg hp1 BK163; clear HB; replace BK163 := hp0 BK163; have HB := n1_; have BK164 := n2_; clear n1_ n2_ hp0 hp1 hv; clear hb hbox hg; have nq29 := kO NB163_164; have zq30 := zc2 BK163) | ((with_reducible refine gate_callee (f := 6) rfl ?_); refine gL (some 12) Tryz.func6 #[.int .i64 a0, .agg #[.int .i64 a1_0, .int .i64 a1_1]] rfl ?_; (with_reducible refine (impl_AngleOf.calls k a0 a1_0 a1_1 t165 t166 true _ A3.out).mono ?_); rintro e w31 ⟨rfl, hb⟩; refine ⟨_, rfl, ?_⟩; have hp0 := pA BK163 hb; have hv := vK HB hb; have n2_ := Am (bT hv hb); clear HB; replace BK163 := hp0 BK163; replace BK164 := hp0 BK164; have HB := n2_; clear n2_ hp0 hv; (try clear hb)) | ((with_reducible refine gate_dst (N := 6) rfl ?_); refine bE 6 #[.int .i64 0, .int .i64 0] 23 ?_; intro gb168 hg w32 hbox hb; have hp0 := pA BK163 hb; have hv := vK HB hb; have n2_ := Am (bT hv hb); have n3_ := Am (hbox); have GW168 := kG hg hv; have GE168 := kG hg hv; have hp1 := pK BK163 hb; obtain ⟨NB163_168, NB168_163⟩ := kXY hg hp1 BK163; obtain ⟨NB164_168, NB168_164⟩ := kXY hg hp1 BK164; clear HB; replace BK163 := hp0 BK163; replace BK164 := hp0 BK164; have HB := n2_; have BK168 := n3_; clear n2_ n3_ hp0 hp1 hv; clear hb hbox hg; have nq33 := kO NB168_163; have nq34 := kO NB168_164; have zq35 := zc2 BK168) | ((with_reducible refine gate_callee (f := 31) rfl ?_); refine gL (some 19) Tryz.func31 #[.agg #[.int .i64 t165, .int .i64 t166]] rfl ?_; (with_reducible refine (impl_Turn_mirror.calls k t165 t166 t169 t170 _ A5.out).mono ?_); rintro e w36 ⟨rfl, hb⟩; refine ⟨_, rfl, ?_⟩; have hp0 := pB gb168 BK163 hb; have n2_ := Am (kB (g := gb168) (o := .cells #[.int .i64 t165, .int .i64 t166] 23 (0, 0)) (by (with_reducible repeat (first | refine kN ?_ _ | refine kD ?_ | refine kA ?_ _)); refine kP (cs := #[.int .i64 t165, .int .i64 0]) ?_ 1 _ rfl; (with_reducible repeat (first | refine kN ?_ _ | refine kD ?_ | refine kA ?_ _)); refine kP (cs := #[.int .i64 0, .int .i64 0]) ?_ 0 _ rfl; (with_reducible repeat (first | refine kN ?_ _ | refine kD ?_ | refine kA ?_ _)); exact BK168.out) hb); have hv := vK HB hb; have n3_ := Am (bT hv hb); clear BK168; clear HB; replace BK163 := hp0 NB163_168 BK163; replace BK164 := hp0 NB164_168 BK164; have BK168 := n2_; have HB := n3_; clear n2_ n3_ hp0 hv; (try clear hb)) | ((with_reducible refine gate_dst (N := 8) rfl ?_); refine bE 8 #[.int .i64 0, .int .i64 0] 23 ?_; intro gb171 hg w37 hbox hb; have hp0 := pA BK163 hb; have hv := vK HB hb; have n3_ := Am (bT hv hb); have n4_ := Am (hbox); have GW171 := kG hg hv; have GE171 := kG hg hv; have hp1 := pK BK163 hb; obtain ⟨NB163_171, NB171_163⟩ := kXY hg hp1 BK163; obtain ⟨NB164_171, NB171_164⟩ := kXY hg hp1 BK164; obtain ⟨NB168_171, NB171_168⟩ := kXY hg hp1 BK168; clear HB; replace BK163 := hp0 BK163; replace BK164 := hp0 BK164; replace BK168 := hp0 BK168; have HB := n3_; have BK171 := n4_; clear n3_ n4_ hp0 hp1 hv; clear hb hbox hg; have nq38 := kO NB171_163; have nq39 := kO NB171_164; have nq40 := kO NB171_168; have zq41 := zc2 BK171; have zq42 := zc2 BK168) | ((with_reducible refine gate_callee (f := 32) rfl ?_); refine gL (some 22) Tryz.func32 #[.agg #[.int .i64 t169, .int .i64 t170], .agg #[.int .i64 t165, .int .i64 t166]] rfl ?_; (with_reducible refine (impl_Turn_compare.calls t169 t170 t165 t166 t172 _ A6.out).mono ?_); rintro e w43 ⟨rfl, hb⟩; refine ⟨_, rfl, ?_⟩; have hp0 := pB gb171 BK163 hb; have n3_ := Am (kB (g := gb171) (o := .cells #[.int .i64 t169, .int .i64 t170] 23 (0, 0)) (by (with_reducible repeat (first | refine kN ?_ _ | refine kD ?_ | refine kA ?_ _)); refine kP (cs := #[.int .i64 t169, .int .i64 0]) ?_ 1 _ rfl; (with_reducible repeat (first | refine kN ?_ _ | refine kD ?_ | refine kA ?_ _)); refine kP (cs := #[.int .i64 0, .int .i64 0]) ?_ 0 _ rfl; (with_reducible repeat (first | refine kN ?_ _ | refine kD ?_ | refine kA ?_ _)); exact BK171.out) hb); have hv := vK HB hb; have n4_ := Am (bT hv hb); clear BK171; clear HB; replace BK163 := hp0 NB163_171 BK163; replace BK164 := hp0 NB164_171 BK164; replace BK168 := hp0 NB168_171 BK168; have BK171 := n3_; have HB := n4_; clear n3_ n4_ hp0 hv; (try clear hb); have zq44 := zc2 BK168; have zq45 := zc2 BK164))
   refine bodyPost_ret (results_ct rfl _ _ gb164 23 #[.int .i64 t165, .int .i64 t166] (0, 0) _ rfl (by (with_reducible repeat (first | refine kN ?_ _ | refine kD ?_ | refine kA ?_ _)); refine kP (cs := #[.int .i64 t165, .int .i64 0]) ?_ 1 _ rfl; (with_reducible repeat (first | refine kN ?_ _ | refine kD ?_ | refine kA ?_ _)); refine kP (cs := #[.int .i64 0, .int .i64 0]) ?_ 0 _ rfl; (with_reducible repeat (first | refine kN ?_ _ | refine kD ?_ | refine kA ?_ _)); exact BK164.out) Tryz.underlying23 rfl (by kernel_rfl)) rfl ?_
   exact ⟨by first | rfl | (simp [errW_none, errW_some] <;> rfl) | (simp [*, errW_none, errW_some] <;> rfl), by repeat (first | (with_reducible first | exact HB.out | apply bA | apply bN | apply bD | refine bX ?_ (by assumption)) | exact HB.out)⟩
 replace c4 := Bool.eq_false_iff.mpr c4
 subst c4
 have H1 : (some (0, 0, false)) = some (r1, r2, r3) := by rw [if_neg (show ¬ (false = true) by decide)] at H; exact H
 clear H
 have H := H1
 clear H1
 focus
  simp only [Option.some.injEq, Prod.mk.injEq] at H
  obtain ⟨rfl, rfl, rfl⟩ := H
  go_enter Tryz.func8, Tryz.ntmps8
  go_wp2_with (first | ((with_reducible refine gate_dst (N := 3) rfl ?_); refine bE 3 #[.int .i64 a1_0, .int .i64 a1_1] 23 ?_; intro gb163 hg w46 hbox hb; have hv := vK HB hb; have n0_ := Am (bT hv hb); have n1_ := Am (hbox); have GW163 := kG hg hv; have GE163 := kG hg hv; clear HB; have HB := n0_; have BK163 := n1_; clear n0_ n1_ hv; clear hb hbox hg) | ((with_reducible refine gate_dst (N := 4) rfl ?_); refine bE 4 #[.int .i64 0, .int .i64 0] 23 ?_; intro gb164 hg w47 hbox hb; have hp0 := pA BK163 hb; have hv := vK HB hb; have n1_ := Am (bT hv hb); have n2_ := Am (hbox); have GW164 := kG hg hv; have GE164 := kG hg hv; have hp1 := pK BK163 hb; obtain ⟨NB163_164, NB164_163⟩ := kXY hg hp1 BK163; clear HB; replace BK163 := hp0 BK163; have HB := n1_; have BK164 := n2_; clear n1_ n2_ hp0 hp1 hv; clear hb hbox hg; have nq48 := kO NB163_164; have zq49 := zc2 BK163) | ((with_reducible refine gate_callee (f := 6) rfl ?_); refine gL (some 12) Tryz.func6 #[.int .i64 a0, .agg #[.int .i64 a1_0, .int .i64 a1_1]] rfl ?_; (with_reducible refine (impl_AngleOf.calls k a0 a1_0 a1_1 t165 t166 false _ A3.out).mono ?_); rintro e w50 ⟨rfl, hb⟩; refine ⟨_, rfl, ?_⟩; have hp0 := pA BK163 hb; have hv := vK HB hb; have n2_ := Am (bT hv hb); clear HB; replace BK163 := hp0 BK163; replace BK164 := hp0 BK164; have HB := n2_; clear n2_ hp0 hv; (try clear hb)) | ((with_reducible refine gate_dst (N := 6) rfl ?_); refine bE 6 #[.int .i64 0, .int .i64 0] 23 ?_; intro gb168 hg w51 hbox hb; have hp0 := pA BK163 hb; have hv := vK HB hb; have n2_ := Am (bT hv hb); have n3_ := Am (hbox); have GW168 := kG hg hv; have GE168 := kG hg hv; have hp1 := pK BK163 hb; obtain ⟨NB163_168, NB168_163⟩ := kXY hg hp1 BK163; obtain ⟨NB164_168, NB168_164⟩ := kXY hg hp1 BK164; clear HB; replace BK163 := hp0 BK163; replace BK164 := hp0 BK164; have HB := n2_; have BK168 := n3_; clear n2_ n3_ hp0 hp1 hv; clear hb hbox hg; have nq52 := kO NB168_163; have nq53 := kO NB168_164; have zq54 := zc2 BK168; have zq55 := zc2 BK164))
  refine bodyPost_ret (results_ct rfl _ _ gb164 23 #[.int .i64 0, .int .i64 0] (0, 0) _ rfl (by (with_reducible repeat (first | refine kN ?_ _ | refine kD ?_ | refine kA ?_ _)); refine kP (cs := #[.int .i64 0, .int .i64 0]) ?_ 1 _ rfl; (with_reducible repeat (first | refine kN ?_ _ | refine kD ?_ | refine kA ?_ _)); refine kP (cs := #[.int .i64 0, .int .i64 0]) ?_ 0 _ rfl; (with_reducible repeat (first | refine kN ?_ _ | refine kD ?_ | refine kA ?_ _)); refine kR ?_ NB164_168.out _; (with_reducible repeat (first | refine kN ?_ _ | refine kD ?_ | refine kA ?_ _)); refine kR ?_ NB164_168.out _; (with_reducible repeat (first | refine kN ?_ _ | refine kD ?_ | refine kA ?_ _)); exact BK164.out) Tryz.underlying23 rfl (by kernel_rfl)) rfl ?_
  exact ⟨by first | rfl | (simp [errW_none, errW_some] <;> rfl) | (simp [*, errW_none, errW_some] <;> rfl), by repeat (first | (with_reducible first | exact HB.out | apply bA | apply bN | apply bD | refine bX ?_ (by assumption)) | exact HB.out)⟩
/-! ### spec_diMirror: function 33 -/
def spec_diMirror.f (k : Nat) (a0_0 : Int) (a0_1 : Int) : Option (Int × Int) := (spec_diTimes.f k a0_0 a0_1 (-1)).bind fun bt175 => (some (bt175.1, bt175.2))
theorem spec_diMirror.mono : ∀ a0 a1 k, LeO (spec_diMirror.f k a0 a1) (spec_diMirror.f (k + 1) a0 a1) := by
 intro a0 a1 k
 unfold spec_diMirror.f
 repeat' first
   | (with_reducible exact spec_diTimes.mono _ _ _ _)
   | (with_reducible exact LeO.refl _)
   | (with_reducible exact LeO.none _)
   | (with_reducible refine LeO.ite ?_ ?_)
   | (with_reducible refine LeO.bind ?_ (fun _ => ?_))
   | exact spec_diTimes.mono _ _ _ _
   | exact LeO.none _
   | refine LeO.ite ?_ ?_
   | refine LeO.bind ?_ (fun _ => ?_)
set_option maxHeartbeats 8000000 in
set_option maxRecDepth 100000 in
theorem spec_diMirror.calls (k : Nat) (a0_0 : Int) (a0_1 : Int) (r1 : Int) (r2 : Int) (w : World) (h : spec_diMirror.f k a0_0 a0_1 = some (r1, r2)) :
  Calls Tryz.prog 33 #[.agg #[.int .i64 a0_0, .int .i64 a0_1]] w fun e w' => e = .returned (.agg #[.int .i64 r1, .int .i64 r2]) ∧ Below w.heap.size w w' := by
 have hu23 := Tryz.underlying23
 have HB := Am (Below.refl w.heap.size w)
 have H : ((spec_diTimes.f k a0_0 a0_1 (-1)).bind fun bt175 => (some (bt175.1, bt175.2))) = some (r1, r2) := h
 clear h
 replace H := Option.bind_eq_some_iff.mp H
 obtain ⟨⟨t175, t176⟩, A20, H⟩ := H
 try dsimp only at H
 have A2 := Am A20
 clear A20
 focus
  simp only [Option.some.injEq, Prod.mk.injEq] at H
  obtain ⟨rfl, rfl⟩ := H
  go_enter Tryz.func33, Tryz.ntmps33
  go_wp2_with (first | ((with_reducible refine gate_dst (N := 1) rfl ?_); refine bE 1 #[.int .i64 a0_0, .int .i64 a0_1] 23 ?_; intro gb173 hg w3 hbox hb; have hv := vK HB hb; have n0_ := Am (bT hv hb); have n1_ := Am (hbox); have GW173 := kG hg hv; have GE173 := kG hg hv; clear HB; have HB := n0_; have BK173 := n1_; clear n0_ n1_ hv; clear hb hbox hg) | ((with_reducible refine gate_dst (N := 2) rfl ?_); refine bE 2 #[.int .i64 0, .int .i64 0] 23 ?_; intro gb174 hg w4 hbox hb; have hp0 := pA BK173 hb; have hv := vK HB hb; have n1_ := Am (bT hv hb); have n2_ := Am (hbox); have GW174 := kG hg hv; have GE174 := kG hg hv; have hp1 := pK BK173 hb; obtain ⟨NB173_174, NB174_173⟩ := kXY hg hp1 BK173; clear HB; replace BK173 := hp0 BK173; have HB := n1_; have BK174 := n2_; clear n1_ n2_ hp0 hp1 hv; clear hb hbox hg; have nq5 := kO NB173_174; have zq6 := zc2 BK173) | ((with_reducible refine gate_callee (f := 30) rfl ?_); refine gL (some 4) Tryz.func30 #[.agg #[.int .i64 a0_0, .int .i64 a0_1], .int .i64 (-1)] rfl ?_; (with_reducible refine (spec_diTimes.calls k a0_0 a0_1 (-1) t175 t176 _ A2.out).mono ?_); rintro e w7 ⟨rfl, hb⟩; refine ⟨_, rfl, ?_⟩; have hp0 := pA BK173 hb; have hv := vK HB hb; have n2_ := Am (bT hv hb); clear HB; replace BK173 := hp0 BK173; replace BK174 := hp0 BK174; have HB := n2_; clear n2_ hp0 hv; (try clear hb); have zq8 := zc2 BK174))
  refine bodyPost_ret (results_cell_row rfl _ _ gb174 23 #[.int .i64 t175, .int .i64 t176] (0, 0) _ rfl (by (with_reducible repeat (first | refine kN ?_ _ | refine kD ?_ | refine kA ?_ _)); refine kP (cs := #[.int .i64 t175, .int .i64 0]) ?_ 1 _ rfl; (with_reducible repeat (first | refine kN ?_ _ | refine kD ?_ | refine kA ?_ _)); refine kP (cs := #[.int .i64 0, .int .i64 0]) ?_ 0 _ rfl; (with_reducible repeat (first | refine kN ?_ _ | refine kD ?_ | refine kA ?_ _)); exact BK174.out) Tryz.underlying23 rfl (by kernel_rfl)) rfl ?_
  exact ⟨by first | rfl | (simp [errW_none, errW_some] <;> rfl) | (simp [*, errW_none, errW_some] <;> rfl), by repeat (first | (with_reducible first | exact HB.out | apply bA | apply bN | apply bD | refine bX ?_ (by assumption)) | exact HB.out)⟩
/-! ### spec_l1Sign: function 58 -/
def spec_l1Sign.f (a0 : Int) : Option (Int) := if a0 > 0 then (some 1) else (if a0 < 0 then (some (-1)) else (some 0))
set_option maxHeartbeats 8000000 in
set_option maxRecDepth 100000 in
theorem spec_l1Sign.calls (a0 : Int) (r : Int) (w : World) (h : spec_l1Sign.f a0 = some r) :
  Calls Tryz.prog 58 #[.int .i64 a0] w fun e w' => e = .returned (.int .i64 r) ∧ Drawn0 w w' := by
 have H : (if a0 > 0 then (some 1) else (if a0 < 0 then (some (-1)) else (some 0))) = some r := h
 clear h
 by_cases c2 : a0 > 0
 ·rw [if_pos c2] at H
  have c2b0 : decide (0 < a0) = true := decide_eq_true c2
  clear c2
  focus
   obtain rfl := Option.some.inj H
   go_enter Tryz.func58, Tryz.ntmps58
   go_wp2
   go_ret
   exact ⟨by first | rfl | (simp; done) | (simp [*]; done), by repeat (first | exact Drawn0.refl _ | apply Drawn0.step)⟩
 rw [if_neg c2] at H
 have c2b0 : decide (0 < a0) = false := decide_eq_false c2
 clear c2
 by_cases c3 : a0 < 0
 ·rw [if_pos c3] at H
  have c3b0 : decide (a0 < 0) = true := decide_eq_true c3
  clear c3
  focus
   obtain rfl := Option.some.inj H
   go_enter Tryz.func58, Tryz.ntmps58
   go_wp2
   go_ret
   exact ⟨by first | rfl | (simp; done) | (simp [*]; done), by repeat (first | exact Drawn0.refl _ | apply Drawn0.step)⟩
 rw [if_neg c3] at H
 have c3b0 : decide (a0 < 0) = false := decide_eq_false c3
 clear c3
 focus
  obtain rfl := Option.some.inj H
  go_enter Tryz.func58, Tryz.ntmps58
  go_wp2
  go_ret
  exact ⟨by first | rfl | (simp; done) | (simp [*]; done), by repeat (first | exact Drawn0.refl _ | apply Drawn0.step)⟩
/-! ### spec_diCompare: function 34 -/
def spec_diCompare.f (a0_0 : Int) (a0_1 : Int) (a1_0 : Int) (a1_1 : Int) : Option (Int) := (spec_l1Sign.f (wrap64 ((wrap64 (a0_0 * a1_1)) - (wrap64 (a1_0 * a0_1))))).bind fun t179 => (some t179)
set_option maxHeartbeats 8000000 in
set_option maxRecDepth 100000 in
theorem spec_diCompare.calls (a0_0 : Int) (a0_1 : Int) (a1_0 : Int) (a1_1 : Int) (r : Int) (w : World) (h : spec_diCompare.f a0_0 a0_1 a1_0 a1_1 = some r) :
  Calls Tryz.prog 34 #[.agg #[.int .i64 a0_0, .int .i64 a0_1], .agg #[.int .i64 a1_0, .int .i64 a1_1]] w fun e w' => e = .returned (.int .i64 r) ∧ Below w.heap.size w w' := by
 have hu23 := Tryz.underlying23
 have HB := Am (Below.refl w.heap.size w)
 have H : ((spec_l1Sign.f (wrap64 ((wrap64 (a0_0 * a1_1)) - (wrap64 (a1_0 * a0_1))))).bind fun t179 => (some t179)) = some r := h
 clear h
 replace H := Option.bind_eq_some_iff.mp H
 obtain ⟨t179, A30, H⟩ := H
 try dsimp only at H
 have A3 := Am A30
 clear A30
 focus
  obtain rfl := Option.some.inj H
  go_enter Tryz.func34, Tryz.ntmps34
  go_wp2_with (first | ((with_reducible refine gate_dst (N := 2) rfl ?_); refine bE 2 #[.int .i64 a0_0, .int .i64 a0_1] 23 ?_; intro gb177 hg w4 hbox hb; have hv := vK HB hb; have n0_ := Am (bT hv hb); have n1_ := Am (hbox); have GW177 := kG hg hv; have GE177 := kG hg hv; clear HB; have HB := n0_; have BK177 := n1_; clear n0_ n1_ hv; clear hb hbox hg) | ((with_reducible refine gate_dst (N := 3) rfl ?_); refine bE 3 #[.int .i64 a1_0, .int .i64 a1_1] 23 ?_; intro gb178 hg w5 hbox hb; have hp0 := pA BK177 hb; have hv := vK HB hb; have n1_ := Am (bT hv hb); have n2_ := Am (hbox); have GW178 := kG hg hv; have GE178 := kG hg hv; have hp1 := pK BK177 hb; obtain ⟨NB177_178, NB178_177⟩ := kXY hg hp1 BK177; clear HB; replace BK177 := hp0 BK177; have HB := n1_; have BK178 := n2_; clear n1_ n2_ hp0 hp1 hv; clear hb hbox hg; have nq6 := kO NB177_178; have zq7 := zc2 BK177; have hcz8_0 : w5.cell? ⟨gb178, 0, none⟩ = some (.int .i64 a1_0) := (kC BK178.out 0).trans rfl; have hcz8_1 : w5.cell? ⟨gb178, 1, none⟩ = some (.int .i64 a1_1) := (kC BK178.out 1).trans rfl; have hfz8_0 := kF BK178.out 0; have hfz8_1 := kF BK178.out 1) | ((with_reducible refine gate_callee (f := 58) rfl ?_); refine gL (some 16) Tryz.func58 #[.int .i64 (wrap64 ((wrap64 (a0_0 * a1_1)) - (wrap64 (a1_0 * a0_1))))] rfl ?_; (with_reducible refine (spec_l1Sign.calls (wrap64 ((wrap64 (a0_0 * a1_1)) - (wrap64 (a1_0 * a0_1)))) t179 _ A3.out).mono ?_); rintro e w' ⟨rfl, ⟨nd, rfl⟩⟩; refine ⟨_, rfl, ?_⟩))
  go_ret
  exact ⟨by first | rfl | (simp [errW_none, errW_some] <;> rfl) | (simp [*, errW_none, errW_some] <;> rfl), by repeat (first | (with_reducible first | exact HB.out | apply bA | apply bN | apply bD | refine bX ?_ (by assumption)) | exact HB.out)⟩
end Go.Proofs.YtchglfpiicaedaaGreatDoor.PFnHandsStandOfAll
