-- WRITTEN BY A PROGRAM OF THIS SESSION (wip/tools): its own text, not the kit's printed one.
import Derived.Test.YtcoembcafgelkaaPFnHandsAheadOfAllx0
import Derived.Test.YtcoembcafgelkaaPFnHandsAheadOfAllx6
namespace Go.Proofs.Ytcoembcafgelkaa.PFnHandsAheadOfAll
open Go.RowKit Go.Proofs.YtcoembcafgelkaaW.PrintWords Go.Proofs.YtcoembcafgelkaaW.PrintLast Go.Proofs.YtcoembcafgelkaaW.PrintMore
attribute [local go_sem] max2_int min2_int max_two min_two max_three min_three max_four min_four   -- for this text's walks alone
set_option linter.unusedVariables false
set_option linter.unusedSimpArgs false

/-! ### spec_diMake: function 45 -/
def spec_diMake.f (k : Nat) (a0 : Int) (a1 : Int) : Option (Int × Int × Bool) := if a1 = 0 then (none) else ((spec_diCommon.f k (Int.tmod (wrap64 ((Int.tmod a0 a1) + a1)) a1) a1).bind fun t209 => (if t209 = 0 then (none) else (if (wrap64 (Int.tdiv a1 t209)) > 1000000 then (some (0, 0, false)) else (some (wrap64 (Int.tdiv (Int.tmod (wrap64 ((Int.tmod a0 a1) + a1)) a1) t209), wrap64 (Int.tdiv a1 t209), true)))))
theorem spec_diMake.mono : ∀ a0 a1 k, LeO (spec_diMake.f k a0 a1) (spec_diMake.f (k + 1) a0 a1) := by
 intro a0 a1 k
 unfold spec_diMake.f
 repeat' first
   | (with_reducible exact spec_diCommon.mono _ _ _)
   | (with_reducible exact LeO.refl _)
   | (with_reducible exact LeO.none _)
   | (with_reducible refine LeO.ite ?_ ?_)
   | (with_reducible refine LeO.bind ?_ (fun _ => ?_))
   | exact spec_diCommon.mono _ _ _
   | exact LeO.none _
   | refine LeO.ite ?_ ?_
   | refine LeO.bind ?_ (fun _ => ?_)
def spec_diMake.T3 : Bool × List (List Nat × List Nat) := (true, [([], []), ([], []), ([0, 1], [0, 1]), ([], []), ([], []), ([3, 4], [3, 4]), ([2, 5], [2, 5]), ([], []), ([7, 6, 0, 1, 2, 3, 4, 5, 6, 7], [6, 7])])
def spec_diMake.B3 : List Nat := [0, 0, 3, 0, 0, 24, 63, 0, 255]
theorem spec_diMake.tab3 : rtab .any (opsOf Try.f45 3) = spec_diMake.T3 := by kernel_rfl
theorem spec_diMake.bits3 : waitsOk spec_diMake.T3.2 spec_diMake.B3 = true := by kernel_rfl
set_option maxHeartbeats 8000000 in
set_option maxRecDepth 100000 in
theorem spec_diMake.calls (k : Nat) (a0 : Int) (a1 : Int) (r1 : Int) (r2 : Int) (r3 : Bool) (w : World) (h : spec_diMake.f k a0 a1 = some (r1, r2, r3)) :
  Calls Try.prog 45 #[.int .i64 a0, .int .i64 a1] w fun e w' => e = .returned (.tuple #[.agg #[.int .i64 r1, .int .i64 r2], .bool r3]) ∧ Below w.heap.size w w' := by
 have hu23 := Try.underlying23
 have HB := Am (Below.refl w.heap.size w)
 have H : (if a1 = 0 then (none) else ((spec_diCommon.f k (Int.tmod (wrap64 ((Int.tmod a0 a1) + a1)) a1) a1).bind fun t209 => (if t209 = 0 then (none) else (if (wrap64 (Int.tdiv a1 t209)) > 1000000 then (some (0, 0, false)) else (some (wrap64 (Int.tdiv (Int.tmod (wrap64 ((Int.tmod a0 a1) + a1)) a1) t209), wrap64 (Int.tdiv a1 t209), true)))))) = some (r1, r2, r3) := h
 clear h
 by_cases c3 : a1 = 0
 ·rw [if_pos c3] at H
  exact absurd H (by simp)
 rw [if_neg c3] at H
 have c3b0 : (a1 == 0) = false := beq_eq_false_iff_ne.mpr c3
 have c3b1 : (a1 != 0) = true := bne_iff_ne.mpr c3
 replace H := Option.bind_eq_some_iff.mp H
 obtain ⟨t209, A40, H⟩ := H
 try dsimp only at H
 have A4 := Am A40
 clear A40
 by_cases c5 : t209 = 0
 ·rw [if_pos c5] at H
  exact absurd H (by simp)
 rw [if_neg c5] at H
 have c5b0 : (t209 == 0) = false := beq_eq_false_iff_ne.mpr c5
 have c5b1 : (t209 != 0) = true := bne_iff_ne.mpr c5
 by_cases c6 : (wrap64 (Int.tdiv a1 t209)) > 1000000
 ·rw [if_pos c6] at H
  have c6b0 : decide (1000000 < (wrap64 (Int.tdiv a1 t209))) = true := decide_eq_true c6
  clear c6
  focus
   simp only [Option.some.injEq, Prod.mk.injEq] at H
   obtain ⟨rfl, rfl, rfl⟩ := H
   go_enter Try.func45, Try.ntmps45
   try go_wp2_with (first | ((with_reducible refine gate_dst (N := 4) rfl ?_); refine bE 4 #[.int .i64 0, .int .i64 0] 23 ?_; intro gb208 hg w7 hbox hb; have hv := vK HB hb; have n0_ := Am (bT hv hb); have n1_ := Am (hbox); have GW208 := kG hg hv; have GE208 := kG hg hv; clear HB; have HB := n0_; have BK208 := n1_; clear n0_ n1_ hv; clear hb hbox hg) | ((with_reducible refine gate_callee (f := 54) rfl ?_); refine gL (some 17) Try.func54 #[.int .i64 (Int.tmod (wrap64 ((Int.tmod a0 a1) + a1)) a1), .int .i64 a1] rfl ?_; (with_reducible refine (spec_diCommon.calls k (Int.tmod (wrap64 ((Int.tmod a0 a1) + a1)) a1) a1 t209 _ A4.out).mono ?_); rintro e w' ⟨rfl, ⟨nd, rfl⟩⟩; refine ⟨_, rfl, ?_⟩; (try (rw [drewN_self w7]; generalize hq_ : World.drewN w7 _ = w7; have n0_ : Aside0 (w7.heap[gb208]? = some (.cells #[.int .i64 0, .int .i64 0] 23 (0, 0))) := ⟨by rw [← hq_]; exact (kU BK208)⟩; have n1_ : Aside0 (Below w.heap.size w w7) := ⟨by rw [← hq_]; exact (by repeat (first | (with_reducible first | exact HB.out | apply bA | apply bN | apply bD | refine bX ?_ (by assumption)) | exact HB.out))⟩; clear BK208 HB hq_; have BK208 := n0_; have HB := n1_; clear n0_ n1_))))
   have n0_ := Am (kD BK208.out)
   have n1_ := Am (bD HB.out)
   clear BK208 HB
   have BK208 := n0_; have HB := n1_
   clear n0_ n1_
   refine start_ (n := 9) (S := fun w' => True) (ds := []) (pT 9 0) (by kernel_rfl) rfl rfl trivial (fun hHeld => ?_); refine with_tabW spec_diMake.tab3 spec_diMake.bits3 (fun HT_ HW_ => ?_)
   generalize w7.drew = w8 at BK208 HB hHeld ⊢
   iterate 7
    refine pI (v := ?_) (a' := ?_) rfl (any_of HT_.out (by kernel_rfl)) (fun _ _ _ h => h) (Or.inl ⟨by rfl, ?_⟩) ?_ ?_
    rotate_left
    ·intro w'
     go_simp
     with_reducible rfl
    rotate_left
    ·show Act.put _ (some _) _ = _
     simp only [Act.put, List.setIfInBounds_toArray, List.set_cons_zero, List.set_cons_succ, i64_w, i32_w]
     rfl
   refine one_ (i := 7) (N := some 7) (pT 9 8) rfl rfl (one_of HT_.out (by kernel_rfl)) (by decide) (fun K hK => ?_)
   refine box_step ?hg (N := 7) ?hd (cs := #[.int .i64 0, .int .i64 0]) (t := 23) ?hr ?_; (case hd => rfl); (case hg => rfl); (case hr => first | (go_simp; done) | (go_simp; rfl))
   intro gb210 hg w9 hbox hb
   have hp0 := pA BK208 hb
   have hv := vK HB hb
   have n1_ := Am (bT hv hb)
   have n2_ := Am (hbox)
   have GW210 := kG hg hv
   have GE210 := kG hg hv
   have hp1 := pK BK208 hb
   obtain ⟨NB208_210, NB210_208⟩ := kXY hg hp1 BK208
   clear HB
   replace BK208 := hp0 BK208
   have HB := n1_; have BK210 := n2_
   clear n1_ n2_ hp0 hp1 hv hb hbox hg
   refine hK.out _ _ trivial (fun hHeld => ?_)
   clear hK K
   refine norm_ (a' := ?_) ?_ ?_
   rotate_left
   ·show Act.put _ (some 7) _ = _
    simp only [Act.put, List.setIfInBounds_toArray, List.set_cons_zero, List.set_cons_succ, i64_w, i32_w]
    rfl
   refine one_ (i := 8) (N := none) (pT 9 9) rfl rfl (one_of HT_.out (by kernel_rfl)) (by decide) (fun K hK => ?_)
   have hs10 : w9.cell? ⟨gb210, 0, none⟩ = some (.int .i64 0) := (kC BK210.out 0).trans rfl
   have hfs10 := kF BK210.out 0
   have hns10_0 := NB208_210.out; have hms10_0 := NB210_208.out
   have hs11 : w9.cell? ⟨gb210, 1, none⟩ = some (.int .i64 0) := (kC BK210.out 1).trans rfl
   have hfs11 := kF BK210.out 1
   have hns11_0 := NB208_210.out; have hms11_0 := NB210_208.out
   refine skip_ (w1 := ?_) (by rfl) rfl ?_ ?_
   rotate_left
   ·go_simp
    rfl
   refine hK.out _ _ trivial (fun hHeld => ?_)
   clear hK K
   refine done_ (done_of HT_.out (by kernel_rfl)) ?_
   have u12 := kO NB210_208
   have hcz13_0 : w9.cell? ⟨gb210, 0, none⟩ = some (.int .i64 0) := (kC BK210.out 0).trans rfl
   have hcz13_1 : w9.cell? ⟨gb210, 1, none⟩ = some (.int .i64 0) := (kC BK210.out 1).trans rfl
   have hfz13_0 := kF BK210.out 0
   have hfz13_1 := kF BK210.out 1
   have z14 := c2 BK208
   try go_wp2
   refine bodyPost_ret (results_ct rfl _ _ gb208 23 #[.int .i64 0, .int .i64 0] (0, 0) _ rfl (by (with_reducible repeat (first | refine kN ?_ _ | refine kD ?_ | refine kA ?_ _)); refine kP (cs := #[.int .i64 0, .int .i64 0]) ?_ 1 _ rfl; (with_reducible repeat (first | refine kN ?_ _ | refine kD ?_ | refine kA ?_ _)); refine kP (cs := #[.int .i64 0, .int .i64 0]) ?_ 0 _ rfl; (with_reducible repeat (first | refine kN ?_ _ | refine kD ?_ | refine kA ?_ _)); refine kR ?_ NB208_210.out _; (with_reducible repeat (first | refine kN ?_ _ | refine kD ?_ | refine kA ?_ _)); refine kR ?_ NB208_210.out _; (with_reducible repeat (first | refine kN ?_ _ | refine kD ?_ | refine kA ?_ _)); exact BK208.out) Try.underlying23 rfl (by kernel_rfl)) rfl ?_
   exact ⟨by first | rfl | (simp [errW_none, errW_some] <;> rfl) | (simp [*, errW_none, errW_some] <;> rfl), by repeat (first | (with_reducible first | exact HB.out | apply bA | apply bN | apply bD | refine bX ?_ (by assumption)) | exact HB.out)⟩
 rw [if_neg c6] at H
 have c6b0 : decide (1000000 < (wrap64 (Int.tdiv a1 t209))) = false := decide_eq_false c6
 clear c6
 focus
  simp only [Option.some.injEq, Prod.mk.injEq] at H
  obtain ⟨rfl, rfl, rfl⟩ := H
  go_enter Try.func45, Try.ntmps45
  try go_wp2_with (first | ((with_reducible refine gate_dst (N := 4) rfl ?_); refine bE 4 #[.int .i64 0, .int .i64 0] 23 ?_; intro gb208 hg w15 hbox hb; have hv := vK HB hb; have n0_ := Am (bT hv hb); have n1_ := Am (hbox); have GW208 := kG hg hv; have GE208 := kG hg hv; clear HB; have HB := n0_; have BK208 := n1_; clear n0_ n1_ hv; clear hb hbox hg) | ((with_reducible refine gate_callee (f := 54) rfl ?_); refine gL (some 17) Try.func54 #[.int .i64 (Int.tmod (wrap64 ((Int.tmod a0 a1) + a1)) a1), .int .i64 a1] rfl ?_; (with_reducible refine (spec_diCommon.calls k (Int.tmod (wrap64 ((Int.tmod a0 a1) + a1)) a1) a1 t209 _ A4.out).mono ?_); rintro e w' ⟨rfl, ⟨nd, rfl⟩⟩; refine ⟨_, rfl, ?_⟩; (try (rw [drewN_self w15]; generalize hq_ : World.drewN w15 _ = w15; have n0_ : Aside0 (w15.heap[gb208]? = some (.cells #[.int .i64 0, .int .i64 0] 23 (0, 0))) := ⟨by rw [← hq_]; exact (kU BK208)⟩; have n1_ : Aside0 (Below w.heap.size w w15) := ⟨by rw [← hq_]; exact (by repeat (first | (with_reducible first | exact HB.out | apply bA | apply bN | apply bD | refine bX ?_ (by assumption)) | exact HB.out))⟩; clear BK208 HB hq_; have BK208 := n0_; have HB := n1_; clear n0_ n1_))))
  have n0_ := Am (kD BK208.out)
  have n1_ := Am (bD HB.out)
  clear BK208 HB
  have BK208 := n0_; have HB := n1_
  clear n0_ n1_
  refine start_ (n := 9) (S := fun w' => True) (ds := []) (pT 9 0) (by kernel_rfl) rfl rfl trivial (fun hHeld => ?_); refine with_tabW spec_diMake.tab3 spec_diMake.bits3 (fun HT_ HW_ => ?_)
  generalize w15.drew = w16 at BK208 HB hHeld ⊢
  iterate 7
   refine pI (v := ?_) (a' := ?_) rfl (any_of HT_.out (by kernel_rfl)) (fun _ _ _ h => h) (Or.inl ⟨by rfl, ?_⟩) ?_ ?_
   rotate_left
   ·intro w'
    go_simp
    with_reducible rfl
   rotate_left
   ·show Act.put _ (some _) _ = _
    simp only [Act.put, List.setIfInBounds_toArray, List.set_cons_zero, List.set_cons_succ, i64_w, i32_w]
    rfl
  refine one_ (i := 7) (N := some 7) (pT 9 8) rfl rfl (one_of HT_.out (by kernel_rfl)) (by decide) (fun K hK => ?_)
  refine box_step ?hg (N := 7) ?hd (cs := #[.int .i64 0, .int .i64 0]) (t := 23) ?hr ?_; (case hd => rfl); (case hg => rfl); (case hr => first | (go_simp; done) | (go_simp; rfl))
  intro gb210 hg w17 hbox hb
  have hp0 := pA BK208 hb
  have hv := vK HB hb
  have n1_ := Am (bT hv hb)
  have n2_ := Am (hbox)
  have GW210 := kG hg hv
  have GE210 := kG hg hv
  have hp1 := pK BK208 hb
  obtain ⟨NB208_210, NB210_208⟩ := kXY hg hp1 BK208
  clear HB
  replace BK208 := hp0 BK208
  have HB := n1_; have BK210 := n2_
  clear n1_ n2_ hp0 hp1 hv hb hbox hg
  refine hK.out _ _ trivial (fun hHeld => ?_)
  clear hK K
  refine norm_ (a' := ?_) ?_ ?_
  rotate_left
  ·show Act.put _ (some 7) _ = _
   simp only [Act.put, List.setIfInBounds_toArray, List.set_cons_zero, List.set_cons_succ, i64_w, i32_w]
   rfl
  refine one_ (i := 8) (N := none) (pT 9 9) rfl rfl (one_of HT_.out (by kernel_rfl)) (by decide) (fun K hK => ?_)
  have hs18 : w17.cell? ⟨gb210, 0, none⟩ = some (.int .i64 0) := (kC BK210.out 0).trans rfl
  have hfs18 := kF BK210.out 0
  have hns18_0 := NB208_210.out; have hms18_0 := NB210_208.out
  have hs19 : w17.cell? ⟨gb210, 1, none⟩ = some (.int .i64 0) := (kC BK210.out 1).trans rfl
  have hfs19 := kF BK210.out 1
  have hns19_0 := NB208_210.out; have hms19_0 := NB210_208.out
  refine skip_ (w1 := ?_) (by rfl) rfl ?_ ?_
  rotate_left
  ·go_simp
   rfl
  refine hK.out _ _ trivial (fun hHeld => ?_)
  clear hK K
  refine done_ (done_of HT_.out (by kernel_rfl)) ?_
  have u20 := kO NB210_208
  have hcz21_0 : w17.cell? ⟨gb210, 0, none⟩ = some (.int .i64 0) := (kC BK210.out 0).trans rfl
  have hcz21_1 : w17.cell? ⟨gb210, 1, none⟩ = some (.int .i64 0) := (kC BK210.out 1).trans rfl
  have hfz21_0 := kF BK210.out 0
  have hfz21_1 := kF BK210.out 1
  have z22 := c2 BK208
  try go_wp2
  refine bodyPost_ret (results_ct rfl _ _ gb208 23 #[.int .i64 (wrap64 (Int.tdiv (Int.tmod (wrap64 ((Int.tmod a0 a1) + a1)) a1) t209)), .int .i64 (wrap64 (Int.tdiv a1 t209))] (0, 0) _ rfl (by (with_reducible repeat (first | refine kN ?_ _ | refine kD ?_ | refine kA ?_ _)); refine kP (cs := #[.int .i64 (wrap64 (Int.tdiv (Int.tmod (wrap64 ((Int.tmod a0 a1) + a1)) a1) t209)), .int .i64 0]) ?_ 1 _ rfl; (with_reducible repeat (first | refine kN ?_ _ | refine kD ?_ | refine kA ?_ _)); refine kP (cs := #[.int .i64 0, .int .i64 0]) ?_ 0 _ rfl; (with_reducible repeat (first | refine kN ?_ _ | refine kD ?_ | refine kA ?_ _)); refine kR ?_ NB208_210.out _; (with_reducible repeat (first | refine kN ?_ _ | refine kD ?_ | refine kA ?_ _)); refine kR ?_ NB208_210.out _; (with_reducible repeat (first | refine kN ?_ _ | refine kD ?_ | refine kA ?_ _)); exact BK208.out) Try.underlying23 rfl (by kernel_rfl)) rfl ?_
  exact ⟨by first | rfl | (simp [errW_none, errW_some] <;> rfl) | (simp [*, errW_none, errW_some] <;> rfl), by repeat (first | (with_reducible first | exact HB.out | apply bA | apply bN | apply bD | refine bX ?_ (by assumption)) | exact HB.out)⟩
/-! ### spec_diAdd: function 43 -/
def spec_diAdd.f (k : Nat) (a0_0 : Int) (a0_1 : Int) (a1_0 : Int) (a1_1 : Int) (a2 : Int) : Option (Int × Int × Bool) := (spec_diMake.f k (wrap64 ((wrap64 (a0_0 * a1_1)) + (wrap64 ((wrap64 (a2 * a1_0)) * a0_1)))) (wrap64 (a0_1 * a1_1))).bind fun bt214 => (some (bt214.1, bt214.2.1, bt214.2.2))
theorem spec_diAdd.mono : ∀ a0 a1 a2 a3 a4 k, LeO (spec_diAdd.f k a0 a1 a2 a3 a4) (spec_diAdd.f (k + 1) a0 a1 a2 a3 a4) := by
 intro a0 a1 a2 a3 a4 k
 unfold spec_diAdd.f
 repeat' first
   | (with_reducible exact spec_diMake.mono _ _ _)
   | (with_reducible exact LeO.refl _)
   | (with_reducible exact LeO.none _)
   | (with_reducible refine LeO.ite ?_ ?_)
   | (with_reducible refine LeO.bind ?_ (fun _ => ?_))
   | exact spec_diMake.mono _ _ _
   | exact LeO.none _
   | refine LeO.ite ?_ ?_
   | refine LeO.bind ?_ (fun _ => ?_)
set_option maxHeartbeats 8000000 in
set_option maxRecDepth 100000 in
theorem spec_diAdd.calls (k : Nat) (a0_0 : Int) (a0_1 : Int) (a1_0 : Int) (a1_1 : Int) (a2 : Int) (r1 : Int) (r2 : Int) (r3 : Bool) (w : World) (h : spec_diAdd.f k a0_0 a0_1 a1_0 a1_1 a2 = some (r1, r2, r3)) :
  Calls Try.prog 43 #[.agg #[.int .i64 a0_0, .int .i64 a0_1], .agg #[.int .i64 a1_0, .int .i64 a1_1], .int .i64 a2] w fun e w' => e = .returned (.tuple #[.agg #[.int .i64 r1, .int .i64 r2], .bool r3]) ∧ Below w.heap.size w w' := by
 have hu23 := Try.underlying23
 have HB := Am (Below.refl w.heap.size w)
 have H : ((spec_diMake.f k (wrap64 ((wrap64 (a0_0 * a1_1)) + (wrap64 ((wrap64 (a2 * a1_0)) * a0_1)))) (wrap64 (a0_1 * a1_1))).bind fun bt214 => (some (bt214.1, bt214.2.1, bt214.2.2))) = some (r1, r2, r3) := h
 clear h
 replace H := Option.bind_eq_some_iff.mp H
 obtain ⟨⟨t214, t215, t216⟩, A40, H⟩ := H
 try dsimp only at H
 have A4 := Am A40
 clear A40
 focus
  simp only [Option.some.injEq, Prod.mk.injEq] at H
  obtain ⟨rfl, rfl, rfl⟩ := H
  go_enter Try.func43, Try.ntmps43
  go_wp2_with (first | ((with_reducible refine gate_dst (N := 3) rfl ?_); refine bE 3 #[.int .i64 a0_0, .int .i64 a0_1] 23 ?_; intro gb211 hg w5 hbox hb; have hv := vK HB hb; have n0_ := Am (bT hv hb); have n1_ := Am (hbox); have GW211 := kG hg hv; have GE211 := kG hg hv; clear HB; have HB := n0_; have BK211 := n1_; clear n0_ n1_ hv; clear hb hbox hg) | ((with_reducible refine gate_dst (N := 4) rfl ?_); refine bE 4 #[.int .i64 a1_0, .int .i64 a1_1] 23 ?_; intro gb212 hg w6 hbox hb; have hp0 := pA BK211 hb; have hv := vK HB hb; have n1_ := Am (bT hv hb); have n2_ := Am (hbox); have GW212 := kG hg hv; have GE212 := kG hg hv; have hp1 := pK BK211 hb; obtain ⟨NB211_212, NB212_211⟩ := kXY hg hp1 BK211; clear HB; replace BK211 := hp0 BK211; have HB := n1_; have BK212 := n2_; clear n1_ n2_ hp0 hp1 hv; clear hb hbox hg) | ((with_reducible refine gate_dst (N := 6) rfl ?_); refine bE 6 #[.int .i64 0, .int .i64 0] 23 ?_; intro gb213 hg w7 hbox hb; have hp0 := pA BK211 hb; have hv := vK HB hb; have n2_ := Am (bT hv hb); have n3_ := Am (hbox); have GW213 := kG hg hv; have GE213 := kG hg hv; have hp1 := pK BK211 hb; obtain ⟨NB211_213, NB213_211⟩ := kXY hg hp1 BK211; obtain ⟨NB212_213, NB213_212⟩ := kXY hg hp1 BK212; clear HB; replace BK211 := hp0 BK211; replace BK212 := hp0 BK212; have HB := n2_; have BK213 := n3_; clear n2_ n3_ hp0 hp1 hv; clear hb hbox hg; have u8 := kO NB211_212; have u9 := kO NB211_213; have z10 := c2 BK211; have u11 := kO NB212_213; have z12 := c2 BK212) | ((with_reducible refine gate_callee (f := 45) rfl ?_); refine gL (some 26) Try.func45 #[.int .i64 (wrap64 ((wrap64 (a0_0 * a1_1)) + (wrap64 ((wrap64 (a2 * a1_0)) * a0_1)))), .int .i64 (wrap64 (a0_1 * a1_1))] rfl ?_; (with_reducible refine (spec_diMake.calls k (wrap64 ((wrap64 (a0_0 * a1_1)) + (wrap64 ((wrap64 (a2 * a1_0)) * a0_1)))) (wrap64 (a0_1 * a1_1)) t214 t215 t216 _ A4.out).mono ?_); rintro e w13 ⟨rfl, hb⟩; refine ⟨_, rfl, ?_⟩; have hp0 := pA BK211 hb; have hv := vK HB hb; have n3_ := Am (bT hv hb); clear HB; replace BK211 := hp0 BK211; replace BK212 := hp0 BK212; replace BK213 := hp0 BK213; have HB := n3_; clear n3_ hp0 hv; (try clear hb); have z14 := c2 BK213))
  refine bodyPost_ret (results_ct rfl _ _ gb213 23 #[.int .i64 t214, .int .i64 t215] (0, 0) _ rfl (by (with_reducible repeat (first | refine kN ?_ _ | refine kD ?_ | refine kA ?_ _)); refine kP (cs := #[.int .i64 t214, .int .i64 0]) ?_ 1 _ rfl; (with_reducible repeat (first | refine kN ?_ _ | refine kD ?_ | refine kA ?_ _)); refine kP (cs := #[.int .i64 0, .int .i64 0]) ?_ 0 _ rfl; (with_reducible repeat (first | refine kN ?_ _ | refine kD ?_ | refine kA ?_ _)); exact BK213.out) Try.underlying23 rfl (by kernel_rfl)) rfl ?_
  exact ⟨by first | rfl | (simp [errW_none, errW_some] <;> rfl) | (simp [*, errW_none, errW_some] <;> rfl), by repeat (first | (with_reducible first | exact HB.out | apply bA | apply bN | apply bD | refine bX ?_ (by assumption)) | exact HB.out)⟩
/-! ### spec_diTimes: function 59 -/
def spec_diTimes.f (k : Nat) (a0_0 : Int) (a0_1 : Int) (a1 : Int) : Option (Int × Int) := (spec_diMake.f k (wrap64 (a0_0 * a1)) a0_1).bind fun bt219 => (some (bt219.1, bt219.2.1))
theorem spec_diTimes.mono : ∀ a0 a1 a2 k, LeO (spec_diTimes.f k a0 a1 a2) (spec_diTimes.f (k + 1) a0 a1 a2) := by
 intro a0 a1 a2 k
 unfold spec_diTimes.f
 repeat' first
   | (with_reducible exact spec_diMake.mono _ _ _)
   | (with_reducible exact LeO.refl _)
   | (with_reducible exact LeO.none _)
   | (with_reducible refine LeO.ite ?_ ?_)
   | (with_reducible refine LeO.bind ?_ (fun _ => ?_))
   | exact spec_diMake.mono _ _ _
   | exact LeO.none _
   | refine LeO.ite ?_ ?_
   | refine LeO.bind ?_ (fun _ => ?_)
set_option maxHeartbeats 8000000 in
set_option maxRecDepth 100000 in
theorem spec_diTimes.calls (k : Nat) (a0_0 : Int) (a0_1 : Int) (a1 : Int) (r1 : Int) (r2 : Int) (w : World) (h : spec_diTimes.f k a0_0 a0_1 a1 = some (r1, r2)) :
  Calls Try.prog 59 #[.agg #[.int .i64 a0_0, .int .i64 a0_1], .int .i64 a1] w fun e w' => e = .returned (.agg #[.int .i64 r1, .int .i64 r2]) ∧ Below w.heap.size w w' := by
 have hu23 := Try.underlying23
 have HB := Am (Below.refl w.heap.size w)
 have H : ((spec_diMake.f k (wrap64 (a0_0 * a1)) a0_1).bind fun bt219 => (some (bt219.1, bt219.2.1))) = some (r1, r2) := h
 clear h
 replace H := Option.bind_eq_some_iff.mp H
 obtain ⟨⟨t219, t220, t221⟩, A30, H⟩ := H
 try dsimp only at H
 have A3 := Am A30
 clear A30
 focus
  simp only [Option.some.injEq, Prod.mk.injEq] at H
  obtain ⟨rfl, rfl⟩ := H
  go_enter Try.func59, Try.ntmps59
  go_wp2_with (first | ((with_reducible refine gate_dst (N := 2) rfl ?_); refine bE 2 #[.int .i64 a0_0, .int .i64 a0_1] 23 ?_; intro gb217 hg w4 hbox hb; have hv := vK HB hb; have n0_ := Am (bT hv hb); have n1_ := Am (hbox); have GW217 := kG hg hv; have GE217 := kG hg hv; clear HB; have HB := n0_; have BK217 := n1_; clear n0_ n1_ hv; clear hb hbox hg) | ((with_reducible refine gate_dst (N := 4) rfl ?_); refine bE 4 #[.int .i64 0, .int .i64 0] 23 ?_; intro gb218 hg w5 hbox hb; have hp0 := pA BK217 hb; have hv := vK HB hb; have n1_ := Am (bT hv hb); have n2_ := Am (hbox); have GW218 := kG hg hv; have GE218 := kG hg hv; have hp1 := pK BK217 hb; obtain ⟨NB217_218, NB218_217⟩ := kXY hg hp1 BK217; clear HB; replace BK217 := hp0 BK217; have HB := n1_; have BK218 := n2_; clear n1_ n2_ hp0 hp1 hv; clear hb hbox hg; have u6 := kO NB217_218; have z7 := c2 BK217) | ((with_reducible refine gate_callee (f := 45) rfl ?_); refine gL (some 14) Try.func45 #[.int .i64 (wrap64 (a0_0 * a1)), .int .i64 a0_1] rfl ?_; (with_reducible refine (spec_diMake.calls k (wrap64 (a0_0 * a1)) a0_1 t219 t220 t221 _ A3.out).mono ?_); rintro e w8 ⟨rfl, hb⟩; refine ⟨_, rfl, ?_⟩; have hp0 := pA BK217 hb; have hv := vK HB hb; have n2_ := Am (bT hv hb); clear HB; replace BK217 := hp0 BK217; replace BK218 := hp0 BK218; have HB := n2_; clear n2_ hp0 hv; (try clear hb)) | ((with_reducible refine gate_dst (N := 5) rfl ?_); refine bE 5 #[.int .i64 0, .int .i64 0] 23 ?_; intro gb222 hg w9 hbox hb; have hp0 := pA BK217 hb; have hv := vK HB hb; have n2_ := Am (bT hv hb); have n3_ := Am (hbox); have GW222 := kG hg hv; have GE222 := kG hg hv; have hp1 := pK BK217 hb; obtain ⟨NB217_222, NB222_217⟩ := kXY hg hp1 BK217; obtain ⟨NB218_222, NB222_218⟩ := kXY hg hp1 BK218; clear HB; replace BK217 := hp0 BK217; replace BK218 := hp0 BK218; have HB := n2_; have BK222 := n3_; clear n2_ n3_ hp0 hp1 hv; clear hb hbox hg; have u10 := kO NB222_217; have u11 := kO NB222_218; have hcz12_0 : w9.cell? ⟨gb222, 0, none⟩ = some (.int .i64 0) := (kC BK222.out 0).trans rfl; have hcz12_1 : w9.cell? ⟨gb222, 1, none⟩ = some (.int .i64 0) := (kC BK222.out 1).trans rfl; have hfz12_0 := kF BK222.out 0; have hfz12_1 := kF BK222.out 1; have z13 := c2 BK218))
  refine bodyPost_ret (results_cell_row rfl _ _ gb218 23 #[.int .i64 t219, .int .i64 t220] (0, 0) _ rfl (by (with_reducible repeat (first | refine kN ?_ _ | refine kD ?_ | refine kA ?_ _)); refine kP (cs := #[.int .i64 t219, .int .i64 0]) ?_ 1 _ rfl; (with_reducible repeat (first | refine kN ?_ _ | refine kD ?_ | refine kA ?_ _)); refine kP (cs := #[.int .i64 0, .int .i64 0]) ?_ 0 _ rfl; (with_reducible repeat (first | refine kN ?_ _ | refine kD ?_ | refine kA ?_ _)); refine kR ?_ NB218_222.out _; (with_reducible repeat (first | refine kN ?_ _ | refine kD ?_ | refine kA ?_ _)); refine kR ?_ NB218_222.out _; (with_reducible repeat (first | refine kN ?_ _ | refine kD ?_ | refine kA ?_ _)); exact BK218.out) Try.underlying23 rfl (by kernel_rfl)) rfl ?_
  exact ⟨by first | rfl | (simp [errW_none, errW_some] <;> rfl) | (simp [*, errW_none, errW_some] <;> rfl), by repeat (first | (with_reducible first | exact HB.out | apply bA | apply bN | apply bD | refine bX ?_ (by assumption)) | exact HB.out)⟩
/-! ### spec_diMirror: function 44 -/
def spec_diMirror.f (k : Nat) (a0_0 : Int) (a0_1 : Int) : Option (Int × Int) := (spec_diTimes.f k a0_0 a0_1 (-1)).bind fun bt225 => (some (bt225.1, bt225.2))
theorem spec_diMirror.mono : ∀ a0 a1 k, LeO (spec_diMirror.f k a0 a1) (spec_diMirror.f (k + 1) a0 a1) := by
 intro a0 a1 k
 unfold spec_diMirror.f
 repeat' first
   | (with_reducible exact spec_diTimes.mono _ _ _ _)
   | (with_reducible exact LeO.refl _)
   | (with_reducible exact LeO.none _)
   | (with_reducible refine LeO.ite ?_ ?_)
   | (with_reducible refine LeO.bind ?_ (fun _ => ?_))
   | exact spec_diTimes.mono _ _ _ _
   | exact LeO.none _
   | refine LeO.ite ?_ ?_
   | refine LeO.bind ?_ (fun _ => ?_)
set_option maxHeartbeats 8000000 in
set_option maxRecDepth 100000 in
theorem spec_diMirror.calls (k : Nat) (a0_0 : Int) (a0_1 : Int) (r1 : Int) (r2 : Int) (w : World) (h : spec_diMirror.f k a0_0 a0_1 = some (r1, r2)) :
  Calls Try.prog 44 #[.agg #[.int .i64 a0_0, .int .i64 a0_1]] w fun e w' => e = .returned (.agg #[.int .i64 r1, .int .i64 r2]) ∧ Below w.heap.size w w' := by
 have hu23 := Try.underlying23
 have HB := Am (Below.refl w.heap.size w)
 have H : ((spec_diTimes.f k a0_0 a0_1 (-1)).bind fun bt225 => (some (bt225.1, bt225.2))) = some (r1, r2) := h
 clear h
 replace H := Option.bind_eq_some_iff.mp H
 obtain ⟨⟨t225, t226⟩, A20, H⟩ := H
 try dsimp only at H
 have A2 := Am A20
 clear A20
 focus
  simp only [Option.some.injEq, Prod.mk.injEq] at H
  obtain ⟨rfl, rfl⟩ := H
  go_enter Try.func44, Try.ntmps44
  go_wp2_with (first | ((with_reducible refine gate_dst (N := 1) rfl ?_); refine bE 1 #[.int .i64 a0_0, .int .i64 a0_1] 23 ?_; intro gb223 hg w3 hbox hb; have hv := vK HB hb; have n0_ := Am (bT hv hb); have n1_ := Am (hbox); have GW223 := kG hg hv; have GE223 := kG hg hv; clear HB; have HB := n0_; have BK223 := n1_; clear n0_ n1_ hv; clear hb hbox hg) | ((with_reducible refine gate_dst (N := 2) rfl ?_); refine bE 2 #[.int .i64 0, .int .i64 0] 23 ?_; intro gb224 hg w4 hbox hb; have hp0 := pA BK223 hb; have hv := vK HB hb; have n1_ := Am (bT hv hb); have n2_ := Am (hbox); have GW224 := kG hg hv; have GE224 := kG hg hv; have hp1 := pK BK223 hb; obtain ⟨NB223_224, NB224_223⟩ := kXY hg hp1 BK223; clear HB; replace BK223 := hp0 BK223; have HB := n1_; have BK224 := n2_; clear n1_ n2_ hp0 hp1 hv; clear hb hbox hg; have u5 := kO NB223_224; have z6 := c2 BK223) | ((with_reducible refine gate_callee (f := 59) rfl ?_); refine gL (some 4) Try.func59 #[.agg #[.int .i64 a0_0, .int .i64 a0_1], .int .i64 (-1)] rfl ?_; (with_reducible refine (spec_diTimes.calls k a0_0 a0_1 (-1) t225 t226 _ A2.out).mono ?_); rintro e w7 ⟨rfl, hb⟩; refine ⟨_, rfl, ?_⟩; have hp0 := pA BK223 hb; have hv := vK HB hb; have n2_ := Am (bT hv hb); clear HB; replace BK223 := hp0 BK223; replace BK224 := hp0 BK224; have HB := n2_; clear n2_ hp0 hv; (try clear hb); have z8 := c2 BK224))
  refine bodyPost_ret (results_cell_row rfl _ _ gb224 23 #[.int .i64 t225, .int .i64 t226] (0, 0) _ rfl (by (with_reducible repeat (first | refine kN ?_ _ | refine kD ?_ | refine kA ?_ _)); refine kP (cs := #[.int .i64 t225, .int .i64 0]) ?_ 1 _ rfl; (with_reducible repeat (first | refine kN ?_ _ | refine kD ?_ | refine kA ?_ _)); refine kP (cs := #[.int .i64 0, .int .i64 0]) ?_ 0 _ rfl; (with_reducible repeat (first | refine kN ?_ _ | refine kD ?_ | refine kA ?_ _)); exact BK224.out) Try.underlying23 rfl (by kernel_rfl)) rfl ?_
  exact ⟨by first | rfl | (simp [errW_none, errW_some] <;> rfl) | (simp [*, errW_none, errW_some] <;> rfl), by repeat (first | (with_reducible first | exact HB.out | apply bA | apply bN | apply bD | refine bX ?_ (by assumption)) | exact HB.out)⟩
/-! ### spec_meTimes: function 27 -/
mutual
def spec_meTimes.j0 : Nat → Int → Int → Int → Option ((List (S23)) × Bool)
 | 0, _, _, _ => none
 | k + 1, x8, x233000, x233001 => spec_meTimes.l0 k x8 ([] : List (S23)) 0 x233000 x233001
def spec_meTimes.l0 : Nat → Int → List (S23) → Int → Int → Int → Option ((List (S23)) × Bool)
 | 0, _, _, _, _, _ => none
 | k + 1, x8, x9, x10, x233000, x233001 => if x10 < x8 then ((spec_diMake.f k (wrap64 (x233000 + (wrap64 (x10 * x233001)))) (wrap64 (x233001 * x8))).bind fun bt235 => (if bt235.2.2 = true then (if x9.length < 8796093022208 then (spec_meTimes.l0 k x8 (x9 ++ [(⟨bt235.1, bt235.2.1⟩ : S23)]) (wrap64 (x10 + 1)) x233000 x233001) else (none)) else (some (([] : List (S23)), false)))) else (some (x9, true))
end
def spec_meTimes.f (k : Nat) (a0_0 : Int) (a0_1 : Int) (a0_2 : Int) (a1_0 : Int) (a1_1 : Int) : Option ((List (S23)) × Bool) := (spec_diAdd.f k a1_0 a1_1 a0_0 a0_1 (-1)).bind fun bt229 => (if bt229.2.2 = true then (if a0_2 < 0 then ((spec_diMirror.f k bt229.1 bt229.2.1).bind fun bt233 => (spec_meTimes.j0 k (wrap64 (-a0_2)) bt233.1 bt233.2)) else (spec_meTimes.j0 k a0_2 bt229.1 bt229.2.1)) else (some (([] : List (S23)), false)))
theorem spec_meTimes.mono_l : ∀ k, (∀ y0 y1 y2, LeO (spec_meTimes.j0 k y0 y1 y2) (spec_meTimes.j0 (k + 1) y0 y1 y2)) ∧ (∀ y0 y1 y2 y3 y4, LeO (spec_meTimes.l0 k y0 y1 y2 y3 y4) (spec_meTimes.l0 (k + 1) y0 y1 y2 y3 y4))
 | 0 => ⟨fun _ _ _ r h => by simp [spec_meTimes.j0] at h, fun _ _ _ _ _ r h => by simp [spec_meTimes.l0] at h⟩
 | k + 1 => by
  obtain ⟨ih0, ih1⟩ := spec_meTimes.mono_l k
  refine ⟨?_, ?_⟩
  ·intro y0 y1 y2
   unfold spec_meTimes.j0
   repeat' first
   | (with_reducible apply ih0)
   | (with_reducible apply ih1)
   | (with_reducible exact spec_diAdd.mono _ _ _ _ _ _)
   | (with_reducible exact spec_diMake.mono _ _ _)
   | (with_reducible exact spec_diMirror.mono _ _ _)
   | (with_reducible exact LeO.refl _)
   | (with_reducible exact LeO.none _)
   | (with_reducible refine LeO.ite ?_ ?_)
   | (with_reducible refine LeO.bind ?_ (fun _ => ?_))
   | apply ih0
   | apply ih1
   | exact spec_diAdd.mono _ _ _ _ _ _
   | exact spec_diMake.mono _ _ _
   | exact spec_diMirror.mono _ _ _
   | exact LeO.none _
   | refine LeO.ite ?_ ?_
   | refine LeO.bind ?_ (fun _ => ?_)
  ·intro y0 y1 y2 y3 y4
   unfold spec_meTimes.l0
   repeat' first
   | (with_reducible apply ih0)
   | (with_reducible apply ih1)
   | (with_reducible exact spec_diAdd.mono _ _ _ _ _ _)
   | (with_reducible exact spec_diMake.mono _ _ _)
   | (with_reducible exact spec_diMirror.mono _ _ _)
   | (with_reducible exact LeO.refl _)
   | (with_reducible exact LeO.none _)
   | (with_reducible refine LeO.ite ?_ ?_)
   | (with_reducible refine LeO.bind ?_ (fun _ => ?_))
   | apply ih0
   | apply ih1
   | exact spec_diAdd.mono _ _ _ _ _ _
   | exact spec_diMake.mono _ _ _
   | exact spec_diMirror.mono _ _ _
   | exact LeO.none _
   | refine LeO.ite ?_ ?_
   | refine LeO.bind ?_ (fun _ => ?_)
theorem spec_meTimes.mono : ∀ a0 a1 a2 a3 a4 k, LeO (spec_meTimes.f k a0 a1 a2 a3 a4) (spec_meTimes.f (k + 1) a0 a1 a2 a3 a4) := by
 intro a0 a1 a2 a3 a4 k
 obtain ⟨ih0, ih1⟩ := spec_meTimes.mono_l k
 unfold spec_meTimes.f
 repeat' first
   | (with_reducible apply ih0)
   | (with_reducible apply ih1)
   | (with_reducible exact spec_diAdd.mono _ _ _ _ _ _)
   | (with_reducible exact spec_diMake.mono _ _ _)
   | (with_reducible exact spec_diMirror.mono _ _ _)
   | (with_reducible exact LeO.refl _)
   | (with_reducible exact LeO.none _)
   | (with_reducible refine LeO.ite ?_ ?_)
   | (with_reducible refine LeO.bind ?_ (fun _ => ?_))
   | apply ih0
   | apply ih1
   | exact spec_diAdd.mono _ _ _ _ _ _
   | exact spec_diMake.mono _ _ _
   | exact spec_diMirror.mono _ _ _
   | exact LeO.none _
   | refine LeO.ite ?_ ?_
   | refine LeO.bind ?_ (fun _ => ?_)
set_option maxHeartbeats 8000000 in
set_option maxRecDepth 100000 in
theorem spec_meTimes.calls (k : Nat) (a0_0 : Int) (a0_1 : Int) (a0_2 : Int) (a1_0 : Int) (a1_1 : Int) (r1 : List (S23)) (r2 : Bool) (w : World) (h : spec_meTimes.f k a0_0 a0_1 a0_2 a1_0 a1_1 = some (r1, r2)) :
  Calls Try.prog 27 #[.agg #[.int .i64 a0_0, .int .i64 a0_1, .int .i64 a0_2], .agg #[.int .i64 a1_0, .int .i64 a1_1]] w fun e w' => ∃ v0_ : Value, e = .returned (.tuple #[v0_, .bool r2]) ∧ Kd.R k23 23 w' w.heap.size (fun _ => True) v0_ r1 ∧ Below w.heap.size w w' := by
 have hu25 := Try.underlying25; have hu23 := Try.underlying23
 have HB := Am (Below.refl w.heap.size w)
 have H : ((spec_diAdd.f k a1_0 a1_1 a0_0 a0_1 (-1)).bind fun bt229 => (if bt229.2.2 = true then (if a0_2 < 0 then ((spec_diMirror.f k bt229.1 bt229.2.1).bind fun bt233 => (spec_meTimes.j0 k (wrap64 (-a0_2)) bt233.1 bt233.2)) else (spec_meTimes.j0 k a0_2 bt229.1 bt229.2.1)) else (some (([] : List (S23)), false)))) = some (r1, r2) := h
 clear h
 replace H := Option.bind_eq_some_iff.mp H
 obtain ⟨⟨t229, t230, t231⟩, A30, H⟩ := H
 try dsimp only at H
 have A3 := Am A30
 clear A30
 by_cases c4 : t231 = true
 ·subst c4
  have H1 : (if a0_2 < 0 then ((spec_diMirror.f k t229 t230).bind fun bt233 => (spec_meTimes.j0 k (wrap64 (-a0_2)) bt233.1 bt233.2)) else (spec_meTimes.j0 k a0_2 t229 t230)) = some (r1, r2) := by rw [if_pos rfl] at H; exact H
  clear H
  have H := H1
  clear H1
  have HC5 := Am H
  clear H
  go_enter Try.func27, Try.ntmps27
  go_upto_if 25 with (first | ((with_reducible refine gate_dst (N := 2) rfl ?_); refine bE 2 #[.int .i64 a0_0, .int .i64 a0_1, .int .i64 a0_2] 25 ?_; intro gb227 hg w6 hbox hb; have n0_ := Am (bT (by repeat (first | (with_reducible first | exact HB.out | apply bA | apply bN | apply bD) | exact HB.out)) hb); have n1_ := Am (hbox); have n2_ := Am ((by rw [hg]; exact (bZ (by repeat (first | (with_reducible first | exact HB.out | apply bA | apply bN | apply bD) | exact HB.out))) : w.heap.size ≤ gb227)); have n3_ := Am ((by rw [hg]; exact (bZ (by repeat (first | (with_reducible first | exact HB.out | apply bA | apply bN | apply bD) | exact HB.out))) : w.heap.size ≤ gb227)); clear HB; have HB := n0_; have BK227 := n1_; have GW227 := n2_; have GE227 := n3_; clear n0_ n1_ n2_ n3_; clear hb hbox hg) | ((with_reducible refine gate_dst (N := 3) rfl ?_); refine bE 3 #[.int .i64 a1_0, .int .i64 a1_1] 23 ?_; intro gb228 hg w7 hbox hb; have n0_ := Am (kB (g := gb227) (o := .cells #[.int .i64 a0_0, .int .i64 a0_1, .int .i64 a0_2] 25 (0, 0)) (kU BK227) hb); have n1_ := Am (bT (by repeat (first | (with_reducible first | exact HB.out | apply bA | apply bN | apply bD | refine bX ?_ (by assumption)) | exact HB.out)) hb); have n2_ := Am (hbox); have n3_ := Am ((by rw [hg]; exact (bZ (by repeat (first | (with_reducible first | exact HB.out | apply bA | apply bN | apply bD | refine bX ?_ (by assumption)) | exact HB.out))) : w.heap.size ≤ gb228)); have n4_ := Am ((by rw [hg]; exact (bZ (by repeat (first | (with_reducible first | exact HB.out | apply bA | apply bN | apply bD | refine bX ?_ (by assumption)) | exact HB.out))) : w.heap.size ≤ gb228)); have n5_ := Am ((by rw [hg]; exact Nat.ne_of_lt (kL (g := gb227) (o := .cells #[.int .i64 a0_0, .int .i64 a0_1, .int .i64 a0_2] 25 (0, 0)) (kU BK227)) : gb227 ≠ gb228)); have n6_ := Am ((by rw [hg]; exact Nat.ne_of_gt (kL (g := gb227) (o := .cells #[.int .i64 a0_0, .int .i64 a0_1, .int .i64 a0_2] 25 (0, 0)) (kU BK227)) : gb228 ≠ gb227)); clear BK227; clear HB; have BK227 := n0_; have HB := n1_; have BK228 := n2_; have GW228 := n3_; have GE228 := n4_; have NB227_228 := n5_; have NB228_227 := n6_; clear n0_ n1_ n2_ n3_ n4_ n5_ n6_; clear hb hbox hg; have u8 := kO NB228_227; have z9 := c2 BK228; have z10 := c3 BK227) | ((with_reducible refine gate_callee (f := 43) rfl ?_); refine gL (some 17) Try.func43 #[.agg #[.int .i64 a1_0, .int .i64 a1_1], .agg #[.int .i64 a0_0, .int .i64 a0_1], .int .i64 (-1)] rfl ?_; (with_reducible refine (spec_diAdd.calls k a1_0 a1_1 a0_0 a0_1 (-1) t229 t230 true _ A3.out).mono ?_); rintro e w11 ⟨rfl, hb⟩; refine ⟨_, rfl, ?_⟩; have n0_ := Am (kB (g := gb227) (o := .cells #[.int .i64 a0_0, .int .i64 a0_1, .int .i64 a0_2] 25 (0, 0)) (kU BK227) hb); have n1_ := Am (kB (g := gb228) (o := .cells #[.int .i64 a1_0, .int .i64 a1_1] 23 (0, 0)) (kU BK228) hb); have n2_ := Am (bT (by repeat (first | (with_reducible first | exact HB.out | apply bA | apply bN | apply bD | refine bX ?_ (by assumption)) | exact HB.out)) hb); clear BK227; clear BK228; clear HB; have BK227 := n0_; have BK228 := n1_; have HB := n2_; clear n0_ n1_ n2_; (try clear hb); (try clear hb2); (try clear hk); (try clear hi)) | ((with_reducible refine gate_dst (N := 6) rfl ?_); refine bE 6 #[.int .i64 0, .int .i64 0] 23 ?_; intro gb232 hg w12 hbox hb; have n0_ := Am (kB (g := gb227) (o := .cells #[.int .i64 a0_0, .int .i64 a0_1, .int .i64 a0_2] 25 (0, 0)) (kU BK227) hb); have n1_ := Am (kB (g := gb228) (o := .cells #[.int .i64 a1_0, .int .i64 a1_1] 23 (0, 0)) (kU BK228) hb); have n2_ := Am (bT (by repeat (first | (with_reducible first | exact HB.out | apply bA | apply bN | apply bD | refine bX ?_ (by assumption)) | exact HB.out)) hb); have n3_ := Am (hbox); have n4_ := Am ((by rw [hg]; exact (bZ (by repeat (first | (with_reducible first | exact HB.out | apply bA | apply bN | apply bD | refine bX ?_ (by assumption)) | exact HB.out))) : w.heap.size ≤ gb232)); have n5_ := Am ((by rw [hg]; exact (bZ (by repeat (first | (with_reducible first | exact HB.out | apply bA | apply bN | apply bD | refine bX ?_ (by assumption)) | exact HB.out))) : w.heap.size ≤ gb232)); have n6_ := Am ((by rw [hg]; exact Nat.ne_of_lt (kL (g := gb227) (o := .cells #[.int .i64 a0_0, .int .i64 a0_1, .int .i64 a0_2] 25 (0, 0)) (kU BK227)) : gb227 ≠ gb232)); have n7_ := Am ((by rw [hg]; exact Nat.ne_of_gt (kL (g := gb227) (o := .cells #[.int .i64 a0_0, .int .i64 a0_1, .int .i64 a0_2] 25 (0, 0)) (kU BK227)) : gb232 ≠ gb227)); have n8_ := Am ((by rw [hg]; exact Nat.ne_of_lt (kL (g := gb228) (o := .cells #[.int .i64 a1_0, .int .i64 a1_1] 23 (0, 0)) (kU BK228)) : gb228 ≠ gb232)); have n9_ := Am ((by rw [hg]; exact Nat.ne_of_gt (kL (g := gb228) (o := .cells #[.int .i64 a1_0, .int .i64 a1_1] 23 (0, 0)) (kU BK228)) : gb232 ≠ gb228)); clear BK227; clear BK228; clear HB; have BK227 := n0_; have BK228 := n1_; have HB := n2_; have BK232 := n3_; have GW232 := n4_; have GE232 := n5_; have NB227_232 := n6_; have NB232_227 := n7_; have NB228_232 := n8_; have NB232_228 := n9_; clear n0_ n1_ n2_ n3_ n4_ n5_ n6_ n7_ n8_ n9_; clear hb hbox hg; have u13 := kO NB232_227; have u14 := kO NB232_228; have z15 := c2 BK232; have z16 := c3 BK227))
  (try simp only [Act.put, List.setIfInBounds_toArray, List.set_cons_zero, List.set_cons_succ])
  go_cut [8] (fun v8 wc => ∃ (kq : Nat) (x8_4 : Int) (x233000_4 : Int) (x233001_4 : Int), v8 = .int .i64 x8_4 ∧ Aside0 (spec_meTimes.j0 kq x8_4 x233000_4 x233001_4 = some (r1, r2)) ∧ Aside0 (kq ≤ k) ∧ Aside0 (wc.heap[gb227]? = some (.cells #[.int .i64 a0_0, .int .i64 a0_1, .int .i64 a0_2] 25 (0, 0))) ∧ Aside0 (wc.heap[gb228]? = some (.cells #[.int .i64 a1_0, .int .i64 a1_1] 23 (0, 0))) ∧ Aside0 (wc.heap[gb232]? = some (.cells #[.int .i64 x233000_4, .int .i64 x233001_4] 23 (0, 0))) ∧ Aside0 (Below w.heap.size w wc))
  case first =>
   have H := HC5.out
   clear HC5
   by_cases c17 : a0_2 < 0
   ·rw [if_pos c17] at H
    have c17b0 : decide (a0_2 < 0) = true := decide_eq_true c17
    clear c17
    (first | rw [c17b0] | (simp only [i64_w, i32_w]; rw [c17b0]) | skip)
    replace H := Option.bind_eq_some_iff.mp H
    obtain ⟨⟨t233, t234⟩, A180, H⟩ := H
    try dsimp only at H
    have A18 := Am A180
    clear A180
    focus
     have H' := Am H
     clear H
     have u19 := kO NB232_227; have u20 := kO NB232_228
     have z21 := c2 BK232
     go_wp2_with (first | ((with_reducible refine gate_callee (f := 44) rfl ?_); refine gL (some 27) Try.func44 #[.agg #[.int .i64 t229, .int .i64 t230]] rfl ?_; (with_reducible refine (spec_diMirror.calls k t229 t230 t233 t234 _ A18.out).mono ?_); rintro e w22 ⟨rfl, hb⟩; refine ⟨_, rfl, ?_⟩; have hp0 := pB gb232 BK227 hb; have n2_ := Am (kB (g := gb232) (o := .cells #[.int .i64 t229, .int .i64 t230] 23 (0, 0)) (by (with_reducible repeat (first | refine kN ?_ _ | refine kD ?_ | refine kA ?_ _)); refine kP (cs := #[.int .i64 t229, .int .i64 0]) ?_ 1 _ rfl; (with_reducible repeat (first | refine kN ?_ _ | refine kD ?_ | refine kA ?_ _)); refine kP (cs := #[.int .i64 0, .int .i64 0]) ?_ 0 _ rfl; (with_reducible repeat (first | refine kN ?_ _ | refine kD ?_ | refine kA ?_ _)); exact BK232.out) hb); have hv := vK HB hb; have n3_ := Am (bT hv hb); clear BK232; clear HB; replace BK227 := hp0 NB227_232 BK227; replace BK228 := hp0 NB228_232 BK228; have BK232 := n2_; have HB := n3_; clear n2_ n3_ hp0 hv; (try clear hb); have z23 := c2 BK232))
     go_meet
     case rel => exact ⟨_, (wrap64 (-a0_2)), (t233), (t234), (by first | rfl | (simp; done) | (simp [*]; done)), H', ⟨by first | omega | exact Nat.le_refl _⟩, ⟨by (with_reducible repeat (first | refine kN ?_ _ | refine kD ?_ | refine kA ?_ _)); refine kR ?_ NB227_232.out _; (with_reducible repeat (first | refine kN ?_ _ | refine kD ?_ | refine kA ?_ _)); refine kR ?_ NB227_232.out _; (with_reducible repeat (first | refine kN ?_ _ | refine kD ?_ | refine kA ?_ _)); exact BK227.out⟩, ⟨by (with_reducible repeat (first | refine kN ?_ _ | refine kD ?_ | refine kA ?_ _)); refine kR ?_ NB228_232.out _; (with_reducible repeat (first | refine kN ?_ _ | refine kD ?_ | refine kA ?_ _)); refine kR ?_ NB228_232.out _; (with_reducible repeat (first | refine kN ?_ _ | refine kD ?_ | refine kA ?_ _)); exact BK228.out⟩, ⟨by (with_reducible repeat (first | refine kN ?_ _ | refine kD ?_ | refine kA ?_ _)); refine kP (cs := #[.int .i64 t233, .int .i64 t230]) ?_ 1 _ rfl; (with_reducible repeat (first | refine kN ?_ _ | refine kD ?_ | refine kA ?_ _)); refine kP (cs := #[.int .i64 t229, .int .i64 t230]) ?_ 0 _ rfl; (with_reducible repeat (first | refine kN ?_ _ | refine kD ?_ | refine kA ?_ _)); exact BK232.out⟩, ⟨by repeat (first | (with_reducible first | exact HB.out | apply bA | apply bN | apply bD | refine bX ?_ (by assumption)) | exact HB.out)⟩⟩
   rw [if_neg c17] at H
   have c17b0 : decide (a0_2 < 0) = false := decide_eq_false c17
   clear c17
   (first | rw [c17b0] | (simp only [i64_w, i32_w]; rw [c17b0]) | skip)
   focus
    have H' := Am H
    clear H
    go_wp2
    go_meet
    case rel => exact ⟨_, (a0_2), (t229), (t230), (by first | rfl | (simp; done) | (simp [*]; done)), H', ⟨by first | omega | exact Nat.le_refl _⟩, ⟨by (with_reducible repeat (first | refine kN ?_ _ | refine kD ?_ | refine kA ?_ _)); refine kR ?_ NB227_232.out _; (with_reducible repeat (first | refine kN ?_ _ | refine kD ?_ | refine kA ?_ _)); refine kR ?_ NB227_232.out _; (with_reducible repeat (first | refine kN ?_ _ | refine kD ?_ | refine kA ?_ _)); exact BK227.out⟩, ⟨by (with_reducible repeat (first | refine kN ?_ _ | refine kD ?_ | refine kA ?_ _)); refine kR ?_ NB228_232.out _; (with_reducible repeat (first | refine kN ?_ _ | refine kD ?_ | refine kA ?_ _)); refine kR ?_ NB228_232.out _; (with_reducible repeat (first | refine kN ?_ _ | refine kD ?_ | refine kA ?_ _)); exact BK228.out⟩, ⟨by (with_reducible repeat (first | refine kN ?_ _ | refine kD ?_ | refine kA ?_ _)); refine kP (cs := #[.int .i64 t229, .int .i64 0]) ?_ 1 _ rfl; (with_reducible repeat (first | refine kN ?_ _ | refine kD ?_ | refine kA ?_ _)); refine kP (cs := #[.int .i64 0, .int .i64 0]) ?_ 0 _ rfl; (with_reducible repeat (first | refine kN ?_ _ | refine kD ?_ | refine kA ?_ _)); exact BK232.out⟩, ⟨by repeat (first | (with_reducible first | exact HB.out | apply bA | apply bN | apply bD | refine bX ?_ (by assumption)) | exact HB.out)⟩⟩
  clear HC5
  (try clear c4); (try clear c20); (try clear z10); (try clear z15); (try clear z16); (try clear z9)
  obtain ⟨kq, x8_4, x233000_4, x233001_4, rfl, HA, HJ4, BK227, BK228, BK232, HB⟩ := hcut
  cases kq with
  | zero => exact absurd HA.out (by simp [spec_meTimes.j0])
  | succ kj4 =>
   have H := HA.out
   clear HA
   simp only [spec_meTimes.j0] at H
   have H' := Am H
   clear H
   go_wp2
   go_loopg [9, 10] kj4 (fun kq v9 v10 w' => ∃ (x9_2 : List (S23)) (x10_2 : Int), v10 = .int .i64 x10_2 ∧ Aside0 (spec_meTimes.l0 kq x8_4 x9_2 x10_2 x233000_4 x233001_4 = some (r1, r2)) ∧ Aside0 (kq ≤ kj4) ∧ Aside0 (Kd.R k23 23 w' w.heap.size (fun k_ => k_ ≠ gb228 ∧ k_ ≠ gb232) v9 x9_2) ∧ Aside0 (w'.heap[gb227]? = some (.cells #[.int .i64 a0_0, .int .i64 a0_1, .int .i64 a0_2] 25 (0, 0))) ∧ Aside0 (w'.heap[gb228]? = some (.cells #[.int .i64 a1_0, .int .i64 a1_1] 23 (0, 0))) ∧ Aside0 (w'.heap[gb232]? = some (.cells #[.int .i64 x233000_4, .int .i64 x233001_4] 23 (0, 0))) ∧ Aside0 (Below w.heap.size w w'))
   case atStart => exact ⟨(([] : List (S23))), (0), (by first | rfl | (simp; done) | (simp [*]; done)), H', ⟨Nat.le_refl _⟩, ⟨by first | exact Kd.R_nil _ _ _ _ _ | exact Kd.N_nil _ _ _ _ _ | exact Kd.V_nil _ _ _ _ _ | exact Kd.Q_nil _ _ _ _ _ | exact Kd.S_nil _ _ _ _ _⟩, kV BK227, kV BK228, kV BK232, ⟨by repeat (first | (with_reducible first | exact HB.out | apply bA | apply bN | apply bD | refine bX ?_ (by assumption)) | exact HB.out)⟩⟩
   case round =>
    clear H'
    (try clear c4); (try clear c20); (try clear z10); (try clear z15); (try clear z16); (try clear z9)
    obtain ⟨x9_2, x10_2, rfl, HA, HK2, HO_9, BK227, BK228, BK232, HB⟩ := hrel
    cases gk with
    | zero => exact absurd HA.out (by simp [spec_meTimes.l0])
    | succ k2 =>
     have H := HA.out
     clear HA
     simp only [spec_meTimes.l0] at H
     by_cases c24 : x10_2 < x8_4
     ·rw [if_pos c24] at H
      have c24b0 : decide (x10_2 < x8_4) = true := decide_eq_true c24
      clear c24
      replace H := Option.bind_eq_some_iff.mp H
      obtain ⟨⟨t235, t236, t237⟩, A250, H⟩ := H
      try dsimp only at H
      have A25 := Am A250
      clear A250
      by_cases c26 : t237 = true
      ·subst c26
       have H1 : (if x9_2.length < 8796093022208 then (spec_meTimes.l0 k2 x8_4 (x9_2 ++ [(⟨t235, t236⟩ : S23)]) (wrap64 (x10_2 + 1)) x233000_4 x233001_4) else (none)) = some (r1, r2) := by rw [if_pos rfl] at H; exact H
       clear H
       have H := H1
       clear H1
       by_cases c27 : x9_2.length < 8796093022208
       ·rw [if_pos c27] at H
        have LMc27 := Am c27
        clear c27
        obtain ⟨y239, hy239⟩ : ∃ y_ : List (S23), y_ = (x9_2 ++ [(⟨t235, t236⟩ : S23)]) := ⟨_, rfl⟩
        replace H : (spec_meTimes.l0 k2 x8_4 y239 (wrap64 (x10_2 + 1)) x233000_4 x233001_4) = some (r1, r2) := by first | (rw [hy239]; with_reducible exact H) | (have H2_ := (Option.bind_some _ _).symm.trans H; rw [hy239]; with_reducible exact H2_) | (have H2_ := (Option.bind_some _ _).symm.trans H; with_reducible exact H2_) | with_reducible exact H | (rw [hy239]; exact H) | exact H
        have Ny239 := Am hy239
        clear hy239
        focus
         have H' := Am H
         clear H
         have u28 := kO NB232_227; have u29 := kO NB232_228
         have z30 := c2 BK232
         go_wp2_with (first | ((with_reducible refine gate_callee (f := 45) rfl ?_); refine gL (some 47) Try.func45 #[.int .i64 (wrap64 (x233000_4 + (wrap64 (x10_2 * x233001_4)))), .int .i64 (wrap64 (x233001_4 * x8_4))] rfl ?_; (with_reducible refine (spec_diMake.calls k2 (wrap64 (x233000_4 + (wrap64 (x10_2 * x233001_4)))) (wrap64 (x233001_4 * x8_4)) t235 t236 true _ A25.out).mono ?_); rintro e w31 ⟨rfl, hb⟩; refine ⟨_, rfl, ?_⟩; have n0_ := Am (Kd.R_below (kW HO_9) hb); have hp0 := pA BK227 hb; have hv := vK HB hb; have n4_ := Am (bT hv hb); clear HO_9; clear HB; have HO_9 := n0_; replace BK227 := hp0 BK227; replace BK228 := hp0 BK228; replace BK232 := hp0 BK232; have HB := n4_; clear n0_ n4_ hp0 hv; (try clear hb)) | ((with_reducible refine gate_dst (N := 11) rfl ?_); refine bE 11 #[.int .i64 0, .int .i64 0] 23 ?_; intro gb238 hg w32 hbox hb; have n0_ := Am (Kd.R_below (Kd.R_elderB (kW HO_9) gb238 (Nat.le_of_eq hg.symm)) hb); have hp0 := pA BK227 hb; have hv := vK HB hb; have n4_ := Am (bT hv hb); have n5_ := Am (hbox); have GW238 := kG hg hv; have GE238 := kG hg hv; have hp1 := pK BK227 hb; obtain ⟨NB227_238, NB238_227⟩ := kXY hg hp1 BK227; obtain ⟨NB228_238, NB238_228⟩ := kXY hg hp1 BK228; obtain ⟨NB232_238, NB238_232⟩ := kXY hg hp1 BK232; clear HO_9; clear HB; have HO_9 := n0_; replace BK227 := hp0 BK227; replace BK228 := hp0 BK228; replace BK232 := hp0 BK232; have HB := n4_; have BK238 := n5_; clear n0_ n4_ n5_ hp0 hp1 hv; clear hb hbox hg; have u33 := kO NB238_227; have u34 := kO NB238_228; have u35 := kO NB238_232; have z36 := c2 BK238) | ((with_reducible refine gate_builtin (b := .append) (xs := #[.tmp 52, .tmp 54]) rfl ?_); at_builtin; refine Kd.R_append k23 (w0 := w) w.heap.size rfl (.tmp 52) (.tmp 54) 26 23 (.agg #[(.int .i64 0), (.int .i64 0)]) 16 rfl Try.underlying26 info23 rfl (by decide) (by omega) u9 x9_2 (⟨t235, t236⟩ : S23) [.int .i64 t235, .int .i64 t236] (fun k_ => k_ ≠ gb228 ∧ k_ ≠ gb232 ∧ k_ ≠ gb238) (fun _ => False) rfl (by first | (go_simp; done) | (go_simp; rfl)) ?aP (fun _ hk => hk.elim) ?aF ?aO ?aB ?aS ?aL ?_; (case aP => exact k23_mkM _ _ _ (⟨t235, t236⟩ : S23)); (case aB => exact (by repeat (first | (with_reducible first | exact HB.out | apply bA | apply bN | apply bD | refine bX ?_ (by assumption)) | exact HB.out))); (case aF => exact (fun k_ hk => ⟨Kd.freshB (g := gb228) (o := .cells #[.int .i64 a1_0, .int .i64 a1_1] 23 (0, 0)) (by (with_reducible repeat (first | refine kN ?_ _ | refine kD ?_ | refine kA ?_ _)); refine kR ?_ NB228_238.out _; (with_reducible repeat (first | refine kN ?_ _ | refine kD ?_ | refine kA ?_ _)); refine kR ?_ NB228_238.out _; (with_reducible repeat (first | refine kN ?_ _ | refine kD ?_ | refine kA ?_ _)); exact BK228.out) k_ hk, Kd.freshB (g := gb232) (o := .cells #[.int .i64 x233000_4, .int .i64 x233001_4] 23 (0, 0)) (by (with_reducible repeat (first | refine kN ?_ _ | refine kD ?_ | refine kA ?_ _)); refine kR ?_ NB232_238.out _; (with_reducible repeat (first | refine kN ?_ _ | refine kD ?_ | refine kA ?_ _)); refine kR ?_ NB232_238.out _; (with_reducible repeat (first | refine kN ?_ _ | refine kD ?_ | refine kA ?_ _)); exact BK232.out) k_ hk, Kd.freshB (g := gb238) (o := .cells #[.int .i64 t235, .int .i64 t236] 23 (0, 0)) (by (with_reducible repeat (first | refine kN ?_ _ | refine kD ?_ | refine kA ?_ _)); refine kP (cs := #[.int .i64 t235, .int .i64 0]) ?_ 1 _ rfl; (with_reducible repeat (first | refine kN ?_ _ | refine kD ?_ | refine kA ?_ _)); refine kP (cs := #[.int .i64 0, .int .i64 0]) ?_ 0 _ rfl; (with_reducible repeat (first | refine kN ?_ _ | refine kD ?_ | refine kA ?_ _)); exact BK238.out) k_ hk⟩)); (case aO => exact (by (with_reducible repeat (first | apply Kd.R_alloc | apply Kd.R_drewN | apply Kd.R_drew)); exact Kd.R_mono (Kd.R_far (p := ⟨gb238, 1, none⟩) (Kd.R_far (p := ⟨gb238, 0, none⟩) (Kd.R_mono HO_9.out (fun k_ hk => (⟨hk, hk.2⟩ : _ ∧ k_ ≠ gb238))) (fun _ hk => hk.2) (.int .i64 t235)) (fun _ hk => hk.2) (.int .i64 t236)) (fun _ hk => ⟨hk.1.1.1, ⟨hk.1.1.2, hk.1.2⟩⟩))); (case aS => exact (bZ (by repeat (first | (with_reducible first | exact HB.out | apply bA | apply bN | apply bD | refine bX ?_ (by assumption)) | exact HB.out)))); (case aL => have := LMc27.out; omega); intro v240 w37 ho hb hg hat; rw [← Ny239.out] at ho; have n0_ := Am (blk_grown (g := gb227) (o := .cells #[.int .i64 a0_0, .int .i64 a0_1, .int .i64 a0_2] 25 (0, 0)) (by (with_reducible repeat (first | refine kN ?_ _ | refine kD ?_ | refine kA ?_ _)); refine kR ?_ NB227_238.out _; (with_reducible repeat (first | refine kN ?_ _ | refine kD ?_ | refine kA ?_ _)); refine kR ?_ NB227_238.out _; (with_reducible repeat (first | refine kN ?_ _ | refine kD ?_ | refine kA ?_ _)); exact BK227.out) hg (Kd.R_ne HO_9.out BK227.out (by decide))); have n1_ := Am (blk_grown (g := gb228) (o := .cells #[.int .i64 a1_0, .int .i64 a1_1] 23 (0, 0)) (by (with_reducible repeat (first | refine kN ?_ _ | refine kD ?_ | refine kA ?_ _)); refine kR ?_ NB228_238.out _; (with_reducible repeat (first | refine kN ?_ _ | refine kD ?_ | refine kA ?_ _)); refine kR ?_ NB228_238.out _; (with_reducible repeat (first | refine kN ?_ _ | refine kD ?_ | refine kA ?_ _)); exact BK228.out) hg (Kd.R_away HO_9.out (fun _ hk => hk.1.1))); have n2_ := Am (blk_grown (g := gb232) (o := .cells #[.int .i64 x233000_4, .int .i64 x233001_4] 23 (0, 0)) (by (with_reducible repeat (first | refine kN ?_ _ | refine kD ?_ | refine kA ?_ _)); refine kR ?_ NB232_238.out _; (with_reducible repeat (first | refine kN ?_ _ | refine kD ?_ | refine kA ?_ _)); refine kR ?_ NB232_238.out _; (with_reducible repeat (first | refine kN ?_ _ | refine kD ?_ | refine kA ?_ _)); exact BK232.out) hg (Kd.R_away HO_9.out (fun _ hk => hk.1.2))); have n3_ := Am (blk_grown (g := gb238) (o := .cells #[.int .i64 t235, .int .i64 t236] 23 (0, 0)) (by (with_reducible repeat (first | refine kN ?_ _ | refine kD ?_ | refine kA ?_ _)); refine kP (cs := #[.int .i64 t235, .int .i64 0]) ?_ 1 _ rfl; (with_reducible repeat (first | refine kN ?_ _ | refine kD ?_ | refine kA ?_ _)); refine kP (cs := #[.int .i64 0, .int .i64 0]) ?_ 0 _ rfl; (with_reducible repeat (first | refine kN ?_ _ | refine kD ?_ | refine kA ?_ _)); exact BK238.out) hg (Kd.R_away HO_9.out (fun _ hk => hk.2))); have n4_ := Am (hb); have n5_ := Am (ho); clear BK227; clear BK228; clear BK232; clear BK238; clear HB; clear HO_9; have BK227 := n0_; have BK228 := n1_; have BK232 := n2_; have BK238 := n3_; have HB := n4_; have HO241 := n5_; clear n0_ n1_ n2_ n3_ n4_ n5_; clear ho hb hg hat))
         go_roundg k2
         case measure => have := HJ4.out; have := HK2.out; omega
         case rel =>
          refine ⟨(y239), (wrap64 (x10_2 + 1)), (by first | rfl | (simp; done) | (simp [*]; done)), H', ⟨by have := HJ4.out; have := HK2.out; omega⟩, ⟨by (with_reducible repeat (first | apply Kd.R_alloc | apply Kd.R_drewN | apply Kd.R_drew)); exact Kd.R_mono HO241.out (fun _ hk => ⟨hk.1, hk.2.1⟩)⟩, ⟨?_⟩, ⟨?_⟩, ⟨?_⟩, ⟨by repeat (first | (with_reducible first | exact HB.out | apply bA | apply bN | apply bD | refine bX ?_ (by assumption)) | exact HB.out)⟩⟩
          all_goals ((with_reducible repeat (first | refine kN ?_ _ | refine kD ?_ | refine kA ?_ _)); exact Aside0.out (by assumption))
       rw [if_neg c27] at H
       exact absurd H (by simp)
      replace c26 := Bool.eq_false_iff.mpr c26
      subst c26
      have H1 : (some (([] : List (S23)), false)) = some (r1, r2) := by rw [if_neg (show ¬ (false = true) by decide)] at H; exact H
      clear H
      have H := H1
      clear H1
      focus
       simp only [Option.some.injEq, Prod.mk.injEq] at H
       obtain ⟨rfl, rfl⟩ := H
       have u38 := kO NB232_227; have u39 := kO NB232_228
       have z40 := c2 BK232
       go_wp2_with (first | ((with_reducible refine gate_callee (f := 45) rfl ?_); refine gL (some 47) Try.func45 #[.int .i64 (wrap64 (x233000_4 + (wrap64 (x10_2 * x233001_4)))), .int .i64 (wrap64 (x233001_4 * x8_4))] rfl ?_; (with_reducible refine (spec_diMake.calls k2 (wrap64 (x233000_4 + (wrap64 (x10_2 * x233001_4)))) (wrap64 (x233001_4 * x8_4)) t235 t236 false _ A25.out).mono ?_); rintro e w41 ⟨rfl, hb⟩; refine ⟨_, rfl, ?_⟩; have n0_ := Am (Kd.R_below (kW HO_9) hb); have hp0 := pA BK227 hb; have hv := vK HB hb; have n4_ := Am (bT hv hb); clear HO_9; clear HB; have HO_9 := n0_; replace BK227 := hp0 BK227; replace BK228 := hp0 BK228; replace BK232 := hp0 BK232; have HB := n4_; clear n0_ n4_ hp0 hv; (try clear hb)) | ((with_reducible refine gate_dst (N := 11) rfl ?_); refine bE 11 #[.int .i64 0, .int .i64 0] 23 ?_; intro gb238 hg w42 hbox hb; have n0_ := Am (Kd.R_below (Kd.R_elderB (kW HO_9) gb238 (Nat.le_of_eq hg.symm)) hb); have hp0 := pA BK227 hb; have hv := vK HB hb; have n4_ := Am (bT hv hb); have n5_ := Am (hbox); have GW238 := kG hg hv; have GE238 := kG hg hv; have hp1 := pK BK227 hb; obtain ⟨NB227_238, NB238_227⟩ := kXY hg hp1 BK227; obtain ⟨NB228_238, NB238_228⟩ := kXY hg hp1 BK228; obtain ⟨NB232_238, NB238_232⟩ := kXY hg hp1 BK232; clear HO_9; clear HB; have HO_9 := n0_; replace BK227 := hp0 BK227; replace BK228 := hp0 BK228; replace BK232 := hp0 BK232; have HB := n4_; have BK238 := n5_; clear n0_ n4_ n5_ hp0 hp1 hv; clear hb hbox hg; have u43 := kO NB238_227; have u44 := kO NB238_228; have u45 := kO NB238_232; have z46 := c2 BK238))
       go_ret2
       exact ⟨_, by first | rfl | (simp [errW_none, errW_some] <;> rfl) | (simp [*, errW_none, errW_some] <;> rfl), by first | exact Kd.R_nil _ _ _ _ _ | exact Kd.N_nil _ _ _ _ _ | exact Kd.V_nil _ _ _ _ _ | exact Kd.Q_nil _ _ _ _ _ | exact Kd.S_nil _ _ _ _ _, by repeat (first | (with_reducible first | exact HB.out | apply bA | apply bN | apply bD | refine bX ?_ (by assumption)) | exact HB.out)⟩
     rw [if_neg c24] at H
     have c24b0 : decide (x10_2 < x8_4) = false := decide_eq_false c24
     clear c24
     focus
      simp only [Option.some.injEq, Prod.mk.injEq] at H
      obtain ⟨rfl, rfl⟩ := H
      go_wp2
      go_ret2
      exact ⟨_, by first | rfl | (simp [errW_none, errW_some] <;> rfl) | (simp [*, errW_none, errW_some] <;> rfl), by (with_reducible repeat (first | apply Kd.R_alloc | apply Kd.R_drewN | apply Kd.R_drew)); exact Kd.R_mono HO_9.out (fun _ hk => trivial), by repeat (first | (with_reducible first | exact HB.out | apply bA | apply bN | apply bD | refine bX ?_ (by assumption)) | exact HB.out)⟩
 replace c4 := Bool.eq_false_iff.mpr c4
 subst c4
 have H1 : (some (([] : List (S23)), false)) = some (r1, r2) := by rw [if_neg (show ¬ (false = true) by decide)] at H; exact H
 clear H
 have H := H1
 clear H1
 focus
  simp only [Option.some.injEq, Prod.mk.injEq] at H
  obtain ⟨rfl, rfl⟩ := H
  go_enter Try.func27, Try.ntmps27
  go_wp2_with (first | ((with_reducible refine gate_dst (N := 2) rfl ?_); refine bE 2 #[.int .i64 a0_0, .int .i64 a0_1, .int .i64 a0_2] 25 ?_; intro gb227 hg w47 hbox hb; have hv := vK HB hb; have n0_ := Am (bT hv hb); have n1_ := Am (hbox); have GW227 := kG hg hv; have GE227 := kG hg hv; clear HB; have HB := n0_; have BK227 := n1_; clear n0_ n1_ hv; clear hb hbox hg) | ((with_reducible refine gate_dst (N := 3) rfl ?_); refine bE 3 #[.int .i64 a1_0, .int .i64 a1_1] 23 ?_; intro gb228 hg w48 hbox hb; have hp0 := pA BK227 hb; have hv := vK HB hb; have n1_ := Am (bT hv hb); have n2_ := Am (hbox); have GW228 := kG hg hv; have GE228 := kG hg hv; have hp1 := pK BK227 hb; obtain ⟨NB227_228, NB228_227⟩ := kXY hg hp1 BK227; clear HB; replace BK227 := hp0 BK227; have HB := n1_; have BK228 := n2_; clear n1_ n2_ hp0 hp1 hv; clear hb hbox hg; have u49 := kO NB228_227; have z50 := c2 BK228; have z51 := c3 BK227) | ((with_reducible refine gate_callee (f := 43) rfl ?_); refine gL (some 17) Try.func43 #[.agg #[.int .i64 a1_0, .int .i64 a1_1], .agg #[.int .i64 a0_0, .int .i64 a0_1], .int .i64 (-1)] rfl ?_; (with_reducible refine (spec_diAdd.calls k a1_0 a1_1 a0_0 a0_1 (-1) t229 t230 false _ A3.out).mono ?_); rintro e w52 ⟨rfl, hb⟩; refine ⟨_, rfl, ?_⟩; have hp0 := pA BK227 hb; have hv := vK HB hb; have n2_ := Am (bT hv hb); clear HB; replace BK227 := hp0 BK227; replace BK228 := hp0 BK228; have HB := n2_; clear n2_ hp0 hv; (try clear hb)) | ((with_reducible refine gate_dst (N := 6) rfl ?_); refine bE 6 #[.int .i64 0, .int .i64 0] 23 ?_; intro gb232 hg w53 hbox hb; have hp0 := pA BK227 hb; have hv := vK HB hb; have n2_ := Am (bT hv hb); have n3_ := Am (hbox); have GW232 := kG hg hv; have GE232 := kG hg hv; have hp1 := pK BK227 hb; obtain ⟨NB227_232, NB232_227⟩ := kXY hg hp1 BK227; obtain ⟨NB228_232, NB232_228⟩ := kXY hg hp1 BK228; clear HB; replace BK227 := hp0 BK227; replace BK228 := hp0 BK228; have HB := n2_; have BK232 := n3_; clear n2_ n3_ hp0 hp1 hv; clear hb hbox hg; have u54 := kO NB232_227; have u55 := kO NB232_228; have z56 := c2 BK232))
  go_ret2
  exact ⟨_, by first | rfl | (simp [errW_none, errW_some] <;> rfl) | (simp [*, errW_none, errW_some] <;> rfl), by first | exact Kd.R_nil _ _ _ _ _ | exact Kd.N_nil _ _ _ _ _ | exact Kd.V_nil _ _ _ _ _ | exact Kd.Q_nil _ _ _ _ _ | exact Kd.S_nil _ _ _ _ _, by repeat (first | (with_reducible first | exact HB.out | apply bA | apply bN | apply bD | refine bX ?_ (by assumption)) | exact HB.out)⟩
/-! ### spec_meRelative: function 28 -/
def spec_meRelative.f (k : Nat) (a0_0 : Int) (a0_1 : Int) (a0_2 : Int) (a1_0 : Int) (a1_1 : Int) (a1_2 : Int) : Option (Int × Int × Int) := (spec_diAdd.f k a0_0 a0_1 a1_0 a1_1 (-1)).bind fun bt245 => (some (bt245.1, bt245.2.1, wrap64 (a0_2 - a1_2)))
theorem spec_meRelative.mono : ∀ a0 a1 a2 a3 a4 a5 k, LeO (spec_meRelative.f k a0 a1 a2 a3 a4 a5) (spec_meRelative.f (k + 1) a0 a1 a2 a3 a4 a5) := by
 intro a0 a1 a2 a3 a4 a5 k
 unfold spec_meRelative.f
 repeat' first
   | (with_reducible exact spec_diAdd.mono _ _ _ _ _ _)
   | (with_reducible exact LeO.refl _)
   | (with_reducible exact LeO.none _)
   | (with_reducible refine LeO.ite ?_ ?_)
   | (with_reducible refine LeO.bind ?_ (fun _ => ?_))
   | exact spec_diAdd.mono _ _ _ _ _ _
   | exact LeO.none _
   | refine LeO.ite ?_ ?_
   | refine LeO.bind ?_ (fun _ => ?_)
set_option maxHeartbeats 8000000 in
set_option maxRecDepth 100000 in
theorem spec_meRelative.calls (k : Nat) (a0_0 : Int) (a0_1 : Int) (a0_2 : Int) (a1_0 : Int) (a1_1 : Int) (a1_2 : Int) (r1 : Int) (r2 : Int) (r3 : Int) (w : World) (h : spec_meRelative.f k a0_0 a0_1 a0_2 a1_0 a1_1 a1_2 = some (r1, r2, r3)) :
  Calls Try.prog 28 #[.agg #[.int .i64 a0_0, .int .i64 a0_1, .int .i64 a0_2], .agg #[.int .i64 a1_0, .int .i64 a1_1, .int .i64 a1_2]] w fun e w' => e = .returned (.agg #[.int .i64 r1, .int .i64 r2, .int .i64 r3]) ∧ Below w.heap.size w w' := by
 have hu25 := Try.underlying25; have hu23 := Try.underlying23
 have HB := Am (Below.refl w.heap.size w)
 have H : ((spec_diAdd.f k a0_0 a0_1 a1_0 a1_1 (-1)).bind fun bt245 => (some (bt245.1, bt245.2.1, wrap64 (a0_2 - a1_2)))) = some (r1, r2, r3) := h
 clear h
 replace H := Option.bind_eq_some_iff.mp H
 obtain ⟨⟨t245, t246, t247⟩, A30, H⟩ := H
 try dsimp only at H
 have A3 := Am A30
 clear A30
 focus
  simp only [Option.some.injEq, Prod.mk.injEq] at H
  obtain ⟨rfl, rfl, rfl⟩ := H
  go_enter Try.func28, Try.ntmps28
  go_wp2_with (first | ((with_reducible refine gate_dst (N := 2) rfl ?_); refine bE 2 #[.int .i64 a0_0, .int .i64 a0_1, .int .i64 a0_2] 25 ?_; intro gb242 hg w4 hbox hb; have hv := vK HB hb; have n0_ := Am (bT hv hb); have n1_ := Am (hbox); have GW242 := kG hg hv; have GE242 := kG hg hv; clear HB; have HB := n0_; have BK242 := n1_; clear n0_ n1_ hv; clear hb hbox hg) | ((with_reducible refine gate_dst (N := 3) rfl ?_); refine bE 3 #[.int .i64 a1_0, .int .i64 a1_1, .int .i64 a1_2] 25 ?_; intro gb243 hg w5 hbox hb; have hp0 := pA BK242 hb; have hv := vK HB hb; have n1_ := Am (bT hv hb); have n2_ := Am (hbox); have GW243 := kG hg hv; have GE243 := kG hg hv; have hp1 := pK BK242 hb; obtain ⟨NB242_243, NB243_242⟩ := kXY hg hp1 BK242; clear HB; replace BK242 := hp0 BK242; have HB := n1_; have BK243 := n2_; clear n1_ n2_ hp0 hp1 hv; clear hb hbox hg) | ((with_reducible refine gate_dst (N := 4) rfl ?_); refine bE 4 #[.int .i64 0, .int .i64 0, .int .i64 0] 25 ?_; intro gb244 hg w6 hbox hb; have hp0 := pA BK242 hb; have hv := vK HB hb; have n2_ := Am (bT hv hb); have n3_ := Am (hbox); have GW244 := kG hg hv; have GE244 := kG hg hv; have hp1 := pK BK242 hb; obtain ⟨NB242_244, NB244_242⟩ := kXY hg hp1 BK242; obtain ⟨NB243_244, NB244_243⟩ := kXY hg hp1 BK243; clear HB; replace BK242 := hp0 BK242; replace BK243 := hp0 BK243; have HB := n2_; have BK244 := n3_; clear n2_ n3_ hp0 hp1 hv; clear hb hbox hg; have u7 := kO NB242_243; have u8 := kO NB242_244; have z9 := c3 BK242; have u10 := kO NB243_244; have z11 := c3 BK243) | ((with_reducible refine gate_callee (f := 43) rfl ?_); refine gL (some 12) Try.func43 #[.agg #[.int .i64 a0_0, .int .i64 a0_1], .agg #[.int .i64 a1_0, .int .i64 a1_1], .int .i64 (-1)] rfl ?_; (with_reducible refine (spec_diAdd.calls k a0_0 a0_1 a1_0 a1_1 (-1) t245 t246 t247 _ A3.out).mono ?_); rintro e w12 ⟨rfl, hb⟩; refine ⟨_, rfl, ?_⟩; have hp0 := pA BK242 hb; have hv := vK HB hb; have n3_ := Am (bT hv hb); clear HB; replace BK242 := hp0 BK242; replace BK243 := hp0 BK243; replace BK244 := hp0 BK244; have HB := n3_; clear n3_ hp0 hv; (try clear hb)) | ((with_reducible refine gate_dst (N := 5) rfl ?_); refine bE 5 #[.int .i64 0, .int .i64 0] 23 ?_; intro gb248 hg w13 hbox hb; have hp0 := pA BK242 hb; have hv := vK HB hb; have n3_ := Am (bT hv hb); have n4_ := Am (hbox); have GW248 := kG hg hv; have GE248 := kG hg hv; have hp1 := pK BK242 hb; obtain ⟨NB242_248, NB248_242⟩ := kXY hg hp1 BK242; obtain ⟨NB243_248, NB248_243⟩ := kXY hg hp1 BK243; obtain ⟨NB244_248, NB248_244⟩ := kXY hg hp1 BK244; clear HB; replace BK242 := hp0 BK242; replace BK243 := hp0 BK243; replace BK244 := hp0 BK244; have HB := n3_; have BK248 := n4_; clear n3_ n4_ hp0 hp1 hv; clear hb hbox hg; have u14 := kO NB248_242; have u15 := kO NB248_243; have u16 := kO NB248_244; have hcz17_0 : w13.cell? ⟨gb248, 0, none⟩ = some (.int .i64 0) := (kC BK248.out 0).trans rfl; have hcz17_1 : w13.cell? ⟨gb248, 1, none⟩ = some (.int .i64 0) := (kC BK248.out 1).trans rfl; have hfz17_0 := kF BK248.out 0; have hfz17_1 := kF BK248.out 1; have z18 := c3 BK242; have z19 := c3 BK243; have z20 := c3 BK244))
  refine bodyPost_ret (results_cell_row rfl _ _ gb244 25 #[.int .i64 t245, .int .i64 t246, .int .i64 (wrap64 (a0_2 - a1_2))] (0, 0) _ rfl (by (with_reducible repeat (first | refine kN ?_ _ | refine kD ?_ | refine kA ?_ _)); refine kP (cs := #[.int .i64 t245, .int .i64 t246, .int .i64 0]) ?_ 2 _ rfl; (with_reducible repeat (first | refine kN ?_ _ | refine kD ?_ | refine kA ?_ _)); refine kP (cs := #[.int .i64 t245, .int .i64 0, .int .i64 0]) ?_ 1 _ rfl; (with_reducible repeat (first | refine kN ?_ _ | refine kD ?_ | refine kA ?_ _)); refine kP (cs := #[.int .i64 0, .int .i64 0, .int .i64 0]) ?_ 0 _ rfl; (with_reducible repeat (first | refine kN ?_ _ | refine kD ?_ | refine kA ?_ _)); refine kR ?_ NB244_248.out _; (with_reducible repeat (first | refine kN ?_ _ | refine kD ?_ | refine kA ?_ _)); refine kR ?_ NB244_248.out _; (with_reducible repeat (first | refine kN ?_ _ | refine kD ?_ | refine kA ?_ _)); exact BK244.out) Try.underlying25 rfl (by kernel_rfl)) rfl ?_
  exact ⟨by first | rfl | (simp [errW_none, errW_some] <;> rfl) | (simp [*, errW_none, errW_some] <;> rfl), by repeat (first | (with_reducible first | exact HB.out | apply bA | apply bN | apply bD | refine bX ?_ (by assumption)) | exact HB.out)⟩
end Go.Proofs.Ytcoembcafgelkaa.PFnHandsAheadOfAll
