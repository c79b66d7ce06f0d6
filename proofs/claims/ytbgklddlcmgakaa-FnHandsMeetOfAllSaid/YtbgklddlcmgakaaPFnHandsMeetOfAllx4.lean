-- WRITTEN BY A PROGRAM OF THIS SESSION (wip/tools): its own text, not the kit's printed one.
import Derived.Test.YtbgklddlcmgakaaPFnHandsMeetOfAllx0
import Derived.Test.YtbgklddlcmgakaaPFnHandsMeetOfAllx2
import Derived.Test.YtbgklddlcmgakaaPFnHandsMeetOfAllx3
namespace Go.Proofs.Ytbgklddlcmgakaa.PFnHandsMeetOfAll
open Go.RowKit Go.Proofs.YtbgklddlcmgakaaW.PrintWords Go.Proofs.YtbgklddlcmgakaaW.PrintLast Go.Proofs.YtbgklddlcmgakaaW.PrintMore
attribute [local go_sem] max2_int min2_int max_two min_two max_three min_three max_four min_four   -- for this text's walks alone
set_option linter.unusedVariables false
set_option linter.unusedSimpArgs false

/-! ### impl_Hand_timesAt: function 43 -/
def impl_Hand_timesAt.f (k : Nat) (a0_0 : Int) (a0_1 : Int) (a0_2 : Int) (a1_0 : Int) (a1_1 : Int) : Option ((List (S23)) × Bool) := (impl_Turn_minus.f k a1_0 a1_1 a0_0 a0_1).bind fun bt149 => (if a0_2 < 0 then ((impl_Turn_mirror.f k bt149.1 bt149.2).bind fun bt152 => ((impl_roots.f k bt152.1 bt152.2 (wrap64 (-a0_2))).bind fun bt154 => ((impl_ifTurns.f k bt154.1 bt154.2).bind fun bt158 => (some (bt158.1, bt158.2))))) else ((impl_roots.f k bt149.1 bt149.2 a0_2).bind fun bt162 => ((impl_ifTurns.f k bt162.1 bt162.2).bind fun bt166 => (some (bt166.1, bt166.2)))))
theorem impl_Hand_timesAt.mono : ∀ a0 a1 a2 a3 a4 k, LeO (impl_Hand_timesAt.f k a0 a1 a2 a3 a4) (impl_Hand_timesAt.f (k + 1) a0 a1 a2 a3 a4) := by
 intro a0 a1 a2 a3 a4 k
 unfold impl_Hand_timesAt.f
 repeat' first
   | (with_reducible exact impl_Turn_minus.mono _ _ _ _ _)
   | (with_reducible exact impl_Turn_mirror.mono _ _ _)
   | (with_reducible exact impl_ifTurns.mono _ _ _)
   | (with_reducible exact impl_roots.mono _ _ _ _)
   | (with_reducible exact LeO.refl _)
   | (with_reducible exact LeO.none _)
   | (with_reducible refine LeO.ite ?_ ?_)
   | (with_reducible refine LeO.bind ?_ (fun _ => ?_))
   | exact impl_Turn_minus.mono _ _ _ _ _
   | exact impl_Turn_mirror.mono _ _ _
   | exact impl_ifTurns.mono _ _ _
   | exact impl_roots.mono _ _ _ _
   | exact LeO.none _
   | refine LeO.ite ?_ ?_
   | refine LeO.bind ?_ (fun _ => ?_)
def impl_Hand_timesAt.T1 : Bool × List (List Nat × List Nat) := (true, [([], []), ([], []), ([1], [1]), ([0, 2], [0, 2]), ([], []), ([4], [4]), ([], []), ([6, 3, 3, 0, 1, 2, 3, 6], [3, 6]), ([5, 7, 0, 1, 2, 3, 4, 5, 6, 7], [5])])
def impl_Hand_timesAt.B1 : List Nat := [0, 0, 2, 7, 0, 16, 0, 79, 255]
theorem impl_Hand_timesAt.tab1 : rtab .any (opsOf Try.f43 1) = impl_Hand_timesAt.T1 := by kernel_rfl
theorem impl_Hand_timesAt.bits1 : waitsOk impl_Hand_timesAt.T1.2 impl_Hand_timesAt.B1 = true := by kernel_rfl
set_option maxHeartbeats 8000000 in
set_option maxRecDepth 100000 in
theorem impl_Hand_timesAt.calls (k : Nat) (a0_0 : Int) (a0_1 : Int) (a0_2 : Int) (a1_0 : Int) (a1_1 : Int) (r1 : List (S23)) (r2 : Bool) (w : World) (h : impl_Hand_timesAt.f k a0_0 a0_1 a0_2 a1_0 a1_1 = some (r1, r2)) :
  Calls Try.prog 43 #[.agg #[.int .i64 a0_0, .int .i64 a0_1, .int .i64 a0_2], .agg #[.int .i64 a1_0, .int .i64 a1_1]] w fun e w' => ∃ v0_ : Value, e = .returned (.tuple #[v0_, .bool r2]) ∧ Kd.R k23 23 w' w.heap.size (fun _ => True) v0_ r1 ∧ Below w.heap.size w w' := by
 have hu25 := Try.underlying25; have hu23 := Try.underlying23
 have HB := Am (Below.refl w.heap.size w)
 have H : ((impl_Turn_minus.f k a1_0 a1_1 a0_0 a0_1).bind fun bt149 => (if a0_2 < 0 then ((impl_Turn_mirror.f k bt149.1 bt149.2).bind fun bt152 => ((impl_roots.f k bt152.1 bt152.2 (wrap64 (-a0_2))).bind fun bt154 => ((impl_ifTurns.f k bt154.1 bt154.2).bind fun bt158 => (some (bt158.1, bt158.2))))) else ((impl_roots.f k bt149.1 bt149.2 a0_2).bind fun bt162 => ((impl_ifTurns.f k bt162.1 bt162.2).bind fun bt166 => (some (bt166.1, bt166.2)))))) = some (r1, r2) := h
 clear h
 replace H := Option.bind_eq_some_iff.mp H
 obtain ⟨⟨t149, t150⟩, A30, H⟩ := H
 try dsimp only at H
 have A3 := Am A30
 clear A30
 by_cases c4 : a0_2 < 0
 ·rw [if_pos c4] at H
  have c4b0 : decide (a0_2 < 0) = true := decide_eq_true c4
  clear c4
  replace H := Option.bind_eq_some_iff.mp H
  obtain ⟨⟨t152, t153⟩, A50, H⟩ := H
  try dsimp only at H
  have A5 := Am A50
  clear A50
  replace H := Option.bind_eq_some_iff.mp H
  obtain ⟨⟨t154, t157⟩, A60, H⟩ := H
  try dsimp only at H
  have A6 := Am A60
  clear A60
  replace H := Option.bind_eq_some_iff.mp H
  obtain ⟨⟨t158, t161⟩, A70, H⟩ := H
  try dsimp only at H
  have A7 := Am A70
  clear A70
  focus
   simp only [Option.some.injEq, Prod.mk.injEq] at H
   obtain ⟨rfl, rfl⟩ := H
   go_enter Try.func43, Try.ntmps43
   try go_wp2_with (first | ((with_reducible refine gate_dst (N := 2) rfl ?_); refine bE 2 #[.int .i64 a0_0, .int .i64 a0_1, .int .i64 a0_2] 25 ?_; intro gb147 hg w8 hbox hb; have hv := vK HB hb; have n0_ := Am (bT hv hb); have n1_ := Am (hbox); have GW147 := kG hg hv; have GE147 := kG hg hv; clear HB; have HB := n0_; have BK147 := n1_; clear n0_ n1_ hv; clear hb hbox hg) | ((with_reducible refine gate_dst (N := 3) rfl ?_); refine bE 3 #[.int .i64 a1_0, .int .i64 a1_1] 23 ?_; intro gb148 hg w9 hbox hb; have hp0 := pA BK147 hb; have hv := vK HB hb; have n1_ := Am (bT hv hb); have n2_ := Am (hbox); have GW148 := kG hg hv; have GE148 := kG hg hv; have hp1 := pK BK147 hb; obtain ⟨NB147_148, NB148_147⟩ := kXY hg hp1 BK147; clear HB; replace BK147 := hp0 BK147; have HB := n1_; have BK148 := n2_; clear n1_ n2_ hp0 hp1 hv; clear hb hbox hg))
   have n0_ := Am (kD BK147.out)
   have n1_ := Am (kD BK148.out)
   have n2_ := Am (bD HB.out)
   clear BK147 BK148 HB
   have BK147 := n0_; have BK148 := n1_; have HB := n2_
   clear n0_ n1_ n2_
   refine start_ (n := 9) (S := fun w' => w'.cell? ⟨gb148, 0, none⟩ = some (.int .i64 a1_0) ∧ w'.cell? ⟨gb148, 1, none⟩ = some (.int .i64 a1_1) ∧ w'.cell? ⟨gb147, 0, none⟩ = some (.int .i64 a0_0) ∧ w'.cell? ⟨gb147, 1, none⟩ = some (.int .i64 a0_1) ∧ w'.cell? ⟨gb147, 2, none⟩ = some (.int .i64 a0_2)) (ds := []) (pT 9 0) (by kernel_rfl) rfl rfl ⟨c20 BK148.out, c21 BK148.out, c30 BK147.out, c31 BK147.out, c32 BK147.out⟩ (fun hHeld => ?_); refine with_tabW impl_Hand_timesAt.tab1 impl_Hand_timesAt.bits1 (fun HT_ HW_ => ?_)
   generalize w9.drew = w10 at BK147 BK148 HB hHeld ⊢
   refine pure_ (i := 1) (N := some 9) (v := ?_) (a' := ?_) #[false, true, false, false, false, false, false, false, false] rfl rfl (any_of HT_.out (by kernel_rfl)) (fun _ _ _ h => h) (Or.inl ⟨by rfl, ?_⟩) ?_ ?_
   rotate_left
   ·intro w'
    go_simp
    with_reducible rfl
   rotate_left
   ·simp only [Act.put, List.setIfInBounds_toArray, List.set_cons_zero, List.set_cons_succ, i64_w, i32_w]
    rfl
   refine pure_ (i := 4) (N := some 12) (v := ?_) (a' := ?_) #[false, true, false, false, true, false, false, false, false] rfl rfl (any_of HT_.out (by kernel_rfl)) (fun _ _ _ h => h) (Or.inl ⟨by rfl, ?_⟩) ?_ ?_
   rotate_left
   ·intro w'
    go_simp
    with_reducible rfl
   rotate_left
   ·simp only [Act.put, List.setIfInBounds_toArray, List.set_cons_zero, List.set_cons_succ, i64_w, i32_w]
    rfl
   refine take_ (i := 0) (N := some 8) (v := ?_) (a' := ?_) #[true, true, false, false, true, false, false, false, false] rfl rfl (take_ofW HT_.out HW_.out (by kernel_rfl)) (fun _ _ _ h => h) (Or.inl ⟨by rfl, ?_⟩) hHeld ?_ ?_
   rotate_left
   ·rintro w' ⟨s0, s1, s2, s3, s4⟩
    go_simp
    with_reducible rfl
   rotate_left
   ·simp only [Act.put, List.setIfInBounds_toArray, List.set_cons_zero, List.set_cons_succ, i64_w, i32_w]
    rfl
   refine take_ (i := 2) (N := some 10) (v := ?_) (a' := ?_) #[true, true, true, false, true, false, false, false, false] rfl rfl (take_ofW HT_.out HW_.out (by kernel_rfl)) (fun _ _ _ h => h) (Or.inl ⟨by rfl, ?_⟩) hHeld ?_ ?_
   rotate_left
   ·rintro w' ⟨s0, s1, s2, s3, s4⟩
    go_simp
    with_reducible rfl
   rotate_left
   ·simp only [Act.put, List.setIfInBounds_toArray, List.set_cons_zero, List.set_cons_succ, i64_w, i32_w]
    rfl
   refine take_ (i := 5) (N := some 13) (v := ?_) (a' := ?_) #[true, true, true, false, true, true, false, false, false] rfl rfl (take_ofW HT_.out HW_.out (by kernel_rfl)) (fun _ _ _ h => h) (Or.inl ⟨by rfl, ?_⟩) hHeld ?_ ?_
   rotate_left
   ·rintro w' ⟨s0, s1, s2, s3, s4⟩
    go_simp
    with_reducible rfl
   rotate_left
   ·simp only [Act.put, List.setIfInBounds_toArray, List.set_cons_zero, List.set_cons_succ, i64_w, i32_w]
    rfl
   refine join_ (σ := Nat) 2 (pT 9 7) (fun s_ => [(11, .agg #[.int .i64 t149, .int .i64 t150]), (6, .pointer (some ⟨s_, 0, none⟩))]) (fun s_ w' => (w'.cell? ⟨gb148, 0, none⟩ = some (.int .i64 a1_0) ∧ w'.cell? ⟨gb148, 1, none⟩ = some (.int .i64 a1_1) ∧ w'.cell? ⟨gb147, 0, none⟩ = some (.int .i64 a0_0) ∧ w'.cell? ⟨gb147, 1, none⟩ = some (.int .i64 a0_1) ∧ w'.cell? ⟨gb147, 2, none⟩ = some (.int .i64 a0_2)) ∧ (w'.heap[gb147]? = some (.cells #[.int .i64 a0_0, .int .i64 a0_1, .int .i64 a0_2] 25 (0, 0))) ∧ (w'.heap[gb148]? = some (.cells #[.int .i64 a1_0, .int .i64 a1_1] 23 (0, 0))) ∧ (w'.heap[s_]? = some (.cells #[.int .i64 0, .int .i64 0] 23 (0, 0))) ∧ (w.heap.size ≤ s_) ∧ (w.heap.size ≤ s_) ∧ (gb147 ≠ s_) ∧ (s_ ≠ gb147) ∧ (gb148 ≠ s_) ∧ (s_ ≠ gb148) ∧ (Below w.heap.size w w')) ?_ ?_
   rotate_left
   ·intro hCont
    refine two_ (i := 3) (j := 6) (Ni := some 11) (Nj := some 6) (pT 9 6) #[true, true, true, false, true, true, true, false, false] rfl rfl rfl rfl (two_of HT_.out (by kernel_rfl)) (by decide) (by decide) (fun K hK => ?_) (fun K hK => ?_)
    ·skip
     refine goes_ Try.func63 (by kernel_rfl) rfl #[.agg #[.int .i64 a1_0, .int .i64 a1_1], .agg #[.int .i64 a0_0, .int .i64 a0_1]] (by rfl) rfl rfl (by (try simp only [List.map_toArray, List.map_cons, List.map_nil]); first | done | rfl | (simp only [List.length_drop, List.length_take]; rfl)) ?_
     with_reducible refine (impl_Turn_minus.calls k a1_0 a1_1 a0_0 a0_1 t149 t150 _ A3.out).mono ?_
     rintro e w11 ⟨rfl, hb⟩
     refine ⟨_, rfl, ?_⟩
     have hp0 := pA BK147 hb
     have hv := vK HB hb
     have n2_ := Am (bT hv hb)
     clear HB
     replace BK147 := hp0 BK147; replace BK148 := hp0 BK148
     have HB := n2_
     clear n2_ hp0 hv
     (try clear hb)
     refine hK.out _ _ ⟨c20 BK148.out, c21 BK148.out, c30 BK147.out, c31 BK147.out, c32 BK147.out⟩ (fun hHeld => ?_)
     clear hK K
     refine norm_ (a' := ?_) ?_ ?_
     rotate_left
     ·show Act.put _ (some 11) _ = _
      simp only [Act.put, List.setIfInBounds_toArray, List.set_cons_zero, List.set_cons_succ, i64_w, i32_w]
      rfl
     refine one_ (i := 6) (N := some 6) (pT 9 7) rfl rfl (one_of HT_.out (by kernel_rfl)) (by decide) (fun K hK => ?_)
     refine box_step ?hg (N := 6) ?hd (cs := #[.int .i64 0, .int .i64 0]) (t := 23) ?hr ?_; (case hd => rfl); (case hg => rfl); (case hr => first | (go_simp; done) | (go_simp; rfl))
     intro gb151 hg w12 hbox hb
     have hp0 := pA BK147 hb
     have hv := vK HB hb
     have n2_ := Am (bT hv hb)
     have n3_ := Am (hbox)
     have GW151 := kG hg hv
     have GE151 := kG hg hv
     have hp1 := pK BK147 hb
     obtain ⟨NB147_151, NB151_147⟩ := kXY hg hp1 BK147
     obtain ⟨NB148_151, NB151_148⟩ := kXY hg hp1 BK148
     clear HB
     replace BK147 := hp0 BK147; replace BK148 := hp0 BK148
     have HB := n2_; have BK151 := n3_
     clear n2_ n3_ hp0 hp1 hv hb hbox hg
     refine hK.out _ _ ⟨c20 BK148.out, c21 BK148.out, c30 BK147.out, c31 BK147.out, c32 BK147.out⟩ (fun hHeld => ?_)
     clear hK K
     refine norm_ (a' := ?_) ?_ ?_
     rotate_left
     ·show Act.put _ (some 6) _ = _
      simp only [Act.put, List.setIfInBounds_toArray, List.set_cons_zero, List.set_cons_succ, i64_w, i32_w]
      rfl
     exact norm_ (by simp only [putAll, Act.put, List.setIfInBounds_toArray, List.set_cons_zero, List.set_cons_succ]) (hCont (gb151) _ ⟨hHeld, (kU BK147), (kU BK148), (kU BK151), GW151.out, GE151.out, NB147_151.out, NB151_147.out, NB148_151.out, NB151_148.out, (by repeat (first | (with_reducible first | exact HB.out | apply bA | apply bN | apply bD | refine bX ?_ (by assumption)) | exact HB.out))⟩)
    skip
    refine box_step ?hg (N := 6) ?hd (cs := #[.int .i64 0, .int .i64 0]) (t := 23) ?hr ?_; (case hd => rfl); (case hg => rfl); (case hr => first | (go_simp; done) | (go_simp; rfl))
    intro gb151 hg w11 hbox hb
    have hp0 := pA BK147 hb
    have hv := vK HB hb
    have n2_ := Am (bT hv hb)
    have n3_ := Am (hbox)
    have GW151 := kG hg hv
    have GE151 := kG hg hv
    have hp1 := pK BK147 hb
    obtain ⟨NB147_151, NB151_147⟩ := kXY hg hp1 BK147
    obtain ⟨NB148_151, NB151_148⟩ := kXY hg hp1 BK148
    clear HB
    replace BK147 := hp0 BK147; replace BK148 := hp0 BK148
    have HB := n2_; have BK151 := n3_
    clear n2_ n3_ hp0 hp1 hv hb hbox hg
    refine hK.out _ _ ⟨c20 BK148.out, c21 BK148.out, c30 BK147.out, c31 BK147.out, c32 BK147.out⟩ (fun hHeld => ?_)
    clear hK K
    refine norm_ (a' := ?_) ?_ ?_
    rotate_left
    ·show Act.put _ (some 6) _ = _
     simp only [Act.put, List.setIfInBounds_toArray, List.set_cons_zero, List.set_cons_succ, i64_w, i32_w]
     rfl
    refine one_ (i := 3) (N := some 11) (pT 9 7) rfl rfl (one_of HT_.out (by kernel_rfl)) (by decide) (fun K hK => ?_)
    refine goes_ Try.func63 (by kernel_rfl) rfl #[.agg #[.int .i64 a1_0, .int .i64 a1_1], .agg #[.int .i64 a0_0, .int .i64 a0_1]] (by rfl) rfl rfl (by (try simp only [List.map_toArray, List.map_cons, List.map_nil]); first | done | rfl | (simp only [List.length_drop, List.length_take]; rfl)) ?_
    with_reducible refine (impl_Turn_minus.calls k a1_0 a1_1 a0_0 a0_1 t149 t150 _ A3.out).mono ?_
    rintro e w12 ⟨rfl, hb⟩
    refine ⟨_, rfl, ?_⟩
    have hp0 := pA BK147 hb
    have hv := vK HB hb
    have n3_ := Am (bT hv hb)
    clear HB
    replace BK147 := hp0 BK147; replace BK148 := hp0 BK148; replace BK151 := hp0 BK151
    have HB := n3_
    clear n3_ hp0 hv
    (try clear hb)
    refine hK.out _ _ ⟨c20 BK148.out, c21 BK148.out, c30 BK147.out, c31 BK147.out, c32 BK147.out⟩ (fun hHeld => ?_)
    clear hK K
    refine norm_ (a' := ?_) ?_ ?_
    rotate_left
    ·show Act.put _ (some 11) _ = _
     simp only [Act.put, List.setIfInBounds_toArray, List.set_cons_zero, List.set_cons_succ, i64_w, i32_w]
     rfl
    exact norm_ (by simp only [putAll, Act.put, List.setIfInBounds_toArray, List.set_cons_zero, List.set_cons_succ]) (hCont (gb151) _ ⟨hHeld, (kU BK147), (kU BK148), (kU BK151), GW151.out, GE151.out, NB147_151.out, NB151_147.out, NB148_151.out, NB151_148.out, (by repeat (first | (with_reducible first | exact HB.out | apply bA | apply bN | apply bD | refine bX ?_ (by assumption)) | exact HB.out))⟩)
   rintro gb151 w13 ⟨hS_, h0_, h1_, h2_, h3_, h4_, h5_, h6_, h7_, h8_, h9_⟩
   have n0_ : Aside0 (w13.heap[gb147]? = some (.cells #[.int .i64 a0_0, .int .i64 a0_1, .int .i64 a0_2] 25 (0, 0))) := ⟨h0_⟩
   have n1_ : Aside0 (w13.heap[gb148]? = some (.cells #[.int .i64 a1_0, .int .i64 a1_1] 23 (0, 0))) := ⟨h1_⟩
   have n2_ : Aside0 (w13.heap[gb151]? = some (.cells #[.int .i64 0, .int .i64 0] 23 (0, 0))) := ⟨h2_⟩
   have n3_ : Aside0 (w.heap.size ≤ gb151) := ⟨h3_⟩
   have n4_ : Aside0 (w.heap.size ≤ gb151) := ⟨h4_⟩
   have n5_ : Aside0 (gb147 ≠ gb151) := ⟨h5_⟩
   have n6_ : Aside0 (gb151 ≠ gb147) := ⟨h6_⟩
   have n7_ : Aside0 (gb148 ≠ gb151) := ⟨h7_⟩
   have n8_ : Aside0 (gb151 ≠ gb148) := ⟨h8_⟩
   have n9_ : Aside0 (Below w.heap.size w w13) := ⟨h9_⟩
   clear BK147 BK148 HB h0_ h1_ h2_ h3_ h4_ h5_ h6_ h7_ h8_ h9_
   have BK147 := n0_; have BK148 := n1_; have BK151 := n2_; have GW151 := n3_; have GE151 := n4_; have NB147_151 := n5_; have NB151_147 := n6_; have NB148_151 := n7_; have NB151_148 := n8_; have HB := n9_
   clear n0_ n1_ n2_ n3_ n4_ n5_ n6_ n7_ n8_ n9_
   have hHeld : w13.cell? ⟨gb148, 0, none⟩ = some (.int .i64 a1_0) ∧ w13.cell? ⟨gb148, 1, none⟩ = some (.int .i64 a1_1) ∧ w13.cell? ⟨gb147, 0, none⟩ = some (.int .i64 a0_0) ∧ w13.cell? ⟨gb147, 1, none⟩ = some (.int .i64 a0_1) ∧ w13.cell? ⟨gb147, 2, none⟩ = some (.int .i64 a0_2) := hS_
   refine norm_ (a' := ?_) ?_ ?_
   rotate_left
   ·simp only [putAll, Act.put, List.setIfInBounds_toArray, List.set_cons_zero, List.set_cons_succ]
    rfl
   refine one_ (i := 7) (N := none) (pT 9 8) rfl rfl (one_of HT_.out (by kernel_rfl)) (by decide) (fun K hK => ?_)
   have hs14 : w13.cell? ⟨gb151, 0, none⟩ = some (.int .i64 0) := c20 BK151.out
   have hfs14 := kF BK151.out 0
   have hns14_0 := NB147_151.out; have hns14_1 := NB148_151.out; have hms14_0 := NB151_147.out; have hms14_1 := NB151_148.out
   have hs15 : w13.cell? ⟨gb151, 1, none⟩ = some (.int .i64 0) := c21 BK151.out
   have hfs15 := kF BK151.out 1
   have hns15_0 := NB147_151.out; have hns15_1 := NB148_151.out; have hms15_0 := NB151_147.out; have hms15_1 := NB151_148.out
   refine skip_ (w1 := ?_) (by rfl) rfl ?_ ?_
   rotate_left
   ·go_simp
    rfl
   refine hK.out _ _ ⟨((cell_far (p := ⟨gb151, _, none⟩) NB148_151.out _).trans (((cell_far (p := ⟨gb151, _, none⟩) NB148_151.out _).trans (hHeld.1)))), ((cell_far (p := ⟨gb151, _, none⟩) NB148_151.out _).trans (((cell_far (p := ⟨gb151, _, none⟩) NB148_151.out _).trans (hHeld.2.1)))), ((cell_far (p := ⟨gb151, _, none⟩) NB147_151.out _).trans (((cell_far (p := ⟨gb151, _, none⟩) NB147_151.out _).trans (hHeld.2.2.1)))), ((cell_far (p := ⟨gb151, _, none⟩) NB147_151.out _).trans (((cell_far (p := ⟨gb151, _, none⟩) NB147_151.out _).trans (hHeld.2.2.2.1)))), ((cell_far (p := ⟨gb151, _, none⟩) NB147_151.out _).trans (((cell_far (p := ⟨gb151, _, none⟩) NB147_151.out _).trans (hHeld.2.2.2.2))))⟩ (fun hHeld => ?_)
   clear hK K
   refine pI (v := ?_) (a' := ?_) rfl (any_of HT_.out (by kernel_rfl)) (fun _ _ _ h => h) (Or.inl ⟨by rfl, ?_⟩) ?_ ?_
   rotate_left
   ·intro w'
    go_simp
    with_reducible rfl
   rotate_left
   ·show Act.put _ (some _) _ = _
    simp only [Act.put, List.setIfInBounds_toArray, List.set_cons_zero, List.set_cons_succ, i64_w, i32_w]
    rfl
   refine done_ (done_of HT_.out (by kernel_rfl)) ?_
   have nq16 := kO NB151_147; have nq17 := kO NB151_148
   have zq18 := c2 BK151
   try go_wp2_with (first | ((with_reducible refine gate_callee (f := 64) rfl ?_); refine gL (some 17) Try.func64 #[.agg #[.int .i64 t149, .int .i64 t150]] rfl ?_; (with_reducible refine (impl_Turn_mirror.calls k t149 t150 t152 t153 _ A5.out).mono ?_); rintro e w19 ⟨rfl, hb⟩; refine ⟨_, rfl, ?_⟩; have hp0 := pB gb151 BK147 hb; have n2_ := Am (kB (g := gb151) (o := .cells #[.int .i64 t149, .int .i64 t150] 23 (0, 0)) (by (with_reducible repeat (first | refine kN ?_ _ | refine kD ?_ | refine kA ?_ _)); refine kP (cs := #[.int .i64 t149, .int .i64 0]) ?_ 1 _ rfl; (with_reducible repeat (first | refine kN ?_ _ | refine kD ?_ | refine kA ?_ _)); refine kP (cs := #[.int .i64 0, .int .i64 0]) ?_ 0 _ rfl; (with_reducible repeat (first | refine kN ?_ _ | refine kD ?_ | refine kA ?_ _)); exact BK151.out) hb); have hv := vK HB hb; have n3_ := Am (bT hv hb); clear BK151; clear HB; replace BK147 := hp0 NB147_151 BK147; replace BK148 := hp0 NB148_151 BK148; have BK151 := n2_; have HB := n3_; clear n2_ n3_ hp0 hv; (try clear hb); have zq20 := c2 BK151) | ((with_reducible refine gate_callee (f := 66) rfl ?_); refine gL (some 22) Try.func66 #[.agg #[.int .i64 t152, .int .i64 t153], .int .i64 (wrap64 (-a0_2))] rfl ?_; (with_reducible refine (impl_roots.calls k t152 t153 (wrap64 (-a0_2)) t154 t157 _ A6.out).mono ?_); rintro e w21 ⟨v155, rfl, ho0, hb⟩; refine ⟨_, rfl, ?_⟩; have n0_ := Am (Kd.R_lower (Kd.R_newB (Kd.R_newB ho0 (g := gb148) (o := .cells #[.int .i64 a1_0, .int .i64 a1_1] 23 (0, 0)) (by (with_reducible repeat (first | refine kN ?_ _ | refine kD ?_ | refine kA ?_ _)); refine kR ?_ NB148_151.out _; (with_reducible repeat (first | refine kN ?_ _ | refine kD ?_ | refine kA ?_ _)); refine kR ?_ NB148_151.out _; (with_reducible repeat (first | refine kN ?_ _ | refine kD ?_ | refine kA ?_ _)); exact BK148.out)) (g := gb151) (o := .cells #[.int .i64 t152, .int .i64 t153] 23 (0, 0)) (by (with_reducible repeat (first | refine kN ?_ _ | refine kD ?_ | refine kA ?_ _)); refine kP (cs := #[.int .i64 t152, .int .i64 t150]) ?_ 1 _ rfl; (with_reducible repeat (first | refine kN ?_ _ | refine kD ?_ | refine kA ?_ _)); refine kP (cs := #[.int .i64 t149, .int .i64 t150]) ?_ 0 _ rfl; (with_reducible repeat (first | refine kN ?_ _ | refine kD ?_ | refine kA ?_ _)); exact BK151.out)) (bZ (by repeat (first | (with_reducible first | exact HB.out | apply bA | apply bN | apply bD | refine bX ?_ (by assumption)) | exact HB.out)))); have hp0 := pB gb151 BK147 hb; have n3_ := Am (kB (g := gb151) (o := .cells #[.int .i64 t152, .int .i64 t153] 23 (0, 0)) (by (with_reducible repeat (first | refine kN ?_ _ | refine kD ?_ | refine kA ?_ _)); refine kP (cs := #[.int .i64 t152, .int .i64 t150]) ?_ 1 _ rfl; (with_reducible repeat (first | refine kN ?_ _ | refine kD ?_ | refine kA ?_ _)); refine kP (cs := #[.int .i64 t149, .int .i64 t150]) ?_ 0 _ rfl; (with_reducible repeat (first | refine kN ?_ _ | refine kD ?_ | refine kA ?_ _)); exact BK151.out) hb); have hv := vK HB hb; have n4_ := Am (bT hv hb); clear BK151; clear HB; have HO156 := n0_; replace BK147 := hp0 NB147_151 BK147; replace BK148 := hp0 NB148_151 BK148; have BK151 := n3_; have HB := n4_; clear n0_ n3_ n4_ hp0 hv; (try clear hb); (try clear ho0); obtain ⟨Ao22, co22, eo22⟩ := Kd.R_slice HO156.out; subst eo22) | ((with_reducible refine gate_callee (f := 65) rfl ?_); refine gL (some 25) Try.func65 #[.slice Ao22 t154.length co22, .bool t157] rfl ?_; (with_reducible refine (impl_ifTurns.calls k (fun k_ => some k_ = (.slice Ao22 t154.length co22 : Value).ownBlock) (.slice Ao22 t154.length co22) t154 t157 t158 t161 w _ ?side1 ?side2 A7.out).mono ?_); (case side1 => repeat (first | (with_reducible first | exact HB.out | apply bA | apply bN | apply bD | refine bX ?_ (by assumption)) | exact HB.out)); (case side2 => exact Kd.R_tight rfl HO156.out); rintro e w23 ⟨v159, rfl, ho0, hb, hkp⟩; refine ⟨_, rfl, ?_⟩; have n0_ := Am (blk_kept (kU BK147) hkp (fun hs_ => (fun e_ => (Kd.R_ne HO156.out BK147.out (by decide)) e_) hs_)); have n1_ := Am (blk_kept (kU BK148) hkp (fun hs_ => (fun e_ => (Kd.R_away HO156.out (fun _ hk => hk.1.2)) e_) hs_)); have n2_ := Am (blk_kept (kU BK151) hkp (fun hs_ => (fun e_ => (Kd.R_away HO156.out (fun _ hk => hk.2)) e_) hs_)); have n3_ := Am (Kd.R_mono (ok' := fun k_ => k_ ≠ gb148 ∧ k_ ≠ gb151) ho0 (fun k_ hk_ => ⟨Or.elim hk_ (fun hs_ => fun e_ => (Kd.R_away HO156.out (fun _ hk => hk.1.2)) (by rw [← e_]; exact hs_)) (fun hn_ => (Kd.freshB (g := gb148) (o := .cells #[.int .i64 a1_0, .int .i64 a1_1] 23 (0, 0)) (kU BK148) k_ hn_)), Or.elim hk_ (fun hs_ => fun e_ => (Kd.R_away HO156.out (fun _ hk => hk.2)) (by rw [← e_]; exact hs_)) (fun hn_ => (Kd.freshB (g := gb151) (o := .cells #[.int .i64 t152, .int .i64 t153] 23 (0, 0)) (kU BK151) k_ hn_))⟩)); have n4_ := Am (hb); clear BK147; clear BK148; clear BK151; clear HB; clear HO156; have BK147 := n0_; have BK148 := n1_; have BK151 := n2_; have HO160 := n3_; have HB := n4_; clear n0_ n1_ n2_ n3_ n4_; (try clear hb); (try clear hkp); (try clear ho0)))
   go_ret2
   exact ⟨_, by first | rfl | (simp [errW_none, errW_some] <;> rfl) | (simp [*, errW_none, errW_some] <;> rfl), by (with_reducible repeat (first | apply Kd.R_alloc | apply Kd.R_drewN | apply Kd.R_drew)); exact Kd.R_mono HO160.out (fun _ hk => trivial), by repeat (first | (with_reducible first | exact HB.out | apply bA | apply bN | apply bD | refine bX ?_ (by assumption)) | exact HB.out)⟩
 rw [if_neg c4] at H
 have c4b0 : decide (a0_2 < 0) = false := decide_eq_false c4
 clear c4
 replace H := Option.bind_eq_some_iff.mp H
 obtain ⟨⟨t162, t165⟩, A240, H⟩ := H
 try dsimp only at H
 have A24 := Am A240
 clear A240
 replace H := Option.bind_eq_some_iff.mp H
 obtain ⟨⟨t166, t169⟩, A250, H⟩ := H
 try dsimp only at H
 have A25 := Am A250
 clear A250
 focus
  simp only [Option.some.injEq, Prod.mk.injEq] at H
  obtain ⟨rfl, rfl⟩ := H
  go_enter Try.func43, Try.ntmps43
  try go_wp2_with (first | ((with_reducible refine gate_dst (N := 2) rfl ?_); refine bE 2 #[.int .i64 a0_0, .int .i64 a0_1, .int .i64 a0_2] 25 ?_; intro gb147 hg w26 hbox hb; have hv := vK HB hb; have n0_ := Am (bT hv hb); have n1_ := Am (hbox); have GW147 := kG hg hv; have GE147 := kG hg hv; clear HB; have HB := n0_; have BK147 := n1_; clear n0_ n1_ hv; clear hb hbox hg) | ((with_reducible refine gate_dst (N := 3) rfl ?_); refine bE 3 #[.int .i64 a1_0, .int .i64 a1_1] 23 ?_; intro gb148 hg w27 hbox hb; have hp0 := pA BK147 hb; have hv := vK HB hb; have n1_ := Am (bT hv hb); have n2_ := Am (hbox); have GW148 := kG hg hv; have GE148 := kG hg hv; have hp1 := pK BK147 hb; obtain ⟨NB147_148, NB148_147⟩ := kXY hg hp1 BK147; clear HB; replace BK147 := hp0 BK147; have HB := n1_; have BK148 := n2_; clear n1_ n2_ hp0 hp1 hv; clear hb hbox hg))
  have n0_ := Am (kD BK147.out)
  have n1_ := Am (kD BK148.out)
  have n2_ := Am (bD HB.out)
  clear BK147 BK148 HB
  have BK147 := n0_; have BK148 := n1_; have HB := n2_
  clear n0_ n1_ n2_
  refine start_ (n := 9) (S := fun w' => w'.cell? ⟨gb148, 0, none⟩ = some (.int .i64 a1_0) ∧ w'.cell? ⟨gb148, 1, none⟩ = some (.int .i64 a1_1) ∧ w'.cell? ⟨gb147, 0, none⟩ = some (.int .i64 a0_0) ∧ w'.cell? ⟨gb147, 1, none⟩ = some (.int .i64 a0_1) ∧ w'.cell? ⟨gb147, 2, none⟩ = some (.int .i64 a0_2)) (ds := []) (pT 9 0) (by kernel_rfl) rfl rfl ⟨c20 BK148.out, c21 BK148.out, c30 BK147.out, c31 BK147.out, c32 BK147.out⟩ (fun hHeld => ?_); refine with_tabW impl_Hand_timesAt.tab1 impl_Hand_timesAt.bits1 (fun HT_ HW_ => ?_)
  generalize w27.drew = w28 at BK147 BK148 HB hHeld ⊢
  refine pure_ (i := 1) (N := some 9) (v := ?_) (a' := ?_) #[false, true, false, false, false, false, false, false, false] rfl rfl (any_of HT_.out (by kernel_rfl)) (fun _ _ _ h => h) (Or.inl ⟨by rfl, ?_⟩) ?_ ?_
  rotate_left
  ·intro w'
   go_simp
   with_reducible rfl
  rotate_left
  ·simp only [Act.put, List.setIfInBounds_toArray, List.set_cons_zero, List.set_cons_succ, i64_w, i32_w]
   rfl
  refine pure_ (i := 4) (N := some 12) (v := ?_) (a' := ?_) #[false, true, false, false, true, false, false, false, false] rfl rfl (any_of HT_.out (by kernel_rfl)) (fun _ _ _ h => h) (Or.inl ⟨by rfl, ?_⟩) ?_ ?_
  rotate_left
  ·intro w'
   go_simp
   with_reducible rfl
  rotate_left
  ·simp only [Act.put, List.setIfInBounds_toArray, List.set_cons_zero, List.set_cons_succ, i64_w, i32_w]
   rfl
  refine take_ (i := 0) (N := some 8) (v := ?_) (a' := ?_) #[true, true, false, false, true, false, false, false, false] rfl rfl (take_ofW HT_.out HW_.out (by kernel_rfl)) (fun _ _ _ h => h) (Or.inl ⟨by rfl, ?_⟩) hHeld ?_ ?_
  rotate_left
  ·rintro w' ⟨s0, s1, s2, s3, s4⟩
   go_simp
   with_reducible rfl
  rotate_left
  ·simp only [Act.put, List.setIfInBounds_toArray, List.set_cons_zero, List.set_cons_succ, i64_w, i32_w]
   rfl
  refine take_ (i := 2) (N := some 10) (v := ?_) (a' := ?_) #[true, true, true, false, true, false, false, false, false] rfl rfl (take_ofW HT_.out HW_.out (by kernel_rfl)) (fun _ _ _ h => h) (Or.inl ⟨by rfl, ?_⟩) hHeld ?_ ?_
  rotate_left
  ·rintro w' ⟨s0, s1, s2, s3, s4⟩
   go_simp
   with_reducible rfl
  rotate_left
  ·simp only [Act.put, List.setIfInBounds_toArray, List.set_cons_zero, List.set_cons_succ, i64_w, i32_w]
   rfl
  refine take_ (i := 5) (N := some 13) (v := ?_) (a' := ?_) #[true, true, true, false, true, true, false, false, false] rfl rfl (take_ofW HT_.out HW_.out (by kernel_rfl)) (fun _ _ _ h => h) (Or.inl ⟨by rfl, ?_⟩) hHeld ?_ ?_
  rotate_left
  ·rintro w' ⟨s0, s1, s2, s3, s4⟩
   go_simp
   with_reducible rfl
  rotate_left
  ·simp only [Act.put, List.setIfInBounds_toArray, List.set_cons_zero, List.set_cons_succ, i64_w, i32_w]
   rfl
  refine join_ (σ := Nat) 2 (pT 9 7) (fun s_ => [(11, .agg #[.int .i64 t149, .int .i64 t150]), (6, .pointer (some ⟨s_, 0, none⟩))]) (fun s_ w' => (w'.cell? ⟨gb148, 0, none⟩ = some (.int .i64 a1_0) ∧ w'.cell? ⟨gb148, 1, none⟩ = some (.int .i64 a1_1) ∧ w'.cell? ⟨gb147, 0, none⟩ = some (.int .i64 a0_0) ∧ w'.cell? ⟨gb147, 1, none⟩ = some (.int .i64 a0_1) ∧ w'.cell? ⟨gb147, 2, none⟩ = some (.int .i64 a0_2)) ∧ (w'.heap[gb147]? = some (.cells #[.int .i64 a0_0, .int .i64 a0_1, .int .i64 a0_2] 25 (0, 0))) ∧ (w'.heap[gb148]? = some (.cells #[.int .i64 a1_0, .int .i64 a1_1] 23 (0, 0))) ∧ (w'.heap[s_]? = some (.cells #[.int .i64 0, .int .i64 0] 23 (0, 0))) ∧ (w.heap.size ≤ s_) ∧ (w.heap.size ≤ s_) ∧ (gb147 ≠ s_) ∧ (s_ ≠ gb147) ∧ (gb148 ≠ s_) ∧ (s_ ≠ gb148) ∧ (Below w.heap.size w w')) ?_ ?_
  rotate_left
  ·intro hCont
   refine two_ (i := 3) (j := 6) (Ni := some 11) (Nj := some 6) (pT 9 6) #[true, true, true, false, true, true, true, false, false] rfl rfl rfl rfl (two_of HT_.out (by kernel_rfl)) (by decide) (by decide) (fun K hK => ?_) (fun K hK => ?_)
   ·skip
    refine goes_ Try.func63 (by kernel_rfl) rfl #[.agg #[.int .i64 a1_0, .int .i64 a1_1], .agg #[.int .i64 a0_0, .int .i64 a0_1]] (by rfl) rfl rfl (by (try simp only [List.map_toArray, List.map_cons, List.map_nil]); first | done | rfl | (simp only [List.length_drop, List.length_take]; rfl)) ?_
    with_reducible refine (impl_Turn_minus.calls k a1_0 a1_1 a0_0 a0_1 t149 t150 _ A3.out).mono ?_
    rintro e w29 ⟨rfl, hb⟩
    refine ⟨_, rfl, ?_⟩
    have hp0 := pA BK147 hb
    have hv := vK HB hb
    have n2_ := Am (bT hv hb)
    clear HB
    replace BK147 := hp0 BK147; replace BK148 := hp0 BK148
    have HB := n2_
    clear n2_ hp0 hv
    (try clear hb)
    refine hK.out _ _ ⟨c20 BK148.out, c21 BK148.out, c30 BK147.out, c31 BK147.out, c32 BK147.out⟩ (fun hHeld => ?_)
    clear hK K
    refine norm_ (a' := ?_) ?_ ?_
    rotate_left
    ·show Act.put _ (some 11) _ = _
     simp only [Act.put, List.setIfInBounds_toArray, List.set_cons_zero, List.set_cons_succ, i64_w, i32_w]
     rfl
    refine one_ (i := 6) (N := some 6) (pT 9 7) rfl rfl (one_of HT_.out (by kernel_rfl)) (by decide) (fun K hK => ?_)
    refine box_step ?hg (N := 6) ?hd (cs := #[.int .i64 0, .int .i64 0]) (t := 23) ?hr ?_; (case hd => rfl); (case hg => rfl); (case hr => first | (go_simp; done) | (go_simp; rfl))
    intro gb151 hg w30 hbox hb
    have hp0 := pA BK147 hb
    have hv := vK HB hb
    have n2_ := Am (bT hv hb)
    have n3_ := Am (hbox)
    have GW151 := kG hg hv
    have GE151 := kG hg hv
    have hp1 := pK BK147 hb
    obtain ⟨NB147_151, NB151_147⟩ := kXY hg hp1 BK147
    obtain ⟨NB148_151, NB151_148⟩ := kXY hg hp1 BK148
    clear HB
    replace BK147 := hp0 BK147; replace BK148 := hp0 BK148
    have HB := n2_; have BK151 := n3_
    clear n2_ n3_ hp0 hp1 hv hb hbox hg
    refine hK.out _ _ ⟨c20 BK148.out, c21 BK148.out, c30 BK147.out, c31 BK147.out, c32 BK147.out⟩ (fun hHeld => ?_)
    clear hK K
    refine norm_ (a' := ?_) ?_ ?_
    rotate_left
    ·show Act.put _ (some 6) _ = _
     simp only [Act.put, List.setIfInBounds_toArray, List.set_cons_zero, List.set_cons_succ, i64_w, i32_w]
     rfl
    exact norm_ (by simp only [putAll, Act.put, List.setIfInBounds_toArray, List.set_cons_zero, List.set_cons_succ]) (hCont (gb151) _ ⟨hHeld, (kU BK147), (kU BK148), (kU BK151), GW151.out, GE151.out, NB147_151.out, NB151_147.out, NB148_151.out, NB151_148.out, (by repeat (first | (with_reducible first | exact HB.out | apply bA | apply bN | apply bD | refine bX ?_ (by assumption)) | exact HB.out))⟩)
   skip
   refine box_step ?hg (N := 6) ?hd (cs := #[.int .i64 0, .int .i64 0]) (t := 23) ?hr ?_; (case hd => rfl); (case hg => rfl); (case hr => first | (go_simp; done) | (go_simp; rfl))
   intro gb151 hg w29 hbox hb
   have hp0 := pA BK147 hb
   have hv := vK HB hb
   have n2_ := Am (bT hv hb)
   have n3_ := Am (hbox)
   have GW151 := kG hg hv
   have GE151 := kG hg hv
   have hp1 := pK BK147 hb
   obtain ⟨NB147_151, NB151_147⟩ := kXY hg hp1 BK147
   obtain ⟨NB148_151, NB151_148⟩ := kXY hg hp1 BK148
   clear HB
   replace BK147 := hp0 BK147; replace BK148 := hp0 BK148
   have HB := n2_; have BK151 := n3_
   clear n2_ n3_ hp0 hp1 hv hb hbox hg
   refine hK.out _ _ ⟨c20 BK148.out, c21 BK148.out, c30 BK147.out, c31 BK147.out, c32 BK147.out⟩ (fun hHeld => ?_)
   clear hK K
   refine norm_ (a' := ?_) ?_ ?_
   rotate_left
   ·show Act.put _ (some 6) _ = _
    simp only [Act.put, List.setIfInBounds_toArray, List.set_cons_zero, List.set_cons_succ, i64_w, i32_w]
    rfl
   refine one_ (i := 3) (N := some 11) (pT 9 7) rfl rfl (one_of HT_.out (by kernel_rfl)) (by decide) (fun K hK => ?_)
   refine goes_ Try.func63 (by kernel_rfl) rfl #[.agg #[.int .i64 a1_0, .int .i64 a1_1], .agg #[.int .i64 a0_0, .int .i64 a0_1]] (by rfl) rfl rfl (by (try simp only [List.map_toArray, List.map_cons, List.map_nil]); first | done | rfl | (simp only [List.length_drop, List.length_take]; rfl)) ?_
   with_reducible refine (impl_Turn_minus.calls k a1_0 a1_1 a0_0 a0_1 t149 t150 _ A3.out).mono ?_
   rintro e w30 ⟨rfl, hb⟩
   refine ⟨_, rfl, ?_⟩
   have hp0 := pA BK147 hb
   have hv := vK HB hb
   have n3_ := Am (bT hv hb)
   clear HB
   replace BK147 := hp0 BK147; replace BK148 := hp0 BK148; replace BK151 := hp0 BK151
   have HB := n3_
   clear n3_ hp0 hv
   (try clear hb)
   refine hK.out _ _ ⟨c20 BK148.out, c21 BK148.out, c30 BK147.out, c31 BK147.out, c32 BK147.out⟩ (fun hHeld => ?_)
   clear hK K
   refine norm_ (a' := ?_) ?_ ?_
   rotate_left
   ·show Act.put _ (some 11) _ = _
    simp only [Act.put, List.setIfInBounds_toArray, List.set_cons_zero, List.set_cons_succ, i64_w, i32_w]
    rfl
   exact norm_ (by simp only [putAll, Act.put, List.setIfInBounds_toArray, List.set_cons_zero, List.set_cons_succ]) (hCont (gb151) _ ⟨hHeld, (kU BK147), (kU BK148), (kU BK151), GW151.out, GE151.out, NB147_151.out, NB151_147.out, NB148_151.out, NB151_148.out, (by repeat (first | (with_reducible first | exact HB.out | apply bA | apply bN | apply bD | refine bX ?_ (by assumption)) | exact HB.out))⟩)
  rintro gb151 w31 ⟨hS_, h0_, h1_, h2_, h3_, h4_, h5_, h6_, h7_, h8_, h9_⟩
  have n0_ : Aside0 (w31.heap[gb147]? = some (.cells #[.int .i64 a0_0, .int .i64 a0_1, .int .i64 a0_2] 25 (0, 0))) := ⟨h0_⟩
  have n1_ : Aside0 (w31.heap[gb148]? = some (.cells #[.int .i64 a1_0, .int .i64 a1_1] 23 (0, 0))) := ⟨h1_⟩
  have n2_ : Aside0 (w31.heap[gb151]? = some (.cells #[.int .i64 0, .int .i64 0] 23 (0, 0))) := ⟨h2_⟩
  have n3_ : Aside0 (w.heap.size ≤ gb151) := ⟨h3_⟩
  have n4_ : Aside0 (w.heap.size ≤ gb151) := ⟨h4_⟩
  have n5_ : Aside0 (gb147 ≠ gb151) := ⟨h5_⟩
  have n6_ : Aside0 (gb151 ≠ gb147) := ⟨h6_⟩
  have n7_ : Aside0 (gb148 ≠ gb151) := ⟨h7_⟩
  have n8_ : Aside0 (gb151 ≠ gb148) := ⟨h8_⟩
  have n9_ : Aside0 (Below w.heap.size w w31) := ⟨h9_⟩
  clear BK147 BK148 HB h0_ h1_ h2_ h3_ h4_ h5_ h6_ h7_ h8_ h9_
  have BK147 := n0_; have BK148 := n1_; have BK151 := n2_; have GW151 := n3_; have GE151 := n4_; have NB147_151 := n5_; have NB151_147 := n6_; have NB148_151 := n7_; have NB151_148 := n8_; have HB := n9_
  clear n0_ n1_ n2_ n3_ n4_ n5_ n6_ n7_ n8_ n9_
  have hHeld : w31.cell? ⟨gb148, 0, none⟩ = some (.int .i64 a1_0) ∧ w31.cell? ⟨gb148, 1, none⟩ = some (.int .i64 a1_1) ∧ w31.cell? ⟨gb147, 0, none⟩ = some (.int .i64 a0_0) ∧ w31.cell? ⟨gb147, 1, none⟩ = some (.int .i64 a0_1) ∧ w31.cell? ⟨gb147, 2, none⟩ = some (.int .i64 a0_2) := hS_
  refine norm_ (a' := ?_) ?_ ?_
  rotate_left
  ·simp only [putAll, Act.put, List.setIfInBounds_toArray, List.set_cons_zero, List.set_cons_succ]
   rfl
  refine one_ (i := 7) (N := none) (pT 9 8) rfl rfl (one_of HT_.out (by kernel_rfl)) (by decide) (fun K hK => ?_)
  have hs32 : w31.cell? ⟨gb151, 0, none⟩ = some (.int .i64 0) := c20 BK151.out
  have hfs32 := kF BK151.out 0
  have hns32_0 := NB147_151.out; have hns32_1 := NB148_151.out; have hms32_0 := NB151_147.out; have hms32_1 := NB151_148.out
  have hs33 : w31.cell? ⟨gb151, 1, none⟩ = some (.int .i64 0) := c21 BK151.out
  have hfs33 := kF BK151.out 1
  have hns33_0 := NB147_151.out; have hns33_1 := NB148_151.out; have hms33_0 := NB151_147.out; have hms33_1 := NB151_148.out
  refine skip_ (w1 := ?_) (by rfl) rfl ?_ ?_
  rotate_left
  ·go_simp
   rfl
  refine hK.out _ _ ⟨((cell_far (p := ⟨gb151, _, none⟩) NB148_151.out _).trans (((cell_far (p := ⟨gb151, _, none⟩) NB148_151.out _).trans (hHeld.1)))), ((cell_far (p := ⟨gb151, _, none⟩) NB148_151.out _).trans (((cell_far (p := ⟨gb151, _, none⟩) NB148_151.out _).trans (hHeld.2.1)))), ((cell_far (p := ⟨gb151, _, none⟩) NB147_151.out _).trans (((cell_far (p := ⟨gb151, _, none⟩) NB147_151.out _).trans (hHeld.2.2.1)))), ((cell_far (p := ⟨gb151, _, none⟩) NB147_151.out _).trans (((cell_far (p := ⟨gb151, _, none⟩) NB147_151.out _).trans (hHeld.2.2.2.1)))), ((cell_far (p := ⟨gb151, _, none⟩) NB147_151.out _).trans (((cell_far (p := ⟨gb151, _, none⟩) NB147_151.out _).trans (hHeld.2.2.2.2))))⟩ (fun hHeld => ?_)
  clear hK K
  refine pI (v := ?_) (a' := ?_) rfl (any_of HT_.out (by kernel_rfl)) (fun _ _ _ h => h) (Or.inl ⟨by rfl, ?_⟩) ?_ ?_
  rotate_left
  ·intro w'
   go_simp
   with_reducible rfl
  rotate_left
  ·show Act.put _ (some _) _ = _
   simp only [Act.put, List.setIfInBounds_toArray, List.set_cons_zero, List.set_cons_succ, i64_w, i32_w]
   rfl
  refine done_ (done_of HT_.out (by kernel_rfl)) ?_
  have nq34 := kO NB151_147; have nq35 := kO NB151_148
  have zq36 := c2 BK151
  try go_wp2_with (first | ((with_reducible refine gate_callee (f := 66) rfl ?_); refine gL (some 22) Try.func66 #[.agg #[.int .i64 t149, .int .i64 t150], .int .i64 a0_2] rfl ?_; (with_reducible refine (impl_roots.calls k t149 t150 a0_2 t162 t165 _ A24.out).mono ?_); rintro e w37 ⟨v163, rfl, ho0, hb⟩; refine ⟨_, rfl, ?_⟩; have n0_ := Am (Kd.R_lower (Kd.R_newB (Kd.R_newB ho0 (g := gb148) (o := .cells #[.int .i64 a1_0, .int .i64 a1_1] 23 (0, 0)) (by (with_reducible repeat (first | refine kN ?_ _ | refine kD ?_ | refine kA ?_ _)); refine kR ?_ NB148_151.out _; (with_reducible repeat (first | refine kN ?_ _ | refine kD ?_ | refine kA ?_ _)); refine kR ?_ NB148_151.out _; (with_reducible repeat (first | refine kN ?_ _ | refine kD ?_ | refine kA ?_ _)); exact BK148.out)) (g := gb151) (o := .cells #[.int .i64 t149, .int .i64 t150] 23 (0, 0)) (by (with_reducible repeat (first | refine kN ?_ _ | refine kD ?_ | refine kA ?_ _)); refine kP (cs := #[.int .i64 t149, .int .i64 0]) ?_ 1 _ rfl; (with_reducible repeat (first | refine kN ?_ _ | refine kD ?_ | refine kA ?_ _)); refine kP (cs := #[.int .i64 0, .int .i64 0]) ?_ 0 _ rfl; (with_reducible repeat (first | refine kN ?_ _ | refine kD ?_ | refine kA ?_ _)); exact BK151.out)) (bZ (by repeat (first | (with_reducible first | exact HB.out | apply bA | apply bN | apply bD | refine bX ?_ (by assumption)) | exact HB.out)))); have hp0 := pB gb151 BK147 hb; have n3_ := Am (kB (g := gb151) (o := .cells #[.int .i64 t149, .int .i64 t150] 23 (0, 0)) (by (with_reducible repeat (first | refine kN ?_ _ | refine kD ?_ | refine kA ?_ _)); refine kP (cs := #[.int .i64 t149, .int .i64 0]) ?_ 1 _ rfl; (with_reducible repeat (first | refine kN ?_ _ | refine kD ?_ | refine kA ?_ _)); refine kP (cs := #[.int .i64 0, .int .i64 0]) ?_ 0 _ rfl; (with_reducible repeat (first | refine kN ?_ _ | refine kD ?_ | refine kA ?_ _)); exact BK151.out) hb); have hv := vK HB hb; have n4_ := Am (bT hv hb); clear BK151; clear HB; have HO164 := n0_; replace BK147 := hp0 NB147_151 BK147; replace BK148 := hp0 NB148_151 BK148; have BK151 := n3_; have HB := n4_; clear n0_ n3_ n4_ hp0 hv; (try clear hb); (try clear ho0); obtain ⟨Ao38, co38, eo38⟩ := Kd.R_slice HO164.out; subst eo38) | ((with_reducible refine gate_callee (f := 65) rfl ?_); refine gL (some 25) Try.func65 #[.slice Ao38 t162.length co38, .bool t165] rfl ?_; (with_reducible refine (impl_ifTurns.calls k (fun k_ => some k_ = (.slice Ao38 t162.length co38 : Value).ownBlock) (.slice Ao38 t162.length co38) t162 t165 t166 t169 w _ ?side1 ?side2 A25.out).mono ?_); (case side1 => repeat (first | (with_reducible first | exact HB.out | apply bA | apply bN | apply bD | refine bX ?_ (by assumption)) | exact HB.out)); (case side2 => exact Kd.R_tight rfl HO164.out); rintro e w39 ⟨v167, rfl, ho0, hb, hkp⟩; refine ⟨_, rfl, ?_⟩; have n0_ := Am (blk_kept (kU BK147) hkp (fun hs_ => (fun e_ => (Kd.R_ne HO164.out BK147.out (by decide)) e_) hs_)); have n1_ := Am (blk_kept (kU BK148) hkp (fun hs_ => (fun e_ => (Kd.R_away HO164.out (fun _ hk => hk.1.2)) e_) hs_)); have n2_ := Am (blk_kept (kU BK151) hkp (fun hs_ => (fun e_ => (Kd.R_away HO164.out (fun _ hk => hk.2)) e_) hs_)); have n3_ := Am (Kd.R_mono (ok' := fun k_ => k_ ≠ gb148 ∧ k_ ≠ gb151) ho0 (fun k_ hk_ => ⟨Or.elim hk_ (fun hs_ => fun e_ => (Kd.R_away HO164.out (fun _ hk => hk.1.2)) (by rw [← e_]; exact hs_)) (fun hn_ => (Kd.freshB (g := gb148) (o := .cells #[.int .i64 a1_0, .int .i64 a1_1] 23 (0, 0)) (kU BK148) k_ hn_)), Or.elim hk_ (fun hs_ => fun e_ => (Kd.R_away HO164.out (fun _ hk => hk.2)) (by rw [← e_]; exact hs_)) (fun hn_ => (Kd.freshB (g := gb151) (o := .cells #[.int .i64 t149, .int .i64 t150] 23 (0, 0)) (kU BK151) k_ hn_))⟩)); have n4_ := Am (hb); clear BK147; clear BK148; clear BK151; clear HB; clear HO164; have BK147 := n0_; have BK148 := n1_; have BK151 := n2_; have HO168 := n3_; have HB := n4_; clear n0_ n1_ n2_ n3_ n4_; (try clear hb); (try clear hkp); (try clear ho0)))
  go_ret2
  exact ⟨_, by first | rfl | (simp [errW_none, errW_some] <;> rfl) | (simp [*, errW_none, errW_some] <;> rfl), by (with_reducible repeat (first | apply Kd.R_alloc | apply Kd.R_drewN | apply Kd.R_drew)); exact Kd.R_mono HO168.out (fun _ hk => trivial), by repeat (first | (with_reducible first | exact HB.out | apply bA | apply bN | apply bD | refine bX ?_ (by assumption)) | exact HB.out)⟩
end Go.Proofs.Ytbgklddlcmgakaa.PFnHandsMeetOfAll
