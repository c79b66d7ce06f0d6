-- WRITTEN BY A PROGRAM OF THIS SESSION (wip/tools): its own text, not the kit's printed one.
import Derived.Test.YtchglfpiicaedaaGreatDoorPFnHandsStandOfAllx0
import Derived.Test.YtchglfpiicaedaaGreatDoorPFnHandsStandOfAllx2
import Derived.Test.YtchglfpiicaedaaGreatDoorPFnHandsStandOfAllx3
namespace Go.Proofs.YtchglfpiicaedaaGreatDoor.PFnHandsStandOfAll
open Go.RowKit Go.Proofs.YtchglfpiicaedaaGreatDoorW.PrintWords Go.Proofs.YtchglfpiicaedaaGreatDoorW.PrintLast Go.Proofs.YtchglfpiicaedaaGreatDoorW.PrintMore
attribute [local go_sem] max2_int min2_int max_two min_two max_three min_three max_four min_four   -- for this text's walks alone
set_option linter.unusedVariables false
set_option linter.unusedSimpArgs false

/-! ### spec_l1Num: function 64 -/
def spec_l1Num.f : Nat → Int → Option (ByteArray)
 | 0, _ => none
 | k + 1, a0 => if a0 < 10 then (some (strOfNums (([(wrap64 (48 + a0)) % 256] : List Int)))) else ((spec_l1Num.f k (wrap64 (Int.tdiv a0 10))).bind fun t277 => ((some (([(wrap64 (48 + (Int.tmod a0 10))) % 256] : List Int) : List Int)).bind fun y278 => (if t277.size + (strOfNums y278).size ≤ 9223372036854775807 then (some (t277 ++ (strOfNums y278))) else (none))))
theorem spec_l1Num.mono_l : ∀ k, (∀ y0, LeO (spec_l1Num.f k y0) (spec_l1Num.f (k + 1) y0))
 | 0 => fun _ r h => by simp [spec_l1Num.f] at h
 | k + 1 => by
  have ih0 := spec_l1Num.mono_l k
  ·intro y0
   unfold spec_l1Num.f
   repeat' first
   | (with_reducible apply ih0)
   | (with_reducible exact LeO.refl _)
   | (with_reducible exact LeO.none _)
   | (with_reducible refine LeO.ite ?_ ?_)
   | (with_reducible refine LeO.bind ?_ (fun _ => ?_))
   | apply ih0
   | exact LeO.none _
   | refine LeO.ite ?_ ?_
   | refine LeO.bind ?_ (fun _ => ?_)
theorem spec_l1Num.mono : ∀ a0 k, LeO (spec_l1Num.f k a0) (spec_l1Num.f (k + 1) a0) := by
 intro a0 k
 have ih0 := spec_l1Num.mono_l k
 exact ih0 a0
def spec_l1Num.T3 : Bool × List (List Nat × List Nat) := (true, [([], []), ([0], [0]), ([1], [1]), ([], []), ([3], [3]), ([4], [4]), ([5], [5]), ([6], [6]), ([7], [7]), ([2, 8], [2, 8]), ([9, 2, 0, 1, 2, 3, 4, 5, 6, 7, 8, 9], [9])])
def spec_l1Num.B3 : List Nat := [0, 1, 3, 0, 8, 24, 56, 120, 248, 511, 1023]
theorem spec_l1Num.tab3 : rtab .any (opsOf Tryz.f64 3) = spec_l1Num.T3 := by kernel_rfl
theorem spec_l1Num.bits3 : waitsOk spec_l1Num.T3.2 spec_l1Num.B3 = true := by kernel_rfl
set_option maxHeartbeats 8000000 in
set_option maxRecDepth 100000 in
theorem spec_l1Num.calls (k : Nat) : ∀ (a0 : Int) (r : ByteArray) (w : World) (h : spec_l1Num.f k a0 = some r),
  Calls Tryz.prog 64 #[.int .i64 a0] w fun e w' => e = .returned (.string r) ∧ Below w.heap.size w w' := by
 induction k using Nat.strongRecOn with
 | _ k ih =>
 intro a0 r w h
 cases k with
 | zero => exact absurd h (by simp [spec_l1Num.f])
 | succ k =>
 simp only [spec_l1Num.f] at h
 have HB := Am (Below.refl w.heap.size w)
 have H : (if a0 < 10 then (some (strOfNums (([(wrap64 (48 + a0)) % 256] : List Int)))) else ((spec_l1Num.f k (wrap64 (Int.tdiv a0 10))).bind fun t277 => ((some (([(wrap64 (48 + (Int.tmod a0 10))) % 256] : List Int) : List Int)).bind fun y278 => (if t277.size + (strOfNums y278).size ≤ 9223372036854775807 then (some (t277 ++ (strOfNums y278))) else (none))))) = some r := h
 clear h
 by_cases c2 : a0 < 10
 ·rw [if_pos c2] at H
  have c2b0 : decide (a0 < 10) = true := decide_eq_true c2
  clear c2
  obtain ⟨y274, hy274⟩ : ∃ y_ : List Int, y_ = (([(wrap64 (48 + a0)) % 256] : List Int)) := ⟨_, rfl⟩
  replace H : (some (strOfNums y274)) = some r := by first | (rw [hy274]; with_reducible exact H) | (have H2_ := (Option.bind_some _ _).symm.trans H; rw [hy274]; with_reducible exact H2_) | (have H2_ := (Option.bind_some _ _).symm.trans H; with_reducible exact H2_) | with_reducible exact H | (rw [hy274]; exact H) | exact H
  have Ny274 := Am hy274
  clear hy274
  focus
   obtain rfl := Option.some.inj H
   go_enter Tryz.func64, Tryz.ntmps64
   go_wp2_with (first | ((with_reducible refine gate_dst (N := 8) rfl ?_); refine Kd.R_lit (Kd.int .u8) _ 5 ?hg (N := 8) ?hd (xs := ([(wrap64 (48 + a0)) % 256] : List Int)) (inner := [.int .u8 ((wrap64 (48 + a0)) % 256)]) (ok := fun _ => True) (okp := fun _ => True) ?hr ?hp (fun _ hk => hk) trivial (Below.refl _ _) (Nat.le_refl _) (by simp) ?_; (case hd => rfl); (case hg => rfl); (case hr => first | (go_simp; done) | (go_simp; rfl)); (case hp => exact (Reps.one (show Kd.M (Kd.int .u8) _ _ _ ((wrap64 (48 + a0)) % 256) [.int .u8 ((wrap64 (48 + a0)) % 256)] from rfl) (Reps.none _ _))); intro v275 w3 ho4 hb hg_ hnew_; clear hg_ hnew_; (first | rw [← Ny274.out] at ho4 | (simp only [Int.reduceToNat] at ho4; rw [← Ny274.out] at ho4)); have n0_ := Am (Kd.R_lower ho4 (bZ (by repeat (first | (with_reducible first | exact HB.out | apply bA | apply bN | apply bD) | exact HB.out)))); have hv := vK HB hb; have n1_ := Am (bT hv hb); clear HB; have HO276 := n0_; have HB := n1_; clear n0_ n1_ hv; clear hb ho4; have hcv5 := own_string (P := Tryz.prog) Tryz.underlying78 Tryz.underlying5 Tryz.underlying9 (Kd.own_of_R HO276.out)))
   go_ret
   exact ⟨by first | rfl | (simp [errW_none, errW_some] <;> rfl) | (simp [*, errW_none, errW_some] <;> rfl), by repeat (first | (with_reducible first | exact HB.out | apply bA | apply bN | apply bD) | exact HB.out)⟩
 rw [if_neg c2] at H
 have c2b0 : decide (a0 < 10) = false := decide_eq_false c2
 clear c2
 replace H := Option.bind_eq_some_iff.mp H
 obtain ⟨t277, A60, H⟩ := H
 try dsimp only at H
 have A6 := Am A60
 clear A60
 obtain ⟨y278, hy278⟩ : ∃ y_ : List Int, y_ = (([(wrap64 (48 + (Int.tmod a0 10))) % 256] : List Int)) := ⟨_, rfl⟩
 replace H : (if t277.size + (strOfNums y278).size ≤ 9223372036854775807 then (some (t277 ++ (strOfNums y278))) else (none)) = some r := by first | (rw [hy278]; with_reducible exact H) | (have H2_ := (Option.bind_some _ _).symm.trans H; rw [hy278]; with_reducible exact H2_) | (have H2_ := (Option.bind_some _ _).symm.trans H; with_reducible exact H2_) | with_reducible exact H | (rw [hy278]; exact H) | exact H
 have Ny278 := Am hy278
 clear hy278
 by_cases c7 : t277.size + (strOfNums y278).size ≤ 9223372036854775807
 ·rw [if_pos c7] at H
  have c7b0 := eq_true c7
  have c7b1 : decide (t277.size + (strOfNums y278).size ≤ 9223372036854775807) = true := decide_eq_true c7
  try have c7b2 : (9223372036854775807 < t277.size + (strOfNums y278).size) = False := eq_false (Nat.not_lt.2 c7)
  focus
   obtain rfl := Option.some.inj H
   go_enter Tryz.func64, Tryz.ntmps64
   try go_wp2
   have n0_ := Am (bD HB.out)
   clear HB
   have HB := n0_
   clear n0_
   refine start_ (n := 11) (S := fun w' => True) (ds := []) (pT 11 0) (by kernel_rfl) rfl rfl trivial (fun hHeld => ?_); refine with_tabW spec_l1Num.tab3 spec_l1Num.bits3 (fun HT_ HW_ => ?_)
   generalize w.drew = w8 at HB hHeld ⊢
   iterate 2
    refine pI (v := ?_) (a' := ?_) rfl (any_of HT_.out (by kernel_rfl)) (fun _ _ _ h => h) (Or.inl ⟨by rfl, ?_⟩) ?_ ?_
    rotate_left
    ·intro w'
     go_simp
     with_reducible rfl
    rotate_left
    ·show Act.put _ (some _) _ = _
     simp only [Act.put, List.setIfInBounds_toArray, List.set_cons_zero, List.set_cons_succ, i64_w, i32_w]
     rfl
   refine pure_ (i := 3) (N := some 13) (v := ?_) (a' := ?_) #[true, true, false, true, false, false, false, false, false, false, false] rfl rfl (any_of HT_.out (by kernel_rfl)) (fun _ _ _ h => h) (Or.inl ⟨by rfl, ?_⟩) ?_ ?_
   rotate_left
   ·intro w'
    go_simp
    with_reducible rfl
   rotate_left
   ·simp only [Act.put, List.setIfInBounds_toArray, List.set_cons_zero, List.set_cons_succ, i64_w, i32_w]
    rfl
   refine pure_ (i := 4) (N := some 14) (v := ?_) (a' := ?_) #[true, true, false, true, true, false, false, false, false, false, false] rfl rfl (any_of HT_.out (by kernel_rfl)) (fun _ _ _ h => h) (Or.inl ⟨by rfl, ?_⟩) ?_ ?_
   rotate_left
   ·intro w'
    go_simp
    with_reducible rfl
   rotate_left
   ·simp only [Act.put, List.setIfInBounds_toArray, List.set_cons_zero, List.set_cons_succ, i64_w, i32_w]
    rfl
   refine pure_ (i := 5) (N := some 15) (v := ?_) (a' := ?_) #[true, true, false, true, true, true, false, false, false, false, false] rfl rfl (any_of HT_.out (by kernel_rfl)) (fun _ _ _ h => h) (Or.inl ⟨by rfl, ?_⟩) ?_ ?_
   rotate_left
   ·intro w'
    go_simp
    with_reducible rfl
   rotate_left
   ·simp only [Act.put, List.setIfInBounds_toArray, List.set_cons_zero, List.set_cons_succ, i64_w, i32_w]
    rfl
   refine pure_ (i := 6) (N := some 16) (v := ?_) (a' := ?_) #[true, true, false, true, true, true, true, false, false, false, false] rfl rfl (any_of HT_.out (by kernel_rfl)) (fun _ _ _ h => h) (Or.inl ⟨by rfl, ?_⟩) ?_ ?_
   rotate_left
   ·intro w'
    go_simp
    with_reducible rfl
   rotate_left
   ·simp only [Act.put, List.setIfInBounds_toArray, List.set_cons_zero, List.set_cons_succ, i64_w, i32_w]
    rfl
   refine join_ (σ := Value) 2 (pT 11 9) (fun s_ => [(12, .string t277), (17, s_), (18, .string (strOfNums y278))]) (fun s_ w' => (Kd.R (Kd.int .u8) 5 w' w.heap.size (fun _ => True) s_ y278) ∧ (Below w.heap.size w w')) ?_ ?_
   rotate_left
   ·intro hCont
    refine two_ (i := 2) (j := 7) (Ni := some 12) (Nj := some 17) (pT 11 7) #[true, true, false, true, true, true, true, true, false, false, false] rfl rfl rfl rfl (two_of HT_.out (by kernel_rfl)) (by decide) (by decide) (fun K hK => ?_) (fun K hK => ?_)
    ·skip
     refine goes_ Tryz.func64 (by kernel_rfl) rfl #[.int .i64 (wrap64 (Int.tdiv a0 10))] (by rfl) rfl rfl (by (try simp only [List.map_toArray, List.map_cons, List.map_nil]); first | done | rfl | (simp only [List.length_drop, List.length_take]; rfl)) ?_
     with_reducible refine (ih k (by omega) (wrap64 (Int.tdiv a0 10)) t277 _ A6.out).mono ?_
     rintro e w9 ⟨rfl, hb⟩
     refine ⟨_, rfl, ?_⟩
     have hv := vK HB hb
     have n0_ := Am (bT hv hb)
     clear HB
     have HB := n0_
     clear n0_ hv
     (try clear hb)
     refine hK.out _ _ trivial (fun hHeld => ?_)
     clear hK K
     refine norm_ (a' := ?_) ?_ ?_
     rotate_left
     ·show Act.put _ (some 12) _ = _
      simp only [Act.put, List.setIfInBounds_toArray, List.set_cons_zero, List.set_cons_succ, i64_w, i32_w]
      rfl
     refine one_ (i := 7) (N := some 17) (pT 11 8) rfl rfl (one_of HT_.out (by kernel_rfl)) (by decide) (fun K hK => ?_)
     refine Kd.R_lit_step (Kd.int .u8) _ 5 ?hg (N := 17) ?hd (xs := ([(wrap64 (48 + (Int.tmod a0 10))) % 256] : List Int)) (inner := [.int .u8 ((wrap64 (48 + (Int.tmod a0 10))) % 256)]) (ok := fun _ => True) (okp := fun _ => True) ?hr ?hp (fun _ hk => hk) trivial (Below.refl _ _) (Nat.le_refl _) (by simp) ?_; (case hd => rfl); (case hg => rfl); (case hr => first | (go_simp; done) | (go_simp; rfl)); (case hp => exact (Reps.one (show Kd.M (Kd.int .u8) _ _ _ ((wrap64 (48 + (Int.tmod a0 10))) % 256) [.int .u8 ((wrap64 (48 + (Int.tmod a0 10))) % 256)] from rfl) (Reps.none _ _)))
     intro v279 w10 ho11 hb hg_ hnew_
     clear hg_ hnew_
     (first | rw [← Ny278.out] at ho11 | (simp only [Int.reduceToNat] at ho11; rw [← Ny278.out] at ho11))
     have n0_ := Am (Kd.R_lower ho11 (bZ (by repeat (first | (with_reducible first | exact HB.out | apply bA | apply bN | apply bD) | exact HB.out))))
     have hv := vK HB hb
     have n1_ := Am (bT hv hb)
     clear HB
     have HO280 := n0_; have HB := n1_
     clear n0_ n1_ hv hb ho11
     refine hK.out _ _ trivial (fun hHeld => ?_)
     clear hK K
     refine norm_ (a' := ?_) ?_ ?_
     rotate_left
     ·show Act.put _ (some 17) _ = _
      simp only [Act.put, List.setIfInBounds_toArray, List.set_cons_zero, List.set_cons_succ, i64_w, i32_w]
      rfl
     refine one_ (i := 8) (N := some 18) (pT 11 9) rfl rfl (one_of HT_.out (by kernel_rfl)) (by decide) (fun K hK => ?_)
     have hcv12 := own_string (P := Tryz.prog) Tryz.underlying78 Tryz.underlying5 Tryz.underlying9 (Kd.own_of_R HO280.out)
     refine value_ (w1 := ?_) (v := ?_) (by rfl) rfl ?_ ?_
     rotate_left 2
     ·go_simp
      constructor
      ·rfl
      rfl
     clear hcv12
     refine hK.out _ _ trivial (fun hHeld => ?_)
     clear hK K
     refine norm_ (a' := ?_) ?_ ?_
     rotate_left
     ·show Act.put _ (some 18) _ = _
      simp only [Act.put, List.setIfInBounds_toArray, List.set_cons_zero, List.set_cons_succ, i64_w, i32_w]
      rfl
     exact norm_ (by simp only [putAll, Act.put, List.setIfInBounds_toArray, List.set_cons_zero, List.set_cons_succ]) (hCont (v279) _ ⟨(kW HO280), (by repeat (first | (with_reducible first | exact HB.out | apply bA | apply bN | apply bD) | exact HB.out))⟩)
    skip
    refine Kd.R_lit_step (Kd.int .u8) _ 5 ?hg (N := 17) ?hd (xs := ([(wrap64 (48 + (Int.tmod a0 10))) % 256] : List Int)) (inner := [.int .u8 ((wrap64 (48 + (Int.tmod a0 10))) % 256)]) (ok := fun _ => True) (okp := fun _ => True) ?hr ?hp (fun _ hk => hk) trivial (Below.refl _ _) (Nat.le_refl _) (by simp) ?_; (case hd => rfl); (case hg => rfl); (case hr => first | (go_simp; done) | (go_simp; rfl)); (case hp => exact (Reps.one (show Kd.M (Kd.int .u8) _ _ _ ((wrap64 (48 + (Int.tmod a0 10))) % 256) [.int .u8 ((wrap64 (48 + (Int.tmod a0 10))) % 256)] from rfl) (Reps.none _ _)))
    intro v279 w9 ho10 hb hg_ hnew_
    clear hg_ hnew_
    (first | rw [← Ny278.out] at ho10 | (simp only [Int.reduceToNat] at ho10; rw [← Ny278.out] at ho10))
    have n0_ := Am (Kd.R_lower ho10 (bZ (by repeat (first | (with_reducible first | exact HB.out | apply bA | apply bN | apply bD) | exact HB.out))))
    have hv := vK HB hb
    have n1_ := Am (bT hv hb)
    clear HB
    have HO280 := n0_; have HB := n1_
    clear n0_ n1_ hv hb ho10
    refine hK.out _ _ trivial (fun hHeld => ?_)
    clear hK K
    refine norm_ (a' := ?_) ?_ ?_
    rotate_left
    ·show Act.put _ (some 17) _ = _
     simp only [Act.put, List.setIfInBounds_toArray, List.set_cons_zero, List.set_cons_succ, i64_w, i32_w]
     rfl
    refine two_ (i := 2) (j := 8) (Ni := some 12) (Nj := some 18) (pT 11 8) #[true, true, false, true, true, true, true, true, true, false, false] rfl rfl rfl rfl (two_of HT_.out (by kernel_rfl)) (by decide) (by decide) (fun K hK => ?_) (fun K hK => ?_)
    ·skip
     refine goes_ Tryz.func64 (by kernel_rfl) rfl #[.int .i64 (wrap64 (Int.tdiv a0 10))] (by rfl) rfl rfl (by (try simp only [List.map_toArray, List.map_cons, List.map_nil]); first | done | rfl | (simp only [List.length_drop, List.length_take]; rfl)) ?_
     with_reducible refine (ih k (by omega) (wrap64 (Int.tdiv a0 10)) t277 _ A6.out).mono ?_
     rintro e w11 ⟨rfl, hb⟩
     refine ⟨_, rfl, ?_⟩
     have n0_ := Am (Kd.R_below (kW HO280) hb)
     have hv := vK HB hb
     have n1_ := Am (bT hv hb)
     clear HO280 HB
     have HO280 := n0_; have HB := n1_
     clear n0_ n1_ hv
     (try clear hb)
     refine hK.out _ _ trivial (fun hHeld => ?_)
     clear hK K
     refine norm_ (a' := ?_) ?_ ?_
     rotate_left
     ·show Act.put _ (some 12) _ = _
      simp only [Act.put, List.setIfInBounds_toArray, List.set_cons_zero, List.set_cons_succ, i64_w, i32_w]
      rfl
     refine one_ (i := 8) (N := some 18) (pT 11 9) rfl rfl (one_of HT_.out (by kernel_rfl)) (by decide) (fun K hK => ?_)
     have hcv12 := own_string (P := Tryz.prog) Tryz.underlying78 Tryz.underlying5 Tryz.underlying9 (Kd.own_of_R HO280.out)
     refine value_ (w1 := ?_) (v := ?_) (by rfl) rfl ?_ ?_
     rotate_left 2
     ·go_simp
      constructor
      ·rfl
      rfl
     clear hcv12
     refine hK.out _ _ trivial (fun hHeld => ?_)
     clear hK K
     refine norm_ (a' := ?_) ?_ ?_
     rotate_left
     ·show Act.put _ (some 18) _ = _
      simp only [Act.put, List.setIfInBounds_toArray, List.set_cons_zero, List.set_cons_succ, i64_w, i32_w]
      rfl
     exact norm_ (by simp only [putAll, Act.put, List.setIfInBounds_toArray, List.set_cons_zero, List.set_cons_succ]) (hCont (v279) _ ⟨(kW HO280), (by repeat (first | (with_reducible first | exact HB.out | apply bA | apply bN | apply bD) | exact HB.out))⟩)
    skip
    have hcv11 := own_string (P := Tryz.prog) Tryz.underlying78 Tryz.underlying5 Tryz.underlying9 (Kd.own_of_R HO280.out)
    refine value_ (w1 := ?_) (v := ?_) (by rfl) rfl ?_ ?_
    rotate_left 2
    ·go_simp
     constructor
     ·rfl
     rfl
    clear hcv11
    refine hK.out _ _ trivial (fun hHeld => ?_)
    clear hK K
    refine norm_ (a' := ?_) ?_ ?_
    rotate_left
    ·show Act.put _ (some 18) _ = _
     simp only [Act.put, List.setIfInBounds_toArray, List.set_cons_zero, List.set_cons_succ, i64_w, i32_w]
     rfl
    refine one_ (i := 2) (N := some 12) (pT 11 9) rfl rfl (one_of HT_.out (by kernel_rfl)) (by decide) (fun K hK => ?_)
    refine goes_ Tryz.func64 (by kernel_rfl) rfl #[.int .i64 (wrap64 (Int.tdiv a0 10))] (by rfl) rfl rfl (by (try simp only [List.map_toArray, List.map_cons, List.map_nil]); first | done | rfl | (simp only [List.length_drop, List.length_take]; rfl)) ?_
    with_reducible refine (ih k (by omega) (wrap64 (Int.tdiv a0 10)) t277 _ A6.out).mono ?_
    rintro e w12 ⟨rfl, hb⟩
    refine ⟨_, rfl, ?_⟩
    have n0_ := Am (Kd.R_below (kW HO280) hb)
    have hv := vK HB hb
    have n1_ := Am (bT hv hb)
    clear HO280 HB
    have HO280 := n0_; have HB := n1_
    clear n0_ n1_ hv
    (try clear hb)
    refine hK.out _ _ trivial (fun hHeld => ?_)
    clear hK K
    refine norm_ (a' := ?_) ?_ ?_
    rotate_left
    ·show Act.put _ (some 12) _ = _
     simp only [Act.put, List.setIfInBounds_toArray, List.set_cons_zero, List.set_cons_succ, i64_w, i32_w]
     rfl
    exact norm_ (by simp only [putAll, Act.put, List.setIfInBounds_toArray, List.set_cons_zero, List.set_cons_succ]) (hCont (v279) _ ⟨(kW HO280), (by repeat (first | (with_reducible first | exact HB.out | apply bA | apply bN | apply bD) | exact HB.out))⟩)
   rintro v279 w13 ⟨h0_, h1_⟩
   have n0_ : Aside0 (Kd.R (Kd.int .u8) 5 w13 w.heap.size (fun _ => True) v279 y278) := ⟨h0_⟩
   have n1_ : Aside0 (Below w.heap.size w w13) := ⟨h1_⟩
   clear HB h0_ h1_
   have HO280 := n0_; have HB := n1_
   clear n0_ n1_
   have hHeld := trivial
   refine norm_ (a' := ?_) ?_ ?_
   rotate_left
   ·simp only [putAll, Act.put, List.setIfInBounds_toArray, List.set_cons_zero, List.set_cons_succ]
    rfl
   iterate 2
    refine pI (v := ?_) (a' := ?_) rfl (any_of HT_.out (by kernel_rfl)) (fun _ _ _ h => h) (Or.inl ⟨by rfl, ?_⟩) ?_ ?_
    rotate_left
    ·intro w'
     go_simp
     with_reducible rfl
    rotate_left
    ·show Act.put _ (some _) _ = _
     simp only [Act.put, List.setIfInBounds_toArray, List.set_cons_zero, List.set_cons_succ, i64_w, i32_w]
     rfl
   refine done_ (done_of HT_.out (by kernel_rfl)) ?_
   try go_wp2
   go_ret
   exact ⟨by first | rfl | (simp [errW_none, errW_some] <;> rfl) | (simp [*, errW_none, errW_some] <;> rfl), by repeat (first | (with_reducible first | exact HB.out | apply bA | apply bN | apply bD) | exact HB.out)⟩
 rw [if_neg c7] at H
 exact absurd H (by simp)
/-! ### spec_diTwo: function 63 -/
def spec_diTwo.f (k : Nat) (a0 : Int) : Option (ByteArray) := if a0 < 10 then ((spec_l1Num.f k a0).bind fun t281 => (if 1 + t281.size ≤ 9223372036854775807 then (some ((⟨#[48]⟩ : ByteArray) ++ t281)) else (none))) else ((spec_l1Num.f k a0).bind fun t282 => (some t282))
theorem spec_diTwo.mono : ∀ a0 k, LeO (spec_diTwo.f k a0) (spec_diTwo.f (k + 1) a0) := by
 intro a0 k
 unfold spec_diTwo.f
 repeat' first
   | (with_reducible exact spec_l1Num.mono _ _)
   | (with_reducible exact LeO.refl _)
   | (with_reducible exact LeO.none _)
   | (with_reducible refine LeO.ite ?_ ?_)
   | (with_reducible refine LeO.bind ?_ (fun _ => ?_))
   | exact spec_l1Num.mono _ _
   | exact LeO.none _
   | refine LeO.ite ?_ ?_
   | refine LeO.bind ?_ (fun _ => ?_)
set_option maxHeartbeats 8000000 in
set_option maxRecDepth 100000 in
theorem spec_diTwo.calls (k : Nat) (a0 : Int) (r : ByteArray) (w : World) (h : spec_diTwo.f k a0 = some r) :
  Calls Tryz.prog 63 #[.int .i64 a0] w fun e w' => e = .returned (.string r) ∧ Below w.heap.size w w' := by
 have HB := Am (Below.refl w.heap.size w)
 have H : (if a0 < 10 then ((spec_l1Num.f k a0).bind fun t281 => (if 1 + t281.size ≤ 9223372036854775807 then (some ((⟨#[48]⟩ : ByteArray) ++ t281)) else (none))) else ((spec_l1Num.f k a0).bind fun t282 => (some t282))) = some r := h
 clear h
 by_cases c2 : a0 < 10
 ·rw [if_pos c2] at H
  have c2b0 : decide (a0 < 10) = true := decide_eq_true c2
  clear c2
  replace H := Option.bind_eq_some_iff.mp H
  obtain ⟨t281, A30, H⟩ := H
  try dsimp only at H
  have A3 := Am A30
  clear A30
  by_cases c4 : 1 + t281.size ≤ 9223372036854775807
  ·rw [if_pos c4] at H
   have c4b0 := eq_true c4
   have c4b1 : decide (1 + t281.size ≤ 9223372036854775807) = true := decide_eq_true c4
   try have c4b2 : (9223372036854775807 < 1 + t281.size) = False := eq_false (Nat.not_lt.2 c4)
   focus
    obtain rfl := Option.some.inj H
    go_enter Tryz.func63, Tryz.ntmps63
    go_wp2_with (first | ((with_reducible refine gate_callee (f := 64) rfl ?_); refine gL (some 6) Tryz.func64 #[.int .i64 a0] rfl ?_; (with_reducible refine (spec_l1Num.calls k a0 t281 _ A3.out).mono ?_); rintro e w5 ⟨rfl, hb⟩; refine ⟨_, rfl, ?_⟩; have hv := vK HB hb; have n0_ := Am (bT hv hb); clear HB; have HB := n0_; clear n0_ hv; (try clear hb)))
    go_ret
    exact ⟨by first | rfl | (simp [errW_none, errW_some] <;> rfl) | (simp [*, errW_none, errW_some] <;> rfl), by repeat (first | (with_reducible first | exact HB.out | apply bA | apply bN | apply bD) | exact HB.out)⟩
  rw [if_neg c4] at H
  exact absurd H (by simp)
 rw [if_neg c2] at H
 have c2b0 : decide (a0 < 10) = false := decide_eq_false c2
 clear c2
 replace H := Option.bind_eq_some_iff.mp H
 obtain ⟨t282, A60, H⟩ := H
 try dsimp only at H
 have A6 := Am A60
 clear A60
 focus
  obtain rfl := Option.some.inj H
  go_enter Tryz.func63, Tryz.ntmps63
  go_wp2_with (first | ((with_reducible refine gate_callee (f := 64) rfl ?_); refine gL (some 9) Tryz.func64 #[.int .i64 a0] rfl ?_; (with_reducible refine (spec_l1Num.calls k a0 t282 _ A6.out).mono ?_); rintro e w7 ⟨rfl, hb⟩; refine ⟨_, rfl, ?_⟩; have hv := vK HB hb; have n0_ := Am (bT hv hb); clear HB; have HB := n0_; clear n0_ hv; (try clear hb)))
  go_ret
  exact ⟨by first | rfl | (simp [errW_none, errW_some] <;> rfl) | (simp [*, errW_none, errW_some] <;> rfl), by repeat (first | (with_reducible first | exact HB.out | apply bA | apply bN | apply bD) | exact HB.out)⟩
/-! ### spec_diText: function 42 -/
def spec_diText.f (k : Nat) (a0 : Int) (a1_0 : Int) (a1_1 : Int) : Option (ByteArray) := if a1_1 = 0 then (none) else ((spec_diTwo.f k (wrap64 (Int.tdiv (wrap64 (Int.tdiv (wrap64 ((wrap64 (a1_0 * a0)) * 3600)) a1_1)) 3600))).bind fun t284 => (if t284.size + 1 ≤ 9223372036854775807 then ((spec_diTwo.f k (Int.tmod (wrap64 (Int.tdiv (wrap64 (Int.tdiv (wrap64 ((wrap64 (a1_0 * a0)) * 3600)) a1_1)) 60)) 60)).bind fun t285 => (if (t284 ++ (⟨#[58]⟩ : ByteArray)).size + t285.size ≤ 9223372036854775807 then (if ((t284 ++ (⟨#[58]⟩ : ByteArray)) ++ t285).size + 1 ≤ 9223372036854775807 then ((spec_diTwo.f k (Int.tmod (wrap64 (Int.tdiv (wrap64 ((wrap64 (a1_0 * a0)) * 3600)) a1_1)) 60)).bind fun t286 => (if (((t284 ++ (⟨#[58]⟩ : ByteArray)) ++ t285) ++ (⟨#[58]⟩ : ByteArray)).size + t286.size ≤ 9223372036854775807 then ((spec_diTimes.f k a1_0 a1_1 (wrap64 (a0 * 3600))).bind fun bt287 => (if bt287.1 > 0 then ((spec_l1Num.f k bt287.1).bind fun t290 => (if 1 + t290.size ≤ 9223372036854775807 then (if ((⟨#[43]⟩ : ByteArray) ++ t290).size + 1 ≤ 9223372036854775807 then ((spec_l1Num.f k bt287.2).bind fun t291 => (if (((⟨#[43]⟩ : ByteArray) ++ t290) ++ (⟨#[47]⟩ : ByteArray)).size + t291.size ≤ 9223372036854775807 then (if ((((t284 ++ (⟨#[58]⟩ : ByteArray)) ++ t285) ++ (⟨#[58]⟩ : ByteArray)) ++ t286).size + ((((⟨#[43]⟩ : ByteArray) ++ t290) ++ (⟨#[47]⟩ : ByteArray)) ++ t291).size ≤ 9223372036854775807 then (some (((((t284 ++ (⟨#[58]⟩ : ByteArray)) ++ t285) ++ (⟨#[58]⟩ : ByteArray)) ++ t286) ++ ((((⟨#[43]⟩ : ByteArray) ++ t290) ++ (⟨#[47]⟩ : ByteArray)) ++ t291))) else (none)) else (none))) else (none)) else (none))) else (some ((((t284 ++ (⟨#[58]⟩ : ByteArray)) ++ t285) ++ (⟨#[58]⟩ : ByteArray)) ++ t286)))) else (none))) else (none)) else (none))) else (none)))
theorem spec_diText.mono : ∀ a0 a1 a2 k, LeO (spec_diText.f k a0 a1 a2) (spec_diText.f (k + 1) a0 a1 a2) := by
 intro a0 a1 a2 k
 unfold spec_diText.f
 repeat' first
   | (with_reducible exact spec_diTimes.mono _ _ _ _)
   | (with_reducible exact spec_diTwo.mono _ _)
   | (with_reducible exact spec_l1Num.mono _ _)
   | (with_reducible exact LeO.refl _)
   | (with_reducible exact LeO.none _)
   | (with_reducible refine LeO.ite ?_ ?_)
   | (with_reducible refine LeO.bind ?_ (fun _ => ?_))
   | exact spec_diTimes.mono _ _ _ _
   | exact spec_diTwo.mono _ _
   | exact spec_l1Num.mono _ _
   | exact LeO.none _
   | refine LeO.ite ?_ ?_
   | refine LeO.bind ?_ (fun _ => ?_)
def spec_diText.T5 : Bool × List (List Nat × List Nat) := (true, [([], []), ([], []), ([1], [1]), ([2], [2]), ([3], [3]), ([4], [4]), ([], []), ([6], [6]), ([7, 3], [7]), ([5, 8], [5, 8]), ([0, 9], [0, 9]), ([10, 8, 0, 1, 2, 3, 4, 5, 6, 7, 8, 9, 10], [0, 10])])
def spec_diText.B5 : List Nat := [0, 0, 2, 6, 14, 30, 0, 64, 206, 510, 1023, 2047]
theorem spec_diText.tab5 : rtab .any (opsOf Tryz.f42 5) = spec_diText.T5 := by kernel_rfl
theorem spec_diText.bits5 : waitsOk spec_diText.T5.2 spec_diText.B5 = true := by kernel_rfl
set_option maxHeartbeats 8000000 in
set_option maxRecDepth 100000 in
theorem spec_diText.calls (k : Nat) (a0 : Int) (a1_0 : Int) (a1_1 : Int) (r : ByteArray) (w : World) (h : spec_diText.f k a0 a1_0 a1_1 = some r) :
  Calls Tryz.prog 42 #[.int .i64 a0, .agg #[.int .i64 a1_0, .int .i64 a1_1]] w fun e w' => e = .returned (.string r) ∧ Below w.heap.size w w' := by
 have hu23 := Tryz.underlying23
 have HB := Am (Below.refl w.heap.size w)
 have H : (if a1_1 = 0 then (none) else ((spec_diTwo.f k (wrap64 (Int.tdiv (wrap64 (Int.tdiv (wrap64 ((wrap64 (a1_0 * a0)) * 3600)) a1_1)) 3600))).bind fun t284 => (if t284.size + 1 ≤ 9223372036854775807 then ((spec_diTwo.f k (Int.tmod (wrap64 (Int.tdiv (wrap64 (Int.tdiv (wrap64 ((wrap64 (a1_0 * a0)) * 3600)) a1_1)) 60)) 60)).bind fun t285 => (if (t284 ++ (⟨#[58]⟩ : ByteArray)).size + t285.size ≤ 9223372036854775807 then (if ((t284 ++ (⟨#[58]⟩ : ByteArray)) ++ t285).size + 1 ≤ 9223372036854775807 then ((spec_diTwo.f k (Int.tmod (wrap64 (Int.tdiv (wrap64 ((wrap64 (a1_0 * a0)) * 3600)) a1_1)) 60)).bind fun t286 => (if (((t284 ++ (⟨#[58]⟩ : ByteArray)) ++ t285) ++ (⟨#[58]⟩ : ByteArray)).size + t286.size ≤ 9223372036854775807 then ((spec_diTimes.f k a1_0 a1_1 (wrap64 (a0 * 3600))).bind fun bt287 => (if bt287.1 > 0 then ((spec_l1Num.f k bt287.1).bind fun t290 => (if 1 + t290.size ≤ 9223372036854775807 then (if ((⟨#[43]⟩ : ByteArray) ++ t290).size + 1 ≤ 9223372036854775807 then ((spec_l1Num.f k bt287.2).bind fun t291 => (if (((⟨#[43]⟩ : ByteArray) ++ t290) ++ (⟨#[47]⟩ : ByteArray)).size + t291.size ≤ 9223372036854775807 then (if ((((t284 ++ (⟨#[58]⟩ : ByteArray)) ++ t285) ++ (⟨#[58]⟩ : ByteArray)) ++ t286).size + ((((⟨#[43]⟩ : ByteArray) ++ t290) ++ (⟨#[47]⟩ : ByteArray)) ++ t291).size ≤ 9223372036854775807 then (some (((((t284 ++ (⟨#[58]⟩ : ByteArray)) ++ t285) ++ (⟨#[58]⟩ : ByteArray)) ++ t286) ++ ((((⟨#[43]⟩ : ByteArray) ++ t290) ++ (⟨#[47]⟩ : ByteArray)) ++ t291))) else (none)) else (none))) else (none)) else (none))) else (some ((((t284 ++ (⟨#[58]⟩ : ByteArray)) ++ t285) ++ (⟨#[58]⟩ : ByteArray)) ++ t286)))) else (none))) else (none)) else (none))) else (none)))) = some r := h
 clear h
 by_cases c3 : a1_1 = 0
 ·rw [if_pos c3] at H
  exact absurd H (by simp)
 rw [if_neg c3] at H
 have c3b0 : (a1_1 == 0) = false := beq_eq_false_iff_ne.mpr c3
 have c3b1 : (a1_1 != 0) = true := bne_iff_ne.mpr c3
 replace H := Option.bind_eq_some_iff.mp H
 obtain ⟨t284, A40, H⟩ := H
 try dsimp only at H
 have A4 := Am A40
 clear A40
 by_cases c5 : t284.size + 1 ≤ 9223372036854775807
 ·rw [if_pos c5] at H
  have c5b0 := eq_true c5
  have c5b1 : decide (t284.size + 1 ≤ 9223372036854775807) = true := decide_eq_true c5
  try have c5b2 : (9223372036854775807 < t284.size + 1) = False := eq_false (Nat.not_lt.2 c5)
  replace H := Option.bind_eq_some_iff.mp H
  obtain ⟨t285, A60, H⟩ := H
  try dsimp only at H
  have A6 := Am A60
  clear A60
  by_cases c7 : (t284 ++ (⟨#[58]⟩ : ByteArray)).size + t285.size ≤ 9223372036854775807
  ·rw [if_pos c7] at H
   have c7b0 := eq_true c7
   have c7b1 : decide ((t284 ++ (⟨#[58]⟩ : ByteArray)).size + t285.size ≤ 9223372036854775807) = true := decide_eq_true c7
   try have c7b2 : (9223372036854775807 < (t284 ++ (⟨#[58]⟩ : ByteArray)).size + t285.size) = False := eq_false (Nat.not_lt.2 c7)
   have c7b3 : (9223372036854775807 < t284.size + 1 + t285.size) = False := by have h_ := c7b2; simp only [ByteArray.size_append] at h_; exact h_
   by_cases c8 : ((t284 ++ (⟨#[58]⟩ : ByteArray)) ++ t285).size + 1 ≤ 9223372036854775807
   ·rw [if_pos c8] at H
    have c8b0 := eq_true c8
    have c8b1 : decide (((t284 ++ (⟨#[58]⟩ : ByteArray)) ++ t285).size + 1 ≤ 9223372036854775807) = true := decide_eq_true c8
    try have c8b2 : (9223372036854775807 < ((t284 ++ (⟨#[58]⟩ : ByteArray)) ++ t285).size + 1) = False := eq_false (Nat.not_lt.2 c8)
    have c8b3 : (9223372036854775807 < t284.size + 1 + t285.size + 1) = False := by have h_ := c8b2; simp only [ByteArray.size_append] at h_; exact h_
    replace H := Option.bind_eq_some_iff.mp H
    obtain ⟨t286, A90, H⟩ := H
    try dsimp only at H
    have A9 := Am A90
    clear A90
    by_cases c10 : (((t284 ++ (⟨#[58]⟩ : ByteArray)) ++ t285) ++ (⟨#[58]⟩ : ByteArray)).size + t286.size ≤ 9223372036854775807
    ·rw [if_pos c10] at H
     have c10b0 := eq_true c10
     have c10b1 : decide ((((t284 ++ (⟨#[58]⟩ : ByteArray)) ++ t285) ++ (⟨#[58]⟩ : ByteArray)).size + t286.size ≤ 9223372036854775807) = true := decide_eq_true c10
     try have c10b2 : (9223372036854775807 < (((t284 ++ (⟨#[58]⟩ : ByteArray)) ++ t285) ++ (⟨#[58]⟩ : ByteArray)).size + t286.size) = False := eq_false (Nat.not_lt.2 c10)
     have c10b3 : (9223372036854775807 < t284.size + 1 + t285.size + 1 + t286.size) = False := by have h_ := c10b2; simp only [ByteArray.size_append] at h_; exact h_
     replace H := Option.bind_eq_some_iff.mp H
     obtain ⟨⟨t287, t288⟩, A110, H⟩ := H
     try dsimp only at H
     have A11 := Am A110
     clear A110
     by_cases c12 : t287 > 0
     ·rw [if_pos c12] at H
      have c12b0 : decide (0 < t287) = true := decide_eq_true c12
      clear c12
      replace H := Option.bind_eq_some_iff.mp H
      obtain ⟨t290, A130, H⟩ := H
      try dsimp only at H
      have A13 := Am A130
      clear A130
      by_cases c14 : 1 + t290.size ≤ 9223372036854775807
      ·rw [if_pos c14] at H
       have c14b0 := eq_true c14
       have c14b1 : decide (1 + t290.size ≤ 9223372036854775807) = true := decide_eq_true c14
       try have c14b2 : (9223372036854775807 < 1 + t290.size) = False := eq_false (Nat.not_lt.2 c14)
       by_cases c15 : ((⟨#[43]⟩ : ByteArray) ++ t290).size + 1 ≤ 9223372036854775807
       ·rw [if_pos c15] at H
        have c15b0 := eq_true c15
        have c15b1 : decide (((⟨#[43]⟩ : ByteArray) ++ t290).size + 1 ≤ 9223372036854775807) = true := decide_eq_true c15
        try have c15b2 : (9223372036854775807 < ((⟨#[43]⟩ : ByteArray) ++ t290).size + 1) = False := eq_false (Nat.not_lt.2 c15)
        have c15b3 : (9223372036854775807 < 1 + t290.size + 1) = False := by have h_ := c15b2; simp only [ByteArray.size_append] at h_; exact h_
        replace H := Option.bind_eq_some_iff.mp H
        obtain ⟨t291, A160, H⟩ := H
        try dsimp only at H
        have A16 := Am A160
        clear A160
        by_cases c17 : (((⟨#[43]⟩ : ByteArray) ++ t290) ++ (⟨#[47]⟩ : ByteArray)).size + t291.size ≤ 9223372036854775807
        ·rw [if_pos c17] at H
         have c17b0 := eq_true c17
         have c17b1 : decide ((((⟨#[43]⟩ : ByteArray) ++ t290) ++ (⟨#[47]⟩ : ByteArray)).size + t291.size ≤ 9223372036854775807) = true := decide_eq_true c17
         try have c17b2 : (9223372036854775807 < (((⟨#[43]⟩ : ByteArray) ++ t290) ++ (⟨#[47]⟩ : ByteArray)).size + t291.size) = False := eq_false (Nat.not_lt.2 c17)
         have c17b3 : (9223372036854775807 < 1 + t290.size + 1 + t291.size) = False := by have h_ := c17b2; simp only [ByteArray.size_append] at h_; exact h_
         by_cases c18 : ((((t284 ++ (⟨#[58]⟩ : ByteArray)) ++ t285) ++ (⟨#[58]⟩ : ByteArray)) ++ t286).size + ((((⟨#[43]⟩ : ByteArray) ++ t290) ++ (⟨#[47]⟩ : ByteArray)) ++ t291).size ≤ 9223372036854775807
         ·rw [if_pos c18] at H
          have c18b0 := eq_true c18
          have c18b1 : decide (((((t284 ++ (⟨#[58]⟩ : ByteArray)) ++ t285) ++ (⟨#[58]⟩ : ByteArray)) ++ t286).size + ((((⟨#[43]⟩ : ByteArray) ++ t290) ++ (⟨#[47]⟩ : ByteArray)) ++ t291).size ≤ 9223372036854775807) = true := decide_eq_true c18
          try have c18b2 : (9223372036854775807 < ((((t284 ++ (⟨#[58]⟩ : ByteArray)) ++ t285) ++ (⟨#[58]⟩ : ByteArray)) ++ t286).size + ((((⟨#[43]⟩ : ByteArray) ++ t290) ++ (⟨#[47]⟩ : ByteArray)) ++ t291).size) = False := eq_false (Nat.not_lt.2 c18)
          have c18b3 : (9223372036854775807 < t284.size + 1 + t285.size + 1 + t286.size + (1 + t290.size + 1 + t291.size)) = False := by have h_ := c18b2; simp only [ByteArray.size_append] at h_; exact h_
          focus
           obtain rfl := Option.some.inj H
           go_enter Tryz.func42, Tryz.ntmps42
           try go_wp2_with (first | ((with_reducible refine gate_dst (N := 3) rfl ?_); refine bE 3 #[.int .i64 a1_0, .int .i64 a1_1] 23 ?_; intro gb283 hg w19 hbox hb; have hv := vK HB hb; have n0_ := Am (bT hv hb); have n1_ := Am (hbox); have GE283 := kG hg hv; clear HB; have HB := n0_; have BK283 := n1_; clear n0_ n1_ hv; clear hb hbox hg; have zq20 := zc2 BK283) | ((with_reducible refine gate_callee (f := 63) rfl ?_); refine gL (some 18) Tryz.func63 #[.int .i64 (wrap64 (Int.tdiv (wrap64 (Int.tdiv (wrap64 ((wrap64 (a1_0 * a0)) * 3600)) a1_1)) 3600))] rfl ?_; (with_reducible refine (spec_diTwo.calls k (wrap64 (Int.tdiv (wrap64 (Int.tdiv (wrap64 ((wrap64 (a1_0 * a0)) * 3600)) a1_1)) 3600)) t284 _ A4.out).mono ?_); rintro e w21 ⟨rfl, hb⟩; refine ⟨_, rfl, ?_⟩; have hp0 := pA BK283 hb; have hv := vK HB hb; have n1_ := Am (bT hv hb); clear HB; replace BK283 := hp0 BK283; have HB := n1_; clear n1_ hp0 hv; (try clear hb)) | ((with_reducible refine gate_callee (f := 63) rfl ?_); refine gL (some 23) Tryz.func63 #[.int .i64 (Int.tmod (wrap64 (Int.tdiv (wrap64 (Int.tdiv (wrap64 ((wrap64 (a1_0 * a0)) * 3600)) a1_1)) 60)) 60)] rfl ?_; (with_reducible refine (spec_diTwo.calls k (Int.tmod (wrap64 (Int.tdiv (wrap64 (Int.tdiv (wrap64 ((wrap64 (a1_0 * a0)) * 3600)) a1_1)) 60)) 60) t285 _ A6.out).mono ?_); rintro e w22 ⟨rfl, hb⟩; refine ⟨_, rfl, ?_⟩; have hp0 := pA BK283 hb; have hv := vK HB hb; have n1_ := Am (bT hv hb); clear HB; replace BK283 := hp0 BK283; have HB := n1_; clear n1_ hp0 hv; (try clear hb)) | ((with_reducible refine gate_callee (f := 63) rfl ?_); refine gL (some 28) Tryz.func63 #[.int .i64 (Int.tmod (wrap64 (Int.tdiv (wrap64 ((wrap64 (a1_0 * a0)) * 3600)) a1_1)) 60)] rfl ?_; (with_reducible refine (spec_diTwo.calls k (Int.tmod (wrap64 (Int.tdiv (wrap64 ((wrap64 (a1_0 * a0)) * 3600)) a1_1)) 60) t286 _ A9.out).mono ?_); rintro e w23 ⟨rfl, hb⟩; refine ⟨_, rfl, ?_⟩; have hp0 := pA BK283 hb; have hv := vK HB hb; have n1_ := Am (bT hv hb); clear HB; replace BK283 := hp0 BK283; have HB := n1_; clear n1_ hp0 hv; (try clear hb); have zq24 := zc2 BK283) | ((with_reducible refine gate_callee (f := 30) rfl ?_); refine gL (some 33) Tryz.func30 #[.agg #[.int .i64 a1_0, .int .i64 a1_1], .int .i64 (wrap64 (a0 * 3600))] rfl ?_; (with_reducible refine (spec_diTimes.calls k a1_0 a1_1 (wrap64 (a0 * 3600)) t287 t288 _ A11.out).mono ?_); rintro e w25 ⟨rfl, hb⟩; refine ⟨_, rfl, ?_⟩; have hp0 := pA BK283 hb; have hv := vK HB hb; have n1_ := Am (bT hv hb); clear HB; replace BK283 := hp0 BK283; have HB := n1_; clear n1_ hp0 hv; (try clear hb)) | ((with_reducible refine gate_dst (N := 7) rfl ?_); refine bE 7 #[.int .i64 0, .int .i64 0] 23 ?_; intro gb289 hg w26 hbox hb; have hp0 := pA BK283 hb; have hv := vK HB hb; have n1_ := Am (bT hv hb); have n2_ := Am (hbox); have GE289 := kG hg hv; have hp1 := pK BK283 hb; obtain ⟨NB283_289, NB289_283⟩ := kXY hg hp1 BK283; clear HB; replace BK283 := hp0 BK283; have HB := n1_; have BK289 := n2_; clear n1_ n2_ hp0 hp1 hv; clear hb hbox hg; have nq27 := kO NB289_283; have zq28 := zc2 BK289))
           have hq := hqR (W := ((w26.setCell ⟨gb289, 0, none⟩ (.int .i64 t287)).setCell ⟨gb289, 1, none⟩ (.int .i64 t288))) gb289 BK283.out (fun _ _ q_ h_ => by (with_reducible repeat (first | refine kN ?_ _ | refine kD ?_ | refine kA ?_ _ | refine kZ ?_ q_ _)); exact h_)
           have n0_ := Am (hq NB283_289.out BK283.out)
           have n1_ : Aside0 (((w26.setCell ⟨gb289, 0, none⟩ (.int .i64 t287)).setCell ⟨gb289, 1, none⟩ (.int .i64 t288)).heap[gb289]? = some (.cells #[.int .i64 t287, .int .i64 t288] 23 (0, 0))) := ⟨by (with_reducible repeat (first | refine kN ?_ _ | refine kD ?_ | refine kA ?_ _)); refine kP (cs := #[.int .i64 t287, .int .i64 0]) ?_ 1 _ rfl; (with_reducible repeat (first | refine kN ?_ _ | refine kD ?_ | refine kA ?_ _)); refine kP (cs := #[.int .i64 0, .int .i64 0]) ?_ 0 _ rfl; (with_reducible repeat (first | refine kN ?_ _ | refine kD ?_ | refine kA ?_ _)); exact BK289.out⟩
           have n2_ : Aside0 (Below w.heap.size w ((w26.setCell ⟨gb289, 0, none⟩ (.int .i64 t287)).setCell ⟨gb289, 1, none⟩ (.int .i64 t288))) := ⟨by repeat (first | (with_reducible first | exact HB.out | apply bA | apply bN | apply bD | refine bX ?_ (by assumption)) | exact HB.out)⟩
           clear hq
           (try clear BK283)
           (try clear BK289)
           (try clear HB)
           generalize ((w26.setCell ⟨gb289, 0, none⟩ (.int .i64 t287)).setCell ⟨gb289, 1, none⟩ (.int .i64 t288)) = w29 at n0_ n1_ n2_ ⊢
           have BK283 := n0_; have BK289 := n1_; have HB := n2_
           clear n0_ n1_ n2_
           have n0_ := Am (kD BK283.out)
           have n1_ := Am (kD BK289.out)
           have n2_ := Am (bD HB.out)
           clear BK283 BK289 HB
           have BK283 := n0_; have BK289 := n1_; have HB := n2_
           clear n0_ n1_ n2_
           refine start_ (n := 12) (S := fun w' => w'.cell? ⟨gb289, 0, none⟩ = some (.int .i64 t287) ∧ w'.cell? ⟨gb289, 1, none⟩ = some (.int .i64 t288)) (ds := []) (pT 12 0) (by kernel_rfl) rfl rfl ⟨zc20 BK289.out, zc21 BK289.out⟩ (fun hHeld => ?_); refine with_tabW spec_diText.tab5 spec_diText.bits5 (fun HT_ HW_ => ?_)
           generalize w29.drew = w30 at BK283 BK289 HB hHeld ⊢
           iterate 2
            refine pI (v := ?_) (a' := ?_) rfl (any_of HT_.out (by kernel_rfl)) (fun _ _ _ h => h) (Or.inl ⟨by rfl, ?_⟩) ?_ ?_
            rotate_left
            ·intro w'
             go_simp
             with_reducible rfl
            rotate_left
            ·show Act.put _ (some _) _ = _
             simp only [Act.put, List.setIfInBounds_toArray, List.set_cons_zero, List.set_cons_succ, i64_w, i32_w]
             rfl
           refine pure_ (i := 6) (N := some 43) (v := ?_) (a' := ?_) #[true, true, false, false, false, false, true, false, false, false, false, false] rfl rfl (any_of HT_.out (by kernel_rfl)) (fun _ _ _ h => h) (Or.inl ⟨by rfl, ?_⟩) ?_ ?_
           rotate_left
           ·intro w'
            go_simp
            with_reducible rfl
           rotate_left
           ·simp only [Act.put, List.setIfInBounds_toArray, List.set_cons_zero, List.set_cons_succ, i64_w, i32_w]
            rfl
           refine take_ (i := 2) (N := some 39) (v := ?_) (a' := ?_) #[true, true, true, false, false, false, true, false, false, false, false, false] rfl rfl (take_ofW HT_.out HW_.out (by kernel_rfl)) (fun _ _ _ h => h) (Or.inl ⟨by rfl, ?_⟩) hHeld ?_ ?_
           rotate_left
           ·rintro w' ⟨s0, s1⟩
            go_simp
            with_reducible rfl
           rotate_left
           ·simp only [Act.put, List.setIfInBounds_toArray, List.set_cons_zero, List.set_cons_succ, i64_w, i32_w]
            rfl
           refine take_ (i := 7) (N := some 44) (v := ?_) (a' := ?_) #[true, true, true, false, false, false, true, true, false, false, false, false] rfl rfl (take_ofW HT_.out HW_.out (by kernel_rfl)) (fun _ _ _ h => h) (Or.inl ⟨by rfl, ?_⟩) hHeld ?_ ?_
           rotate_left
           ·rintro w' ⟨s0, s1⟩
            go_simp
            with_reducible rfl
           rotate_left
           ·simp only [Act.put, List.setIfInBounds_toArray, List.set_cons_zero, List.set_cons_succ, i64_w, i32_w]
            rfl
           refine one_ (i := 3) (N := some 40) #[true, true, true, true, false, false, true, true, false, false, false, false] rfl rfl (one_of HT_.out (by kernel_rfl)) (by decide) (fun K hK => ?_)
           refine goes_ Tryz.func64 (by kernel_rfl) rfl #[.int .i64 t287] (by rfl) rfl rfl (by (try simp only [List.map_toArray, List.map_cons, List.map_nil]); first | done | rfl | (simp only [List.length_drop, List.length_take]; rfl)) ?_
           with_reducible refine (spec_l1Num.calls k t287 t290 _ A13.out).mono ?_
           rintro e w31 ⟨rfl, hb⟩
           refine ⟨_, rfl, ?_⟩
           have hp0 := pA BK283 hb
           have hv := vK HB hb
           have n2_ := Am (bT hv hb)
           clear HB
           replace BK283 := hp0 BK283; replace BK289 := hp0 BK289
           have HB := n2_
           clear n2_ hp0 hv
           (try clear hb)
           refine hK.out _ _ ⟨zc20 BK289.out, zc21 BK289.out⟩ (fun hHeld => ?_)
           clear hK K
           refine norm_ (a' := ?_) ?_ ?_
           rotate_left
           ·show Act.put _ (some 40) _ = _
            simp only [Act.put, List.setIfInBounds_toArray, List.set_cons_zero, List.set_cons_succ, i64_w, i32_w]
            rfl
           refine pure_ (i := 4) (N := some 41) (v := ?_) (a' := ?_) #[true, true, true, true, true, false, true, true, false, false, false, false] rfl rfl (any_of HT_.out (by kernel_rfl)) (fun _ _ _ h => h) (Or.inl ⟨by rfl, ?_⟩) ?_ ?_
           rotate_left
           ·intro w'
            go_simp
            with_reducible rfl
           rotate_left
           ·simp only [Act.put, List.setIfInBounds_toArray, List.set_cons_zero, List.set_cons_succ, i64_w, i32_w]
            rfl
           refine pure_ (i := 5) (N := some 42) (v := ?_) (a' := ?_) (pT 12 8) rfl rfl (any_of HT_.out (by kernel_rfl)) (fun _ _ _ h => h) (Or.inl ⟨by rfl, ?_⟩) ?_ ?_
           rotate_left
           ·intro w'
            go_simp
            with_reducible rfl
           rotate_left
           ·simp only [Act.put, List.setIfInBounds_toArray, List.set_cons_zero, List.set_cons_succ, i64_w, i32_w]
            rfl
           refine one_ (i := 8) (N := some 45) (pT 12 9) rfl rfl (one_of HT_.out (by kernel_rfl)) (by decide) (fun K hK => ?_)
           refine goes_ Tryz.func64 (by kernel_rfl) rfl #[.int .i64 t288] (by rfl) rfl rfl (by (try simp only [List.map_toArray, List.map_cons, List.map_nil]); first | done | rfl | (simp only [List.length_drop, List.length_take]; rfl)) ?_
           with_reducible refine (spec_l1Num.calls k t288 t291 _ A16.out).mono ?_
           rintro e w32 ⟨rfl, hb⟩
           refine ⟨_, rfl, ?_⟩
           have hp0 := pA BK283 hb
           have hv := vK HB hb
           have n2_ := Am (bT hv hb)
           clear HB
           replace BK283 := hp0 BK283; replace BK289 := hp0 BK289
           have HB := n2_
           clear n2_ hp0 hv
           (try clear hb)
           refine hK.out _ _ ⟨zc20 BK289.out, zc21 BK289.out⟩ (fun hHeld => ?_)
           clear hK K
           refine norm_ (a' := ?_) ?_ ?_
           rotate_left
           ·show Act.put _ (some 45) _ = _
            simp only [Act.put, List.setIfInBounds_toArray, List.set_cons_zero, List.set_cons_succ, i64_w, i32_w]
            rfl
           iterate 3
            refine pI (v := ?_) (a' := ?_) rfl (any_of HT_.out (by kernel_rfl)) (fun _ _ _ h => h) (Or.inl ⟨by rfl, ?_⟩) ?_ ?_
            rotate_left
            ·intro w'
             go_simp
             with_reducible rfl
            rotate_left
            ·show Act.put _ (some _) _ = _
             simp only [Act.put, List.setIfInBounds_toArray, List.set_cons_zero, List.set_cons_succ, i64_w, i32_w]
             rfl
           refine done_ (done_of HT_.out (by kernel_rfl)) ?_
           try go_wp2
           go_ret
           exact ⟨by first | rfl | (simp [errW_none, errW_some] <;> rfl) | (simp [*, errW_none, errW_some] <;> rfl), by repeat (first | (with_reducible first | exact HB.out | apply bA | apply bN | apply bD | refine bX ?_ (by assumption)) | exact HB.out)⟩
         rw [if_neg c18] at H
         exact absurd H (by simp)
        rw [if_neg c17] at H
        exact absurd H (by simp)
       rw [if_neg c15] at H
       exact absurd H (by simp)
      rw [if_neg c14] at H
      exact absurd H (by simp)
     rw [if_neg c12] at H
     have c12b0 : decide (0 < t287) = false := decide_eq_false c12
     clear c12
     focus
      obtain rfl := Option.some.inj H
      go_enter Tryz.func42, Tryz.ntmps42
      go_wp2_with (first | ((with_reducible refine gate_dst (N := 3) rfl ?_); refine bE 3 #[.int .i64 a1_0, .int .i64 a1_1] 23 ?_; intro gb283 hg w33 hbox hb; have hv := vK HB hb; have n0_ := Am (bT hv hb); have n1_ := Am (hbox); have GE283 := kG hg hv; clear HB; have HB := n0_; have BK283 := n1_; clear n0_ n1_ hv; clear hb hbox hg; have zq34 := zc2 BK283) | ((with_reducible refine gate_callee (f := 63) rfl ?_); refine gL (some 18) Tryz.func63 #[.int .i64 (wrap64 (Int.tdiv (wrap64 (Int.tdiv (wrap64 ((wrap64 (a1_0 * a0)) * 3600)) a1_1)) 3600))] rfl ?_; (with_reducible refine (spec_diTwo.calls k (wrap64 (Int.tdiv (wrap64 (Int.tdiv (wrap64 ((wrap64 (a1_0 * a0)) * 3600)) a1_1)) 3600)) t284 _ A4.out).mono ?_); rintro e w35 ⟨rfl, hb⟩; refine ⟨_, rfl, ?_⟩; have hp0 := pA BK283 hb; have hv := vK HB hb; have n1_ := Am (bT hv hb); clear HB; replace BK283 := hp0 BK283; have HB := n1_; clear n1_ hp0 hv; (try clear hb)) | ((with_reducible refine gate_callee (f := 63) rfl ?_); refine gL (some 23) Tryz.func63 #[.int .i64 (Int.tmod (wrap64 (Int.tdiv (wrap64 (Int.tdiv (wrap64 ((wrap64 (a1_0 * a0)) * 3600)) a1_1)) 60)) 60)] rfl ?_; (with_reducible refine (spec_diTwo.calls k (Int.tmod (wrap64 (Int.tdiv (wrap64 (Int.tdiv (wrap64 ((wrap64 (a1_0 * a0)) * 3600)) a1_1)) 60)) 60) t285 _ A6.out).mono ?_); rintro e w36 ⟨rfl, hb⟩; refine ⟨_, rfl, ?_⟩; have hp0 := pA BK283 hb; have hv := vK HB hb; have n1_ := Am (bT hv hb); clear HB; replace BK283 := hp0 BK283; have HB := n1_; clear n1_ hp0 hv; (try clear hb)) | ((with_reducible refine gate_callee (f := 63) rfl ?_); refine gL (some 28) Tryz.func63 #[.int .i64 (Int.tmod (wrap64 (Int.tdiv (wrap64 ((wrap64 (a1_0 * a0)) * 3600)) a1_1)) 60)] rfl ?_; (with_reducible refine (spec_diTwo.calls k (Int.tmod (wrap64 (Int.tdiv (wrap64 ((wrap64 (a1_0 * a0)) * 3600)) a1_1)) 60) t286 _ A9.out).mono ?_); rintro e w37 ⟨rfl, hb⟩; refine ⟨_, rfl, ?_⟩; have hp0 := pA BK283 hb; have hv := vK HB hb; have n1_ := Am (bT hv hb); clear HB; replace BK283 := hp0 BK283; have HB := n1_; clear n1_ hp0 hv; (try clear hb); have zq38 := zc2 BK283) | ((with_reducible refine gate_callee (f := 30) rfl ?_); refine gL (some 33) Tryz.func30 #[.agg #[.int .i64 a1_0, .int .i64 a1_1], .int .i64 (wrap64 (a0 * 3600))] rfl ?_; (with_reducible refine (spec_diTimes.calls k a1_0 a1_1 (wrap64 (a0 * 3600)) t287 t288 _ A11.out).mono ?_); rintro e w39 ⟨rfl, hb⟩; refine ⟨_, rfl, ?_⟩; have hp0 := pA BK283 hb; have hv := vK HB hb; have n1_ := Am (bT hv hb); clear HB; replace BK283 := hp0 BK283; have HB := n1_; clear n1_ hp0 hv; (try clear hb)) | ((with_reducible refine gate_dst (N := 7) rfl ?_); refine bE 7 #[.int .i64 0, .int .i64 0] 23 ?_; intro gb289 hg w40 hbox hb; have hp0 := pA BK283 hb; have hv := vK HB hb; have n1_ := Am (bT hv hb); have n2_ := Am (hbox); have GE289 := kG hg hv; have hp1 := pK BK283 hb; obtain ⟨NB283_289, NB289_283⟩ := kXY hg hp1 BK283; clear HB; replace BK283 := hp0 BK283; have HB := n1_; have BK289 := n2_; clear n1_ n2_ hp0 hp1 hv; clear hb hbox hg; have nq41 := kO NB289_283; have zq42 := zc2 BK289))
      go_ret
      exact ⟨by first | rfl | (simp [errW_none, errW_some] <;> rfl) | (simp [*, errW_none, errW_some] <;> rfl), by repeat (first | (with_reducible first | exact HB.out | apply bA | apply bN | apply bD | refine bX ?_ (by assumption)) | exact HB.out)⟩
    rw [if_neg c10] at H
    exact absurd H (by simp)
   rw [if_neg c8] at H
   exact absurd H (by simp)
  rw [if_neg c7] at H
  exact absurd H (by simp)
 rw [if_neg c5] at H
 exact absurd H (by simp)
/-! ### spec_TimeText: function 19 -/
def spec_TimeText.f (k : Nat) (a0 : Int) (a1_0 : Int) (a1_1 : Int) : Option (ByteArray × Bool) := (spec_diAsked.f k a0 a1_0 a1_1).bind fun t293 => (if t293 = true then ((spec_diText.f k a0 a1_0 a1_1).bind fun t294 => (some (t294, true))) else (some ((⟨#[]⟩ : ByteArray), false)))
theorem spec_TimeText.mono : ∀ a0 a1 a2 k, LeO (spec_TimeText.f k a0 a1 a2) (spec_TimeText.f (k + 1) a0 a1 a2) := by
 intro a0 a1 a2 k
 unfold spec_TimeText.f
 repeat' first
   | (with_reducible exact spec_diAsked.mono _ _ _ _)
   | (with_reducible exact spec_diText.mono _ _ _ _)
   | (with_reducible exact LeO.refl _)
   | (with_reducible exact LeO.none _)
   | (with_reducible refine LeO.ite ?_ ?_)
   | (with_reducible refine LeO.bind ?_ (fun _ => ?_))
   | exact spec_diAsked.mono _ _ _ _
   | exact spec_diText.mono _ _ _ _
   | exact LeO.none _
   | refine LeO.ite ?_ ?_
   | refine LeO.bind ?_ (fun _ => ?_)
set_option maxHeartbeats 8000000 in
set_option maxRecDepth 100000 in
theorem spec_TimeText.calls (k : Nat) (a0 : Int) (a1_0 : Int) (a1_1 : Int) (r1 : ByteArray) (r2 : Bool) (w : World) (h : spec_TimeText.f k a0 a1_0 a1_1 = some (r1, r2)) :
  Calls Tryz.prog 19 #[.int .i64 a0, .agg #[.int .i64 a1_0, .int .i64 a1_1]] w fun e w' => e = .returned (.tuple #[.string r1, .bool r2]) ∧ Below w.heap.size w w' := by
 have hu23 := Tryz.underlying23
 have HB := Am (Below.refl w.heap.size w)
 have H : ((spec_diAsked.f k a0 a1_0 a1_1).bind fun t293 => (if t293 = true then ((spec_diText.f k a0 a1_0 a1_1).bind fun t294 => (some (t294, true))) else (some ((⟨#[]⟩ : ByteArray), false)))) = some (r1, r2) := h
 clear h
 replace H := Option.bind_eq_some_iff.mp H
 obtain ⟨t293, A30, H⟩ := H
 try dsimp only at H
 have A3 := Am A30
 clear A30
 by_cases c4 : t293 = true
 ·subst c4
  have H1 : ((spec_diText.f k a0 a1_0 a1_1).bind fun t294 => (some (t294, true))) = some (r1, r2) := by rw [if_pos rfl] at H; exact H
  clear H
  have H := H1
  clear H1
  replace H := Option.bind_eq_some_iff.mp H
  obtain ⟨t294, A50, H⟩ := H
  try dsimp only at H
  have A5 := Am A50
  clear A50
  focus
   simp only [Option.some.injEq, Prod.mk.injEq] at H
   obtain ⟨rfl, rfl⟩ := H
   go_enter Tryz.func19, Tryz.ntmps19
   go_wp2_with (first | ((with_reducible refine gate_dst (N := 3) rfl ?_); refine bE 3 #[.int .i64 a1_0, .int .i64 a1_1] 23 ?_; intro gb292 hg w6 hbox hb; have hv := vK HB hb; have n0_ := Am (bT hv hb); have n1_ := Am (hbox); have GE292 := kG hg hv; clear HB; have HB := n0_; have BK292 := n1_; clear n0_ n1_ hv; clear hb hbox hg; have zq7 := zc2 BK292) | ((with_reducible refine gate_callee (f := 29) rfl ?_); refine gL (some 8) Tryz.func29 #[.int .i64 a0, .agg #[.int .i64 a1_0, .int .i64 a1_1]] rfl ?_; (with_reducible refine (spec_diAsked.calls k a0 a1_0 a1_1 true _ A3.out).mono ?_); rintro e w8 ⟨rfl, hb⟩; refine ⟨_, rfl, ?_⟩; have hp0 := pA BK292 hb; have hv := vK HB hb; have n1_ := Am (bT hv hb); clear HB; replace BK292 := hp0 BK292; have HB := n1_; clear n1_ hp0 hv; (try clear hb); have zq9 := zc2 BK292) | ((with_reducible refine gate_callee (f := 42) rfl ?_); refine gL (some 12) Tryz.func42 #[.int .i64 a0, .agg #[.int .i64 a1_0, .int .i64 a1_1]] rfl ?_; (with_reducible refine (spec_diText.calls k a0 a1_0 a1_1 t294 _ A5.out).mono ?_); rintro e w10 ⟨rfl, hb⟩; refine ⟨_, rfl, ?_⟩; have hp0 := pA BK292 hb; have hv := vK HB hb; have n1_ := Am (bT hv hb); clear HB; replace BK292 := hp0 BK292; have HB := n1_; clear n1_ hp0 hv; (try clear hb)))
   go_ret2
   exact ⟨by first | rfl | (simp [errW_none, errW_some] <;> rfl) | (simp [*, errW_none, errW_some] <;> rfl), by repeat (first | (with_reducible first | exact HB.out | apply bA | apply bN | apply bD | refine bX ?_ (by assumption)) | exact HB.out)⟩
 replace c4 := Bool.eq_false_iff.mpr c4
 subst c4
 have H1 : (some ((⟨#[]⟩ : ByteArray), false)) = some (r1, r2) := by rw [if_neg (show ¬ (false = true) by decide)] at H; exact H
 clear H
 have H := H1
 clear H1
 focus
  simp only [Option.some.injEq, Prod.mk.injEq] at H
  obtain ⟨rfl, rfl⟩ := H
  go_enter Tryz.func19, Tryz.ntmps19
  go_wp2_with (first | ((with_reducible refine gate_dst (N := 3) rfl ?_); refine bE 3 #[.int .i64 a1_0, .int .i64 a1_1] 23 ?_; intro gb292 hg w11 hbox hb; have hv := vK HB hb; have n0_ := Am (bT hv hb); have n1_ := Am (hbox); have GE292 := kG hg hv; clear HB; have HB := n0_; have BK292 := n1_; clear n0_ n1_ hv; clear hb hbox hg; have zq12 := zc2 BK292) | ((with_reducible refine gate_callee (f := 29) rfl ?_); refine gL (some 8) Tryz.func29 #[.int .i64 a0, .agg #[.int .i64 a1_0, .int .i64 a1_1]] rfl ?_; (with_reducible refine (spec_diAsked.calls k a0 a1_0 a1_1 false _ A3.out).mono ?_); rintro e w13 ⟨rfl, hb⟩; refine ⟨_, rfl, ?_⟩; have hp0 := pA BK292 hb; have hv := vK HB hb; have n1_ := Am (bT hv hb); clear HB; replace BK292 := hp0 BK292; have HB := n1_; clear n1_ hp0 hv; (try clear hb)))
  go_ret2
  exact ⟨by first | rfl | (simp [errW_none, errW_some] <;> rfl) | (simp [*, errW_none, errW_some] <;> rfl), by repeat (first | (with_reducible first | exact HB.out | apply bA | apply bN | apply bD | refine bX ?_ (by assumption)) | exact HB.out)⟩
end Go.Proofs.YtchglfpiicaedaaGreatDoor.PFnHandsStandOfAll
