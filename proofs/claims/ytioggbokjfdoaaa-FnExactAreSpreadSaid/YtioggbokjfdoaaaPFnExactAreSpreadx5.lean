-- WRITTEN BY A PROGRAM OF THIS SESSION (wip/tools): its own text, not the kit's printed one.
import Derived.Test.YtioggbokjfdoaaaPFnExactAreSpreadx0
import Derived.Test.YtioggbokjfdoaaaPFnExactAreSpreadx4
namespace Go.Proofs.Ytioggbokjfdoaaa.PFnExactAreSpread
open Go.RowKit Go.Proofs.YtioggbokjfdoaaaW.PrintWords Go.Proofs.YtioggbokjfdoaaaW.PrintLast Go.Proofs.YtioggbokjfdoaaaW.PrintMore
attribute [local go_sem] max2_int min2_int max_two min_two max_three min_three max_four min_four   -- for this text's walks alone
set_option linter.unusedVariables false
set_option linter.unusedSimpArgs false

/-! ### impl_Hand_at: function 68 -/
def impl_Hand_at.f (k : Nat) (a0_0 : Int) (a0_1 : Int) (a0_2 : Int) (a1_0 : Int) (a1_1 : Int) : Option (Int × Int) := (impl_Turn_times.f k a1_0 a1_1 a0_2).bind fun bt240 => ((impl_Turn_plus.f k a0_0 a0_1 bt240.1 bt240.2).bind fun bt242 => (some (bt242.1, bt242.2)))
theorem impl_Hand_at.mono : ∀ a0 a1 a2 a3 a4 k, LeO (impl_Hand_at.f k a0 a1 a2 a3 a4) (impl_Hand_at.f (k + 1) a0 a1 a2 a3 a4) := by
 intro a0 a1 a2 a3 a4 k
 unfold impl_Hand_at.f
 repeat' first
   | (with_reducible exact impl_Turn_plus.mono _ _ _ _ _)
   | (with_reducible exact impl_Turn_times.mono _ _ _ _)
   | (with_reducible exact LeO.refl _)
   | (with_reducible exact LeO.none _)
   | (with_reducible refine LeO.ite ?_ ?_)
   | (with_reducible refine LeO.bind ?_ (fun _ => ?_))
   | exact impl_Turn_plus.mono _ _ _ _ _
   | exact impl_Turn_times.mono _ _ _ _
   | exact LeO.none _
   | refine LeO.ite ?_ ?_
   | refine LeO.bind ?_ (fun _ => ?_)
def impl_Hand_at.T1 : Bool × List (List Nat × List Nat) := (true, [([], []), ([0], [0]), ([], []), ([], []), ([3], [3]), ([2, 4], [2, 4]), ([1, 5, 5], [1, 5]), ([6, 6, 0, 1, 2, 3, 4, 5, 6], [6])])
def impl_Hand_at.B1 : List Nat := [0, 1, 0, 0, 8, 28, 63, 127]
theorem impl_Hand_at.tab1 : rtab .any (opsOf Try.f68 1) = impl_Hand_at.T1 := by kernel_rfl
theorem impl_Hand_at.bits1 : waitsOk impl_Hand_at.T1.2 impl_Hand_at.B1 = true := by kernel_rfl
set_option maxHeartbeats 8000000 in
set_option maxRecDepth 100000 in
theorem impl_Hand_at.calls (k : Nat) (a0_0 : Int) (a0_1 : Int) (a0_2 : Int) (a1_0 : Int) (a1_1 : Int) (r1 : Int) (r2 : Int) (w : World) (h : impl_Hand_at.f k a0_0 a0_1 a0_2 a1_0 a1_1 = some (r1, r2)) :
  Calls Try.prog 68 #[.agg #[.int .i64 a0_0, .int .i64 a0_1, .int .i64 a0_2], .agg #[.int .i64 a1_0, .int .i64 a1_1]] w fun e w' => e = .returned (.agg #[.int .i64 r1, .int .i64 r2]) ∧ Below w.heap.size w w' := by
 have hu30 := Try.underlying30
 have hu26 := Try.underlying26
 have HB := Am (Below.refl w.heap.size w)
 have H : ((impl_Turn_times.f k a1_0 a1_1 a0_2).bind fun bt240 => ((impl_Turn_plus.f k a0_0 a0_1 bt240.1 bt240.2).bind fun bt242 => (some (bt242.1, bt242.2)))) = some (r1, r2) := h
 clear h
 replace H := Option.bind_eq_some_iff.mp H
 obtain ⟨⟨t240, t241⟩, A30, H⟩ := H
 replace H : ((impl_Turn_plus.f k a0_0 a0_1 t240 t241).bind fun bt242 => (some (bt242.1, bt242.2))) = some (r1, r2) := H
 have A3 := Am A30
 clear A30
 replace H := Option.bind_eq_some_iff.mp H
 obtain ⟨⟨t242, t243⟩, A40, H⟩ := H
 replace H : (some (t242, t243)) = some (r1, r2) := H
 have A4 := Am A40
 clear A40
 simp only [Option.some.injEq, Prod.mk.injEq] at H
 obtain ⟨rfl, rfl⟩ := H
 go_enter Try.func68, Try.ntmps68
 try go_wp2_with (first | ((with_reducible refine gate_dst (N := 2) rfl ?_); refine box_event ?hg (N := 2) ?hd (cs := #[.int .i64 a0_0, .int .i64 a0_1, .int .i64 a0_2]) (t := 30) ?hr ?_; (case hd => rfl); (case hg => rfl); (case hr => first | (go_simp; done) | (go_simp; rfl)); intro gb237 hg w5 hbox hb; have n0_ := Am (bT (by repeat (first | (with_reducible first | exact HB.out | apply bA | apply bN | apply bD) | exact HB.out)) hb); have n1_ := Am (hbox); have n2_ := Am ((by rw [hg]; exact (bZ (by repeat (first | (with_reducible first | exact HB.out | apply bA | apply bN | apply bD) | exact HB.out))) : w.heap.size ≤ gb237)); have n3_ := Am ((by rw [hg]; exact (bZ (by repeat (first | (with_reducible first | exact HB.out | apply bA | apply bN | apply bD) | exact HB.out))) : w.heap.size ≤ gb237)); clear HB; have HB := n0_; have BK237 := n1_; have GW237 := n2_; have GE237 := n3_; clear n0_ n1_ n2_ n3_; clear hb hbox hg) | ((with_reducible refine gate_dst (N := 3) rfl ?_); refine box_event ?hg (N := 3) ?hd (cs := #[.int .i64 a1_0, .int .i64 a1_1]) (t := 26) ?hr ?_; (case hd => rfl); (case hg => rfl); (case hr => first | (go_simp; done) | (go_simp; rfl)); intro gb238 hg w6 hbox hb; have n0_ := Am (kB (g := gb237) (o := .cells #[.int .i64 a0_0, .int .i64 a0_1, .int .i64 a0_2] 30 (0, 0)) (by (with_reducible repeat (first | refine kN ?_ _ | refine kD ?_ | refine kA ?_ _)); exact BK237.out) hb); have n1_ := Am (bT (by repeat (first | (with_reducible first | exact HB.out | apply bA | apply bN | apply bD | refine bS ?_ GE237.out) | exact HB.out)) hb); have n2_ := Am (hbox); have n3_ := Am ((by rw [hg]; exact (bZ (by repeat (first | (with_reducible first | exact HB.out | apply bA | apply bN | apply bD | refine bS ?_ GE237.out) | exact HB.out))) : w.heap.size ≤ gb238)); have n4_ := Am ((by rw [hg]; exact (bZ (by repeat (first | (with_reducible first | exact HB.out | apply bA | apply bN | apply bD | refine bS ?_ GE237.out) | exact HB.out))) : w.heap.size ≤ gb238)); have n5_ := Am ((by rw [hg]; exact Nat.ne_of_lt (kL (g := gb237) (o := .cells #[.int .i64 a0_0, .int .i64 a0_1, .int .i64 a0_2] 30 (0, 0)) (by (with_reducible repeat (first | refine kN ?_ _ | refine kD ?_ | refine kA ?_ _)); exact BK237.out)) : gb237 ≠ gb238)); have n6_ := Am ((by rw [hg]; exact Nat.ne_of_gt (kL (g := gb237) (o := .cells #[.int .i64 a0_0, .int .i64 a0_1, .int .i64 a0_2] 30 (0, 0)) (by (with_reducible repeat (first | refine kN ?_ _ | refine kD ?_ | refine kA ?_ _)); exact BK237.out)) : gb238 ≠ gb237)); clear BK237; clear HB; have BK237 := n0_; have HB := n1_; have BK238 := n2_; have GW238 := n3_; have GE238 := n4_; have NB237_238 := n5_; have NB238_237 := n6_; clear n0_ n1_ n2_ n3_ n4_ n5_ n6_; clear hb hbox hg) | ((with_reducible refine gate_dst (N := 4) rfl ?_); refine box_event ?hg (N := 4) ?hd (cs := #[.int .i64 0, .int .i64 0]) (t := 26) ?hr ?_; (case hd => rfl); (case hg => rfl); (case hr => first | (go_simp; done) | (go_simp; rfl)); intro gb239 hg w7 hbox hb; have n0_ := Am (kB (g := gb237) (o := .cells #[.int .i64 a0_0, .int .i64 a0_1, .int .i64 a0_2] 30 (0, 0)) (by (with_reducible repeat (first | refine kN ?_ _ | refine kD ?_ | refine kA ?_ _)); exact BK237.out) hb); have n1_ := Am (kB (g := gb238) (o := .cells #[.int .i64 a1_0, .int .i64 a1_1] 26 (0, 0)) (by (with_reducible repeat (first | refine kN ?_ _ | refine kD ?_ | refine kA ?_ _)); exact BK238.out) hb); have n2_ := Am (bT (by repeat (first | (with_reducible first | exact HB.out | apply bA | apply bN | apply bD | refine bS ?_ GE237.out | refine bS ?_ GE238.out) | exact HB.out)) hb); have n3_ := Am (hbox); have n4_ := Am ((by rw [hg]; exact (bZ (by repeat (first | (with_reducible first | exact HB.out | apply bA | apply bN | apply bD | refine bS ?_ GE237.out | refine bS ?_ GE238.out) | exact HB.out))) : w.heap.size ≤ gb239)); have n5_ := Am ((by rw [hg]; exact (bZ (by repeat (first | (with_reducible first | exact HB.out | apply bA | apply bN | apply bD | refine bS ?_ GE237.out | refine bS ?_ GE238.out) | exact HB.out))) : w.heap.size ≤ gb239)); have n6_ := Am ((by rw [hg]; exact Nat.ne_of_lt (kL (g := gb237) (o := .cells #[.int .i64 a0_0, .int .i64 a0_1, .int .i64 a0_2] 30 (0, 0)) (by (with_reducible repeat (first | refine kN ?_ _ | refine kD ?_ | refine kA ?_ _)); exact BK237.out)) : gb237 ≠ gb239)); have n7_ := Am ((by rw [hg]; exact Nat.ne_of_gt (kL (g := gb237) (o := .cells #[.int .i64 a0_0, .int .i64 a0_1, .int .i64 a0_2] 30 (0, 0)) (by (with_reducible repeat (first | refine kN ?_ _ | refine kD ?_ | refine kA ?_ _)); exact BK237.out)) : gb239 ≠ gb237)); have n8_ := Am ((by rw [hg]; exact Nat.ne_of_lt (kL (g := gb238) (o := .cells #[.int .i64 a1_0, .int .i64 a1_1] 26 (0, 0)) (by (with_reducible repeat (first | refine kN ?_ _ | refine kD ?_ | refine kA ?_ _)); exact BK238.out)) : gb238 ≠ gb239)); have n9_ := Am ((by rw [hg]; exact Nat.ne_of_gt (kL (g := gb238) (o := .cells #[.int .i64 a1_0, .int .i64 a1_1] 26 (0, 0)) (by (with_reducible repeat (first | refine kN ?_ _ | refine kD ?_ | refine kA ?_ _)); exact BK238.out)) : gb239 ≠ gb238)); clear BK237; clear BK238; clear HB; have BK237 := n0_; have BK238 := n1_; have HB := n2_; have BK239 := n3_; have GW239 := n4_; have GE239 := n5_; have NB237_239 := n6_; have NB239_237 := n7_; have NB238_239 := n8_; have NB239_238 := n9_; clear n0_ n1_ n2_ n3_ n4_ n5_ n6_ n7_ n8_ n9_; clear hb hbox hg))
 have n0_ := Am (kD BK237.out)
 have n1_ := Am (kD BK238.out)
 have n2_ := Am (kD BK239.out)
 have n3_ := Am (bD HB.out)
 clear BK237
 clear BK238
 clear BK239
 clear HB
 have BK237 := n0_
 have BK238 := n1_
 have BK239 := n2_
 have HB := n3_
 clear n0_ n1_ n2_ n3_
 refine start_ (n := 8) (S := fun w' => w'.cell? ⟨gb237, 0, none⟩ = some (.int .i64 a0_0) ∧ w'.cell? ⟨gb237, 1, none⟩ = some (.int .i64 a0_1) ∧ w'.cell? ⟨gb237, 2, none⟩ = some (.int .i64 a0_2) ∧ w'.cell? ⟨gb238, 0, none⟩ = some (.int .i64 a1_0) ∧ w'.cell? ⟨gb238, 1, none⟩ = some (.int .i64 a1_1)) (ds := []) #[false, false, false, false, false, false, false, false] (by kernel_rfl) rfl rfl ⟨(kC BK237.out 0).trans rfl, (kC BK237.out 1).trans rfl, (kC BK237.out 2).trans rfl, (kC BK238.out 0).trans rfl, (kC BK238.out 1).trans rfl⟩ (fun hHeld => ?_); refine with_tabW impl_Hand_at.tab1 impl_Hand_at.bits1 (fun HT_ HW_ => ?_)
 generalize w7.drew = w8 at BK237 BK238 BK239 HB hHeld ⊢
 refine pure_ (i := 0) (N := some 5) (v := ?_) (a' := ?_) #[true, false, false, false, false, false, false, false] rfl rfl (any_of HT_.out (by kernel_rfl)) (fun _ _ _ h => h) (Or.inl ⟨by rfl, ?_⟩) ?_ ?_
 rotate_left
 ·intro w'
  go_simp
  with_reducible rfl
 rotate_left
 ·simp only [Act.put, List.setIfInBounds_toArray, List.set_cons_zero, List.set_cons_succ, i64_w, i32_w]
  rfl
 refine pure_ (i := 3) (N := some 8) (v := ?_) (a' := ?_) #[true, false, false, true, false, false, false, false] rfl rfl (any_of HT_.out (by kernel_rfl)) (fun _ _ _ h => h) (Or.inl ⟨by rfl, ?_⟩) ?_ ?_
 rotate_left
 ·intro w'
  go_simp
  with_reducible rfl
 rotate_left
 ·simp only [Act.put, List.setIfInBounds_toArray, List.set_cons_zero, List.set_cons_succ, i64_w, i32_w]
  rfl
 refine take_ (i := 1) (N := some 6) (v := ?_) (a' := ?_) #[true, true, false, true, false, false, false, false] rfl rfl (take_ofW HT_.out HW_.out (by kernel_rfl)) (fun _ _ _ h => h) (Or.inl ⟨by rfl, ?_⟩) hHeld ?_ ?_
 rotate_left
 ·rintro w' ⟨s0, s1, s2, s3, s4⟩
  go_simp
  with_reducible rfl
 rotate_left
 ·simp only [Act.put, List.setIfInBounds_toArray, List.set_cons_zero, List.set_cons_succ, i64_w, i32_w]
  rfl
 refine take_ (i := 2) (N := some 7) (v := ?_) (a' := ?_) #[true, true, true, true, false, false, false, false] rfl rfl (take_ofW HT_.out HW_.out (by kernel_rfl)) (fun _ _ _ h => h) (Or.inl ⟨by rfl, ?_⟩) hHeld ?_ ?_
 rotate_left
 ·rintro w' ⟨s0, s1, s2, s3, s4⟩
  go_simp
  with_reducible rfl
 rotate_left
 ·simp only [Act.put, List.setIfInBounds_toArray, List.set_cons_zero, List.set_cons_succ, i64_w, i32_w]
  rfl
 refine take_ (i := 4) (N := some 9) (v := ?_) (a' := ?_) #[true, true, true, true, true, false, false, false] rfl rfl (take_ofW HT_.out HW_.out (by kernel_rfl)) (fun _ _ _ h => h) (Or.inl ⟨by rfl, ?_⟩) hHeld ?_ ?_
 rotate_left
 ·rintro w' ⟨s0, s1, s2, s3, s4⟩
  go_simp
  with_reducible rfl
 rotate_left
 ·simp only [Act.put, List.setIfInBounds_toArray, List.set_cons_zero, List.set_cons_succ, i64_w, i32_w]
  rfl
 refine one_ (i := 5) (N := some 10) #[true, true, true, true, true, true, false, false] rfl rfl (one_of HT_.out (by kernel_rfl)) (by decide) (fun K hK => ?_)
 refine goes_ Try.func91 (by kernel_rfl) rfl #[.agg #[.int .i64 a1_0, .int .i64 a1_1], .int .i64 a0_2] (by rfl) rfl rfl (by (try simp only [List.map_toArray, List.map_cons, List.map_nil]); first | done | rfl | (simp only [List.length_drop, List.length_take]; rfl)) ?_
 with_reducible refine (impl_Turn_times.calls k a1_0 a1_1 a0_2 t240 t241 _ A3.out).mono ?_
 rintro e w9 ⟨rfl, hb⟩
 refine ⟨_, rfl, ?_⟩
 have n0_ := Am (kB (g := gb237) (o := .cells #[.int .i64 a0_0, .int .i64 a0_1, .int .i64 a0_2] 30 (0, 0)) (by (with_reducible repeat (first | refine kN ?_ _ | refine kD ?_ | refine kA ?_ _)); exact BK237.out) hb)
 have n1_ := Am (kB (g := gb238) (o := .cells #[.int .i64 a1_0, .int .i64 a1_1] 26 (0, 0)) (by (with_reducible repeat (first | refine kN ?_ _ | refine kD ?_ | refine kA ?_ _)); exact BK238.out) hb)
 have n2_ := Am (kB (g := gb239) (o := .cells #[.int .i64 0, .int .i64 0] 26 (0, 0)) (by (with_reducible repeat (first | refine kN ?_ _ | refine kD ?_ | refine kA ?_ _)); exact BK239.out) hb)
 have n3_ := Am (bT (by repeat (first | (with_reducible first | exact HB.out | apply bA | apply bN | apply bD | refine bS ?_ GE237.out | refine bS ?_ GE238.out | refine bS ?_ GE239.out) | exact HB.out)) hb)
 clear BK237
 clear BK238
 clear BK239
 clear HB
 have BK237 := n0_
 have BK238 := n1_
 have BK239 := n2_
 have HB := n3_
 clear n0_ n1_ n2_ n3_
 (try clear hb)
 (try clear hb2)
 (try clear hk)
 (try clear hi)
 refine hK.out _ _ ⟨(kC BK237.out 0).trans rfl, (kC BK237.out 1).trans rfl, (kC BK237.out 2).trans rfl, (kC BK238.out 0).trans rfl, (kC BK238.out 1).trans rfl⟩ (fun hHeld => ?_)
 clear hK K
 refine norm_ (a' := ?_) ?_ ?_
 rotate_left
 ·show Act.put _ (some 10) _ = _
  simp only [Act.put, List.setIfInBounds_toArray, List.set_cons_zero, List.set_cons_succ, i64_w, i32_w]
  rfl
 refine one_ (i := 6) (N := some 11) #[true, true, true, true, true, true, true, false] rfl rfl (one_of HT_.out (by kernel_rfl)) (by decide) (fun K hK => ?_)
 refine goes_ Try.func86 (by kernel_rfl) rfl #[.agg #[.int .i64 a0_0, .int .i64 a0_1], .agg #[.int .i64 t240, .int .i64 t241]] (by rfl) rfl rfl (by (try simp only [List.map_toArray, List.map_cons, List.map_nil]); first | done | rfl | (simp only [List.length_drop, List.length_take]; rfl)) ?_
 with_reducible refine (impl_Turn_plus.calls k a0_0 a0_1 t240 t241 t242 t243 _ A4.out).mono ?_
 rintro e w10 ⟨rfl, hb⟩
 refine ⟨_, rfl, ?_⟩
 have n0_ := Am (kB (g := gb237) (o := .cells #[.int .i64 a0_0, .int .i64 a0_1, .int .i64 a0_2] 30 (0, 0)) (by (with_reducible repeat (first | refine kN ?_ _ | refine kD ?_ | refine kA ?_ _)); exact BK237.out) hb)
 have n1_ := Am (kB (g := gb238) (o := .cells #[.int .i64 a1_0, .int .i64 a1_1] 26 (0, 0)) (by (with_reducible repeat (first | refine kN ?_ _ | refine kD ?_ | refine kA ?_ _)); exact BK238.out) hb)
 have n2_ := Am (kB (g := gb239) (o := .cells #[.int .i64 0, .int .i64 0] 26 (0, 0)) (by (with_reducible repeat (first | refine kN ?_ _ | refine kD ?_ | refine kA ?_ _)); exact BK239.out) hb)
 have n3_ := Am (bT (by repeat (first | (with_reducible first | exact HB.out | apply bA | apply bN | apply bD | refine bS ?_ GE237.out | refine bS ?_ GE238.out | refine bS ?_ GE239.out) | exact HB.out)) hb)
 clear BK237
 clear BK238
 clear BK239
 clear HB
 have BK237 := n0_
 have BK238 := n1_
 have BK239 := n2_
 have HB := n3_
 clear n0_ n1_ n2_ n3_
 (try clear hb)
 (try clear hb2)
 (try clear hk)
 (try clear hi)
 refine hK.out _ _ ⟨(kC BK237.out 0).trans rfl, (kC BK237.out 1).trans rfl, (kC BK237.out 2).trans rfl, (kC BK238.out 0).trans rfl, (kC BK238.out 1).trans rfl⟩ (fun hHeld => ?_)
 clear hK K
 refine norm_ (a' := ?_) ?_ ?_
 rotate_left
 ·show Act.put _ (some 11) _ = _
  simp only [Act.put, List.setIfInBounds_toArray, List.set_cons_zero, List.set_cons_succ, i64_w, i32_w]
  rfl
 refine one_ (i := 7) (N := none) #[true, true, true, true, true, true, true, true] rfl rfl (one_of HT_.out (by kernel_rfl)) (by decide) (fun K hK => ?_)
 have hs11 : w10.cell? ⟨gb239, 0, none⟩ = some (.int .i64 0) := (kC BK239.out 0).trans rfl
 have hfs11 := kF BK239.out 0
 have hns11_0 := NB237_239.out
 have hns11_1 := NB238_239.out
 have hms11_0 := NB239_237.out
 have hms11_1 := NB239_238.out
 have hs12 : w10.cell? ⟨gb239, 1, none⟩ = some (.int .i64 0) := (kC BK239.out 1).trans rfl
 have hfs12 := kF BK239.out 1
 have hns12_0 := NB237_239.out
 have hns12_1 := NB238_239.out
 have hms12_0 := NB239_237.out
 have hms12_1 := NB239_238.out
 refine skip_ (w1 := ?_) (by rfl) rfl ?_ ?_
 rotate_left
 ·go_simp
  rfl
 refine hK.out _ _ ⟨((cell_far (p := ⟨gb239, _, none⟩) NB237_239.out _).trans (((cell_far (p := ⟨gb239, _, none⟩) NB237_239.out _).trans (hHeld.1)))), ((cell_far (p := ⟨gb239, _, none⟩) NB237_239.out _).trans (((cell_far (p := ⟨gb239, _, none⟩) NB237_239.out _).trans (hHeld.2.1)))), ((cell_far (p := ⟨gb239, _, none⟩) NB237_239.out _).trans (((cell_far (p := ⟨gb239, _, none⟩) NB237_239.out _).trans (hHeld.2.2.1)))), ((cell_far (p := ⟨gb239, _, none⟩) NB238_239.out _).trans (((cell_far (p := ⟨gb239, _, none⟩) NB238_239.out _).trans (hHeld.2.2.2.1)))), ((cell_far (p := ⟨gb239, _, none⟩) NB238_239.out _).trans (((cell_far (p := ⟨gb239, _, none⟩) NB238_239.out _).trans (hHeld.2.2.2.2))))⟩ (fun hHeld => ?_)
 clear hK K
 refine done_ (done_of HT_.out (by kernel_rfl)) ?_
 try go_wp2
 refine bodyPost_ret (results_cell_row rfl _ _ gb239 26 #[.int .i64 t242, .int .i64 t243] (0, 0) _ rfl (by (with_reducible repeat (first | refine kN ?_ _ | refine kD ?_ | refine kA ?_ _)); refine kP (cs := #[.int .i64 t242, .int .i64 0]) ?_ 1 _ rfl; (with_reducible repeat (first | refine kN ?_ _ | refine kD ?_ | refine kA ?_ _)); refine kP (cs := #[.int .i64 0, .int .i64 0]) ?_ 0 _ rfl; (with_reducible repeat (first | refine kN ?_ _ | refine kD ?_ | refine kA ?_ _)); exact BK239.out) Try.underlying26 rfl (by kernel_rfl)) rfl ?_
 exact ⟨by first | rfl | (simp [errW_none, errW_some] <;> rfl) | (simp [*, errW_none, errW_some] <;> rfl), by repeat (first | (with_reducible first | exact HB.out | apply bA | apply bN | apply bD | refine bS ?_ GE237.out | refine bS ?_ GE238.out | refine bS ?_ GE239.out) | exact HB.out)⟩

-- NOT PRINTED: function 115 (impl_Hand_115)

-- NOT PRINTED: function 102 (impl_Hand_102)

/-! ### impl_isCoarse: function 69 -/
def impl_isCoarse.f (k : Nat) (a0_0 : Int) (a0_1 : Int) : Option (Bool) := (impl_IsTurn.f k a0_0 a0_1).bind fun t245 => (if t245 = true then (some (decide (a0_1 ≤ 1000))) else (some false))
theorem impl_isCoarse.mono : ∀ a0 a1 k, LeO (impl_isCoarse.f k a0 a1) (impl_isCoarse.f (k + 1) a0 a1) := by
 intro a0 a1 k
 unfold impl_isCoarse.f
 repeat' first
   | (with_reducible exact impl_IsTurn.mono _ _ _)
   | (with_reducible exact LeO.refl _)
   | (with_reducible exact LeO.none _)
   | (with_reducible refine LeO.ite ?_ ?_)
   | (with_reducible refine LeO.bind ?_ (fun _ => ?_))
   | exact impl_IsTurn.mono _ _ _
   | exact LeO.none _
   | refine LeO.ite ?_ ?_
   | refine LeO.bind ?_ (fun _ => ?_)
set_option maxHeartbeats 8000000 in
set_option maxRecDepth 100000 in
theorem impl_isCoarse.calls (k : Nat) (a0_0 : Int) (a0_1 : Int) (r : Bool) (w : World) (h : impl_isCoarse.f k a0_0 a0_1 = some r) :
  Calls Try.prog 69 #[.agg #[.int .i64 a0_0, .int .i64 a0_1]] w fun e w' => e = .returned (.bool r) ∧ Below w.heap.size w w' := by
 have hu26 := Try.underlying26
 have HB := Am (Below.refl w.heap.size w)
 have H : ((impl_IsTurn.f k a0_0 a0_1).bind fun t245 => (if t245 = true then (some (decide (a0_1 ≤ 1000))) else (some false))) = some r := h
 clear h
 replace H := Option.bind_eq_some_iff.mp H
 obtain ⟨t245, A20, H⟩ := H
 replace H : (if t245 = true then (some (decide (a0_1 ≤ 1000))) else (some false)) = some r := H
 have A2 := Am A20
 clear A20
 by_cases c3 : t245 = true
 ·subst c3
  have H1 : (some (decide (a0_1 ≤ 1000))) = some r := by rw [if_pos rfl] at H; exact H
  clear H
  have H := H1
  clear H1
  obtain rfl := Option.some.inj H
  go_enter Try.func69, Try.ntmps69
  go_wp2_with (first | ((with_reducible refine gate_dst (N := 1) rfl ?_); refine box_event ?hg (N := 1) ?hd (cs := #[.int .i64 a0_0, .int .i64 a0_1]) (t := 26) ?hr ?_; (case hd => rfl); (case hg => rfl); (case hr => first | (go_simp; done) | (go_simp; rfl)); intro gb244 hg w4 hbox hb; have n0_ := Am (bT (by repeat (first | (with_reducible first | exact HB.out | apply bA | apply bN | apply bD) | exact HB.out)) hb); have n1_ := Am (hbox); have n2_ := Am ((by rw [hg]; exact (bZ (by repeat (first | (with_reducible first | exact HB.out | apply bA | apply bN | apply bD) | exact HB.out))) : w.heap.size ≤ gb244)); have n3_ := Am ((by rw [hg]; exact (bZ (by repeat (first | (with_reducible first | exact HB.out | apply bA | apply bN | apply bD) | exact HB.out))) : w.heap.size ≤ gb244)); clear HB; have HB := n0_; have BK244 := n1_; have GW244 := n2_; have GE244 := n3_; clear n0_ n1_ n2_ n3_; clear hb hbox hg; have hcz5_0 : w4.cell? ⟨gb244, 0, none⟩ = some (.int .i64 a0_0) := (kC BK244.out 0).trans rfl; have hcz5_1 : w4.cell? ⟨gb244, 1, none⟩ = some (.int .i64 a0_1) := (kC BK244.out 1).trans rfl; have hfz5_0 := kF BK244.out 0; have hfz5_1 := kF BK244.out 1) | ((with_reducible refine gate_callee (f := 59) rfl ?_); refine goesL_ (some 4) rfl rfl Try.func59 (by kernel_rfl) rfl #[.agg #[.int .i64 a0_0, .int .i64 a0_1]] rfl (by (try simp only [List.map_toArray, List.map_cons, List.map_nil]); first | done | rfl | (simp only [List.length_drop, List.length_take]; rfl)) ?_; (with_reducible refine (impl_IsTurn.calls k a0_0 a0_1 true _ A2.out).mono ?_); rintro e w6 ⟨rfl, hb⟩; refine ⟨_, rfl, ?_⟩; have n0_ := Am (kB (g := gb244) (o := .cells #[.int .i64 a0_0, .int .i64 a0_1] 26 (0, 0)) (by (with_reducible repeat (first | refine kN ?_ _ | refine kD ?_ | refine kA ?_ _)); exact BK244.out) hb); have n1_ := Am (bT (by repeat (first | (with_reducible first | exact HB.out | apply bA | apply bN | apply bD | refine bS ?_ GE244.out) | exact HB.out)) hb); clear BK244; clear HB; have BK244 := n0_; have HB := n1_; clear n0_ n1_; (try clear hb); (try clear hb2); (try clear hk); (try clear hi); have hcz7_0 : w6.cell? ⟨gb244, 0, none⟩ = some (.int .i64 a0_0) := (kC BK244.out 0).trans rfl; have hcz7_1 : w6.cell? ⟨gb244, 1, none⟩ = some (.int .i64 a0_1) := (kC BK244.out 1).trans rfl; have hfz7_0 := kF BK244.out 0; have hfz7_1 := kF BK244.out 1))
  go_ret
  exact ⟨by first | rfl | (simp [errW_none, errW_some] <;> rfl) | (simp [*, errW_none, errW_some] <;> rfl), by repeat (first | (with_reducible first | exact HB.out | apply bA | apply bN | apply bD | refine bS ?_ GE244.out) | exact HB.out)⟩
 ·replace c3 := Bool.eq_false_iff.mpr c3
  subst c3
  have H1 : (some false) = some r := by rw [if_neg (show ¬ (false = true) by decide)] at H; exact H
  clear H
  have H := H1
  clear H1
  obtain rfl := Option.some.inj H
  go_enter Try.func69, Try.ntmps69
  go_wp2_with (first | ((with_reducible refine gate_dst (N := 1) rfl ?_); refine box_event ?hg (N := 1) ?hd (cs := #[.int .i64 a0_0, .int .i64 a0_1]) (t := 26) ?hr ?_; (case hd => rfl); (case hg => rfl); (case hr => first | (go_simp; done) | (go_simp; rfl)); intro gb244 hg w8 hbox hb; have n0_ := Am (bT (by repeat (first | (with_reducible first | exact HB.out | apply bA | apply bN | apply bD) | exact HB.out)) hb); have n1_ := Am (hbox); have n2_ := Am ((by rw [hg]; exact (bZ (by repeat (first | (with_reducible first | exact HB.out | apply bA | apply bN | apply bD) | exact HB.out))) : w.heap.size ≤ gb244)); have n3_ := Am ((by rw [hg]; exact (bZ (by repeat (first | (with_reducible first | exact HB.out | apply bA | apply bN | apply bD) | exact HB.out))) : w.heap.size ≤ gb244)); clear HB; have HB := n0_; have BK244 := n1_; have GW244 := n2_; have GE244 := n3_; clear n0_ n1_ n2_ n3_; clear hb hbox hg; have hcz9_0 : w8.cell? ⟨gb244, 0, none⟩ = some (.int .i64 a0_0) := (kC BK244.out 0).trans rfl; have hcz9_1 : w8.cell? ⟨gb244, 1, none⟩ = some (.int .i64 a0_1) := (kC BK244.out 1).trans rfl; have hfz9_0 := kF BK244.out 0; have hfz9_1 := kF BK244.out 1) | ((with_reducible refine gate_callee (f := 59) rfl ?_); refine goesL_ (some 4) rfl rfl Try.func59 (by kernel_rfl) rfl #[.agg #[.int .i64 a0_0, .int .i64 a0_1]] rfl (by (try simp only [List.map_toArray, List.map_cons, List.map_nil]); first | done | rfl | (simp only [List.length_drop, List.length_take]; rfl)) ?_; (with_reducible refine (impl_IsTurn.calls k a0_0 a0_1 false _ A2.out).mono ?_); rintro e w10 ⟨rfl, hb⟩; refine ⟨_, rfl, ?_⟩; have n0_ := Am (kB (g := gb244) (o := .cells #[.int .i64 a0_0, .int .i64 a0_1] 26 (0, 0)) (by (with_reducible repeat (first | refine kN ?_ _ | refine kD ?_ | refine kA ?_ _)); exact BK244.out) hb); have n1_ := Am (bT (by repeat (first | (with_reducible first | exact HB.out | apply bA | apply bN | apply bD | refine bS ?_ GE244.out) | exact HB.out)) hb); clear BK244; clear HB; have BK244 := n0_; have HB := n1_; clear n0_ n1_; (try clear hb); (try clear hb2); (try clear hk); (try clear hi)))
  go_ret
  exact ⟨by first | rfl | (simp [errW_none, errW_some] <;> rfl) | (simp [*, errW_none, errW_some] <;> rfl), by repeat (first | (with_reducible first | exact HB.out | apply bA | apply bN | apply bD | refine bS ?_ GE244.out) | exact HB.out)⟩

/-! ### impl_IsHand: function 52 -/
def impl_IsHand.f (k : Nat) (a0_0 : Int) (a0_1 : Int) (a0_2 : Int) : Option (Bool) := (impl_isCoarse.f k a0_0 a0_1).bind fun t247 => (if t247 = true then ((impl_within.f a0_2 (-400) 400).bind fun t248 => (some t248)) else (some false))
theorem impl_IsHand.mono : ∀ a0 a1 a2 k, LeO (impl_IsHand.f k a0 a1 a2) (impl_IsHand.f (k + 1) a0 a1 a2) := by
 intro a0 a1 a2 k
 unfold impl_IsHand.f
 repeat' first
   | (with_reducible exact impl_isCoarse.mono _ _ _)
   | (with_reducible exact LeO.refl _)
   | (with_reducible exact LeO.none _)
   | (with_reducible refine LeO.ite ?_ ?_)
   | (with_reducible refine LeO.bind ?_ (fun _ => ?_))
   | exact impl_isCoarse.mono _ _ _
   | exact LeO.none _
   | refine LeO.ite ?_ ?_
   | refine LeO.bind ?_ (fun _ => ?_)
set_option maxHeartbeats 8000000 in
set_option maxRecDepth 100000 in
theorem impl_IsHand.calls (k : Nat) (a0_0 : Int) (a0_1 : Int) (a0_2 : Int) (r : Bool) (w : World) (h : impl_IsHand.f k a0_0 a0_1 a0_2 = some r) :
  Calls Try.prog 52 #[.agg #[.int .i64 a0_0, .int .i64 a0_1, .int .i64 a0_2]] w fun e w' => e = .returned (.bool r) ∧ Below w.heap.size w w' := by
 have hu30 := Try.underlying30
 have hu26 := Try.underlying26
 have HB := Am (Below.refl w.heap.size w)
 have H : ((impl_isCoarse.f k a0_0 a0_1).bind fun t247 => (if t247 = true then ((impl_within.f a0_2 (-400) 400).bind fun t248 => (some t248)) else (some false))) = some r := h
 clear h
 replace H := Option.bind_eq_some_iff.mp H
 obtain ⟨t247, A20, H⟩ := H
 replace H : (if t247 = true then ((impl_within.f a0_2 (-400) 400).bind fun t248 => (some t248)) else (some false)) = some r := H
 have A2 := Am A20
 clear A20
 by_cases c3 : t247 = true
 ·subst c3
  have H1 : ((impl_within.f a0_2 (-400) 400).bind fun t248 => (some t248)) = some r := by rw [if_pos rfl] at H; exact H
  clear H
  have H := H1
  clear H1
  replace H := Option.bind_eq_some_iff.mp H
  obtain ⟨t248, A40, H⟩ := H
  replace H : (some t248) = some r := H
  have A4 := Am A40
  clear A40
  obtain rfl := Option.some.inj H
  go_enter Try.func52, Try.ntmps52
  go_wp2_with (first | ((with_reducible refine gate_dst (N := 1) rfl ?_); refine box_event ?hg (N := 1) ?hd (cs := #[.int .i64 a0_0, .int .i64 a0_1, .int .i64 a0_2]) (t := 30) ?hr ?_; (case hd => rfl); (case hg => rfl); (case hr => first | (go_simp; done) | (go_simp; rfl)); intro gb246 hg w5 hbox hb; have n0_ := Am (bT (by repeat (first | (with_reducible first | exact HB.out | apply bA | apply bN | apply bD) | exact HB.out)) hb); have n1_ := Am (hbox); have n2_ := Am ((by rw [hg]; exact (bZ (by repeat (first | (with_reducible first | exact HB.out | apply bA | apply bN | apply bD) | exact HB.out))) : w.heap.size ≤ gb246)); have n3_ := Am ((by rw [hg]; exact (bZ (by repeat (first | (with_reducible first | exact HB.out | apply bA | apply bN | apply bD) | exact HB.out))) : w.heap.size ≤ gb246)); clear HB; have HB := n0_; have BK246 := n1_; have GW246 := n2_; have GE246 := n3_; clear n0_ n1_ n2_ n3_; clear hb hbox hg; have hcz6_0 : w5.cell? ⟨gb246, 0, none⟩ = some (.int .i64 a0_0) := (kC BK246.out 0).trans rfl; have hcz6_1 : w5.cell? ⟨gb246, 1, none⟩ = some (.int .i64 a0_1) := (kC BK246.out 1).trans rfl; have hcz6_2 : w5.cell? ⟨gb246, 2, none⟩ = some (.int .i64 a0_2) := (kC BK246.out 2).trans rfl; have hfz6_0 := kF BK246.out 0; have hfz6_1 := kF BK246.out 1; have hfz6_2 := kF BK246.out 2) | ((with_reducible refine gate_callee (f := 69) rfl ?_); refine goesL_ (some 5) rfl rfl Try.func69 (by kernel_rfl) rfl #[.agg #[.int .i64 a0_0, .int .i64 a0_1]] rfl (by (try simp only [List.map_toArray, List.map_cons, List.map_nil]); first | done | rfl | (simp only [List.length_drop, List.length_take]; rfl)) ?_; (with_reducible refine (impl_isCoarse.calls k a0_0 a0_1 true _ A2.out).mono ?_); rintro e w7 ⟨rfl, hb⟩; refine ⟨_, rfl, ?_⟩; have n0_ := Am (kB (g := gb246) (o := .cells #[.int .i64 a0_0, .int .i64 a0_1, .int .i64 a0_2] 30 (0, 0)) (by (with_reducible repeat (first | refine kN ?_ _ | refine kD ?_ | refine kA ?_ _)); exact BK246.out) hb); have n1_ := Am (bT (by repeat (first | (with_reducible first | exact HB.out | apply bA | apply bN | apply bD | refine bS ?_ GE246.out) | exact HB.out)) hb); clear BK246; clear HB; have BK246 := n0_; have HB := n1_; clear n0_ n1_; (try clear hb); (try clear hb2); (try clear hk); (try clear hi); have hcz8_0 : w7.cell? ⟨gb246, 0, none⟩ = some (.int .i64 a0_0) := (kC BK246.out 0).trans rfl; have hcz8_1 : w7.cell? ⟨gb246, 1, none⟩ = some (.int .i64 a0_1) := (kC BK246.out 1).trans rfl; have hcz8_2 : w7.cell? ⟨gb246, 2, none⟩ = some (.int .i64 a0_2) := (kC BK246.out 2).trans rfl; have hfz8_0 := kF BK246.out 0; have hfz8_1 := kF BK246.out 1; have hfz8_2 := kF BK246.out 2) | (go_at_call 81; (with_reducible refine (impl_within.calls a0_2 (-400) 400 t248 _ A4.out).mono ?_); rintro e w' ⟨rfl, ⟨nd, rfl⟩⟩))
  go_ret
  exact ⟨by first | rfl | (simp [errW_none, errW_some] <;> rfl) | (simp [*, errW_none, errW_some] <;> rfl), by repeat (first | (with_reducible first | exact HB.out | apply bA | apply bN | apply bD | refine bS ?_ GE246.out) | exact HB.out)⟩
 ·replace c3 := Bool.eq_false_iff.mpr c3
  subst c3
  have H1 : (some false) = some r := by rw [if_neg (show ¬ (false = true) by decide)] at H; exact H
  clear H
  have H := H1
  clear H1
  obtain rfl := Option.some.inj H
  go_enter Try.func52, Try.ntmps52
  go_wp2_with (first | ((with_reducible refine gate_dst (N := 1) rfl ?_); refine box_event ?hg (N := 1) ?hd (cs := #[.int .i64 a0_0, .int .i64 a0_1, .int .i64 a0_2]) (t := 30) ?hr ?_; (case hd => rfl); (case hg => rfl); (case hr => first | (go_simp; done) | (go_simp; rfl)); intro gb246 hg w9 hbox hb; have n0_ := Am (bT (by repeat (first | (with_reducible first | exact HB.out | apply bA | apply bN | apply bD) | exact HB.out)) hb); have n1_ := Am (hbox); have n2_ := Am ((by rw [hg]; exact (bZ (by repeat (first | (with_reducible first | exact HB.out | apply bA | apply bN | apply bD) | exact HB.out))) : w.heap.size ≤ gb246)); have n3_ := Am ((by rw [hg]; exact (bZ (by repeat (first | (with_reducible first | exact HB.out | apply bA | apply bN | apply bD) | exact HB.out))) : w.heap.size ≤ gb246)); clear HB; have HB := n0_; have BK246 := n1_; have GW246 := n2_; have GE246 := n3_; clear n0_ n1_ n2_ n3_; clear hb hbox hg; have hcz10_0 : w9.cell? ⟨gb246, 0, none⟩ = some (.int .i64 a0_0) := (kC BK246.out 0).trans rfl; have hcz10_1 : w9.cell? ⟨gb246, 1, none⟩ = some (.int .i64 a0_1) := (kC BK246.out 1).trans rfl; have hcz10_2 : w9.cell? ⟨gb246, 2, none⟩ = some (.int .i64 a0_2) := (kC BK246.out 2).trans rfl; have hfz10_0 := kF BK246.out 0; have hfz10_1 := kF BK246.out 1; have hfz10_2 := kF BK246.out 2) | ((with_reducible refine gate_callee (f := 69) rfl ?_); refine goesL_ (some 5) rfl rfl Try.func69 (by kernel_rfl) rfl #[.agg #[.int .i64 a0_0, .int .i64 a0_1]] rfl (by (try simp only [List.map_toArray, List.map_cons, List.map_nil]); first | done | rfl | (simp only [List.length_drop, List.length_take]; rfl)) ?_; (with_reducible refine (impl_isCoarse.calls k a0_0 a0_1 false _ A2.out).mono ?_); rintro e w11 ⟨rfl, hb⟩; refine ⟨_, rfl, ?_⟩; have n0_ := Am (kB (g := gb246) (o := .cells #[.int .i64 a0_0, .int .i64 a0_1, .int .i64 a0_2] 30 (0, 0)) (by (with_reducible repeat (first | refine kN ?_ _ | refine kD ?_ | refine kA ?_ _)); exact BK246.out) hb); have n1_ := Am (bT (by repeat (first | (with_reducible first | exact HB.out | apply bA | apply bN | apply bD | refine bS ?_ GE246.out) | exact HB.out)) hb); clear BK246; clear HB; have BK246 := n0_; have HB := n1_; clear n0_ n1_; (try clear hb); (try clear hb2); (try clear hk); (try clear hi)))
  go_ret
  exact ⟨by first | rfl | (simp [errW_none, errW_some] <;> rfl) | (simp [*, errW_none, errW_some] <;> rfl), by repeat (first | (with_reducible first | exact HB.out | apply bA | apply bN | apply bD | refine bS ?_ GE246.out) | exact HB.out)⟩

/-! ### impl_areHands_1: function 103 -/
def impl_areHands_1.f (k : Nat) (a0_0 : Int) (a0_1 : Int) (a0_2 : Int) : Option (Bool) := (impl_IsHand.f k a0_0 a0_1 a0_2).bind fun t250 => (some (!t250))
theorem impl_areHands_1.mono : ∀ a0 a1 a2 k, LeO (impl_areHands_1.f k a0 a1 a2) (impl_areHands_1.f (k + 1) a0 a1 a2) := by
 intro a0 a1 a2 k
 unfold impl_areHands_1.f
 repeat' first
   | (with_reducible exact impl_IsHand.mono _ _ _ _)
   | (with_reducible exact LeO.refl _)
   | (with_reducible exact LeO.none _)
   | (with_reducible refine LeO.ite ?_ ?_)
   | (with_reducible refine LeO.bind ?_ (fun _ => ?_))
   | exact impl_IsHand.mono _ _ _ _
   | exact LeO.none _
   | refine LeO.ite ?_ ?_
   | refine LeO.bind ?_ (fun _ => ?_)
set_option maxHeartbeats 8000000 in
set_option maxRecDepth 100000 in
theorem impl_areHands_1.calls (k : Nat) (a0_0 : Int) (a0_1 : Int) (a0_2 : Int) (r : Bool) (w : World) (h : impl_areHands_1.f k a0_0 a0_1 a0_2 = some r) :
  Calls Try.prog 103 #[.agg #[.int .i64 a0_0, .int .i64 a0_1, .int .i64 a0_2]] w fun e w' => e = .returned (.bool r) ∧ Below w.heap.size w w' := by
 have hu30 := Try.underlying30
 have HB := Am (Below.refl w.heap.size w)
 have H : ((impl_IsHand.f k a0_0 a0_1 a0_2).bind fun t250 => (some (!t250))) = some r := h
 clear h
 replace H := Option.bind_eq_some_iff.mp H
 obtain ⟨t250, A20, H⟩ := H
 replace H : (some (!t250)) = some r := H
 have A2 := Am A20
 clear A20
 obtain rfl := Option.some.inj H
 go_enter Try.func103, Try.ntmps103
 go_wp2_with (first | ((with_reducible refine gate_dst (N := 1) rfl ?_); refine box_event ?hg (N := 1) ?hd (cs := #[.int .i64 a0_0, .int .i64 a0_1, .int .i64 a0_2]) (t := 30) ?hr ?_; (case hd => rfl); (case hg => rfl); (case hr => first | (go_simp; done) | (go_simp; rfl)); intro gb249 hg w3 hbox hb; have n0_ := Am (bT (by repeat (first | (with_reducible first | exact HB.out | apply bA | apply bN | apply bD) | exact HB.out)) hb); have n1_ := Am (hbox); have n2_ := Am ((by rw [hg]; exact (bZ (by repeat (first | (with_reducible first | exact HB.out | apply bA | apply bN | apply bD) | exact HB.out))) : w.heap.size ≤ gb249)); have n3_ := Am ((by rw [hg]; exact (bZ (by repeat (first | (with_reducible first | exact HB.out | apply bA | apply bN | apply bD) | exact HB.out))) : w.heap.size ≤ gb249)); clear HB; have HB := n0_; have BK249 := n1_; have GW249 := n2_; have GE249 := n3_; clear n0_ n1_ n2_ n3_; clear hb hbox hg; have hcz4_0 : w3.cell? ⟨gb249, 0, none⟩ = some (.int .i64 a0_0) := (kC BK249.out 0).trans rfl; have hcz4_1 : w3.cell? ⟨gb249, 1, none⟩ = some (.int .i64 a0_1) := (kC BK249.out 1).trans rfl; have hcz4_2 : w3.cell? ⟨gb249, 2, none⟩ = some (.int .i64 a0_2) := (kC BK249.out 2).trans rfl; have hfz4_0 := kF BK249.out 0; have hfz4_1 := kF BK249.out 1; have hfz4_2 := kF BK249.out 2) | ((with_reducible refine gate_callee (f := 52) rfl ?_); refine goesL_ (some 4) rfl rfl Try.func52 (by kernel_rfl) rfl #[.agg #[.int .i64 a0_0, .int .i64 a0_1, .int .i64 a0_2]] rfl (by (try simp only [List.map_toArray, List.map_cons, List.map_nil]); first | done | rfl | (simp only [List.length_drop, List.length_take]; rfl)) ?_; (with_reducible refine (impl_IsHand.calls k a0_0 a0_1 a0_2 t250 _ A2.out).mono ?_); rintro e w5 ⟨rfl, hb⟩; refine ⟨_, rfl, ?_⟩; have n0_ := Am (kB (g := gb249) (o := .cells #[.int .i64 a0_0, .int .i64 a0_1, .int .i64 a0_2] 30 (0, 0)) (by (with_reducible repeat (first | refine kN ?_ _ | refine kD ?_ | refine kA ?_ _)); exact BK249.out) hb); have n1_ := Am (bT (by repeat (first | (with_reducible first | exact HB.out | apply bA | apply bN | apply bD | refine bS ?_ GE249.out) | exact HB.out)) hb); clear BK249; clear HB; have BK249 := n0_; have HB := n1_; clear n0_ n1_; (try clear hb); (try clear hb2); (try clear hk); (try clear hi)))
 go_ret
 exact ⟨by first | rfl | (simp [errW_none, errW_some] <;> rfl) | (simp [*, errW_none, errW_some] <;> rfl), by repeat (first | (with_reducible first | exact HB.out | apply bA | apply bN | apply bD | refine bS ?_ GE249.out) | exact HB.out)⟩

/-! ### impl_areHands: function 74 -/
def impl_areHands.g (k : Nat) : List (S30) → Option (Bool)
 | [] => some true
 | x :: xs => (impl_areHands_1.f k x.f0.f0 x.f0.f1 x.f1).bind fun b => if b = true then some false else impl_areHands.g k xs
def impl_areHands.f (k : Nat) (l0 : List (S30)) : Option (Bool) := if l0.length < 4611686018427387904 then impl_areHands.g k l0 else none
theorem impl_areHands.mono_g : ∀ a0 k, LeO (impl_areHands.g k a0) (impl_areHands.g (k + 1) a0)
 | [], k => LeO.refl _
 | x :: xs, k => by
  unfold impl_areHands.g
  exact LeO.bind (impl_areHands_1.mono _ _ _ _) (fun _ => LeO.ite (LeO.refl _) (impl_areHands.mono_g xs k))
theorem impl_areHands.mono : ∀ a0 k, LeO (impl_areHands.f k a0) (impl_areHands.f (k + 1) a0) := fun a0 k => by
 unfold impl_areHands.f
 exact LeO.ite (impl_areHands.mono_g a0 k) (LeO.refl _)
theorem impl_areHands.at (k : Nat) (l0 : List (S30)) (x8 : Int) (r : Bool) (h0 : 0 ≤ x8) (h1 : x8 < (l0.length : Int)) (h : impl_areHands.g k (l0.drop x8.toNat) = some r) :
  ∃ b, impl_areHands_1.f k (rd_T30 l0 x8).f0.f0 (rd_T30 l0 x8).f0.f1 (rd_T30 l0 x8).f1 = some b ∧ (b = true → r = false) ∧ (b = false → impl_areHands.g k (l0.drop (x8 + 1).toNat) = some r) := by
 have hl : x8.toNat < l0.length := by omega
 rw [List.drop_eq_getElem_cons hl] at h
 simp only [impl_areHands.g] at h
 obtain ⟨b, hb, hr⟩ := Option.bind_eq_some_iff.mp h
 have e1 : rd_T30 l0 x8 = l0[x8.toNat] := by unfold rd_T30; rw [List.getD_eq_getElem?_getD, List.getElem?_eq_getElem hl]; rfl
 refine ⟨b, by rw [e1]; exact hb, fun e => ?_, fun e => ?_⟩
 ·rw [e, if_pos rfl] at hr; exact (Option.some.inj hr).symm
 ·rw [e, if_neg (by decide)] at hr
  rw [show (x8 + 1).toNat = x8.toNat + 1 by omega]; exact hr
set_option maxHeartbeats 8000000 in
set_option maxRecDepth 100000 in
theorem impl_areHands.idx (k : Nat) (A0 : Option Addr) (c0 : Nat) (l0 : List (S30)) (r : Bool) (w : World) (hr0 : Kd.C k30 w A0 l0.length l0) (hlen : l0.length < 4611686018427387904) (h : impl_areHands.g k l0 = some r) :
  Calls Try.prog 115 #[.slice A0 l0.length c0, .func (.func 103) #[] #[]] w fun e w' => ∃ v : Int, e = .returned (.int .i64 v) ∧ decide (0 ≤ v) = !r ∧ Below w.heap.size w w' := by
 have HR0 := Am hr0
 clear hr0
 have H' : Aside0 (impl_areHands.g k (l0.drop (0 : Int).toNat) = some r) := ⟨h⟩
 clear h
 have hu30 := Try.underlying30
 go_enter Try.func115, Try.ntmps115
 go_wp2
 go_loopg [5, 8] l0.length (fun gg v5 v8 w' => ∃ x8 : Int, 0 ≤ x8 ∧ x8 ≤ (l0.length : Int) ∧ (l0.length : Int) - x8 ≤ gg ∧ v8 = .int .i64 x8 ∧ Aside0 (impl_areHands.g k (l0.drop x8.toNat) = some r) ∧ Aside0 (Below w.heap.size w w'))
 case atStart => exact ⟨0, by omega, by omega, by omega, rfl, H', ⟨Below.refl _ w⟩⟩
 case round =>
  clear H'
  obtain ⟨x8, hx0, hx1, hg, rfl, HA, HB⟩ := hrel
  have hbd : x8 < 4611686018427387904 := by omega
  by_cases hlt : x8 < (l0.length : Int)
  ·have hltb : decide (x8 < (l0.length : Int)) = true := decide_eq_true hlt
   have hx0b : decide (0 ≤ x8) = true := decide_eq_true hx0
   obtain ⟨b, hb, hbt, hbf⟩ := impl_areHands.at k l0 x8 r hx0 hlt HA.out
   clear HA
   obtain ⟨ad, ea, hc0, hc1, hc2⟩ := at_T30 HR0.out x8 hx0 hlt
   cases ea
   replace hc0 := (HB.out.cell (World.block_lt_of_cell? w _ hc0)).trans hc0
   replace hc1 := (HB.out.cell (World.block_lt_of_cell? w _ hc1)).trans hc1
   replace hc2 := (HB.out.cell (World.block_lt_of_cell? w _ hc2)).trans hc2
   cases b with
   | true =>
    have HB1 := Am hb
    have HT := Am (hbt rfl)
    clear hb hbt hbf
    go_wp2_with (go_at_call 103; refine (impl_areHands_1.calls k _ _ _ true _ HB1.out).mono ?_; rintro e w2 ⟨rfl, hb'⟩)
    go_ret
    exact ⟨x8, rfl, by rw [HT.out]; simpa using hx0, bT HB.out hb'⟩
   | false =>
    have HB1 := Am hb
    have HF := Am (hbf rfl)
    clear hb hbt hbf
    go_wp2_with (go_at_call 103; refine (impl_areHands_1.calls k _ _ _ false _ HB1.out).mono ?_; rintro e w2 ⟨rfl, hb'⟩)
    go_roundg (l0.length - (x8 + 1).toNat)
    case measure => omega
    case rel => exact ⟨x8 + 1, by omega, by omega, by omega, by go_num, ⟨HF.out⟩, ⟨bT HB.out hb'⟩⟩
  ·have hltb : decide (x8 < (l0.length : Int)) = false := decide_eq_false hlt
   have e8 : r = true := by
    have := HA.out
    rw [List.drop_of_length_le (by omega)] at this
    exact (Option.some.inj this).symm
   clear HA
   have E8 := Am e8
   clear e8
   go_wp2
   go_ret
   exact ⟨-1, rfl, by rw [E8.out]; rfl, HB.out⟩
set_option maxHeartbeats 8000000 in
set_option maxRecDepth 100000 in
theorem impl_areHands.con (k : Nat) (A0 : Option Addr) (c0 : Nat) (l0 : List (S30)) (r : Bool) (w : World) (hr0 : Kd.C k30 w A0 l0.length l0) (hlen : l0.length < 4611686018427387904) (h : impl_areHands.g k l0 = some r) :
  Calls Try.prog 102 #[.slice A0 l0.length c0, .func (.func 103) #[] #[]] w fun e w' => e = .returned (.bool (!r)) ∧ Below w.heap.size w w' := by
 have HR0 := Am hr0
 have H' := Am h
 clear hr0 h
 go_enter Try.func102, Try.ntmps102
 go_wp2_with (go_at_call 115; refine (impl_areHands.idx k A0 c0 l0 r _ HR0.out hlen H'.out).mono ?_; rintro e w2 ⟨v, rfl, hv0, hb'⟩; have HV := Am hv0; clear hv0)
 go_ret
 exact ⟨congrArg (fun b => Ending.returned (.bool b)) HV.out, hb'⟩
set_option maxHeartbeats 8000000 in
set_option maxRecDepth 100000 in
theorem impl_areHands.calls (k : Nat) (A0 : Option Addr) (c0 : Nat) (l0 : List (S30)) (r : Bool) (w : World) (hr0 : Kd.C k30 w A0 l0.length l0) (hc0 : l0.length ≤ c0) (h : impl_areHands.f k l0 = some r) :
  Calls Try.prog 74 #[.slice A0 l0.length c0] w fun e w' => e = .returned (.bool r) ∧ Below w.heap.size w w' := by
 have HR0 := Am hr0
 have hlen : l0.length < 4611686018427387904 := by
  unfold impl_areHands.f at h
  by_cases hl : l0.length < 4611686018427387904
  ·exact hl
  ·rw [if_neg hl] at h; cases h
 have H' : Aside0 (impl_areHands.g k l0 = some r) := by
  unfold impl_areHands.f at h
  rw [if_pos hlen] at h
  exact ⟨h⟩
 clear hr0 h
 go_enter Try.func74, Try.ntmps74
 go_wp2_with (go_at_call 102; refine (impl_areHands.con k A0 c0 l0 r _ HR0.out hlen H'.out).mono ?_; rintro e w2 ⟨rfl, hb'⟩)
 go_ret
 exact ⟨by simp, hb'⟩

-- NOT PRINTED: function 60 (impl_Turn_60)

-- NOT PRINTED: function 106 (impl_Turn_106)

/-! ### impl_areTurns_1: function 107 -/
def impl_areTurns_1.f (k : Nat) (a0_0 : Int) (a0_1 : Int) : Option (Bool) := (impl_IsTurn.f k a0_0 a0_1).bind fun t252 => (some (!t252))
theorem impl_areTurns_1.mono : ∀ a0 a1 k, LeO (impl_areTurns_1.f k a0 a1) (impl_areTurns_1.f (k + 1) a0 a1) := by
 intro a0 a1 k
 unfold impl_areTurns_1.f
 repeat' first
   | (with_reducible exact impl_IsTurn.mono _ _ _)
   | (with_reducible exact LeO.refl _)
   | (with_reducible exact LeO.none _)
   | (with_reducible refine LeO.ite ?_ ?_)
   | (with_reducible refine LeO.bind ?_ (fun _ => ?_))
   | exact impl_IsTurn.mono _ _ _
   | exact LeO.none _
   | refine LeO.ite ?_ ?_
   | refine LeO.bind ?_ (fun _ => ?_)
set_option maxHeartbeats 8000000 in
set_option maxRecDepth 100000 in
theorem impl_areTurns_1.calls (k : Nat) (a0_0 : Int) (a0_1 : Int) (r : Bool) (w : World) (h : impl_areTurns_1.f k a0_0 a0_1 = some r) :
  Calls Try.prog 107 #[.agg #[.int .i64 a0_0, .int .i64 a0_1]] w fun e w' => e = .returned (.bool r) ∧ Below w.heap.size w w' := by
 have hu26 := Try.underlying26
 have HB := Am (Below.refl w.heap.size w)
 have H : ((impl_IsTurn.f k a0_0 a0_1).bind fun t252 => (some (!t252))) = some r := h
 clear h
 replace H := Option.bind_eq_some_iff.mp H
 obtain ⟨t252, A20, H⟩ := H
 replace H : (some (!t252)) = some r := H
 have A2 := Am A20
 clear A20
 obtain rfl := Option.some.inj H
 go_enter Try.func107, Try.ntmps107
 go_wp2_with (first | ((with_reducible refine gate_dst (N := 1) rfl ?_); refine box_event ?hg (N := 1) ?hd (cs := #[.int .i64 a0_0, .int .i64 a0_1]) (t := 26) ?hr ?_; (case hd => rfl); (case hg => rfl); (case hr => first | (go_simp; done) | (go_simp; rfl)); intro gb251 hg w3 hbox hb; have n0_ := Am (bT (by repeat (first | (with_reducible first | exact HB.out | apply bA | apply bN | apply bD) | exact HB.out)) hb); have n1_ := Am (hbox); have n2_ := Am ((by rw [hg]; exact (bZ (by repeat (first | (with_reducible first | exact HB.out | apply bA | apply bN | apply bD) | exact HB.out))) : w.heap.size ≤ gb251)); have n3_ := Am ((by rw [hg]; exact (bZ (by repeat (first | (with_reducible first | exact HB.out | apply bA | apply bN | apply bD) | exact HB.out))) : w.heap.size ≤ gb251)); clear HB; have HB := n0_; have BK251 := n1_; have GW251 := n2_; have GE251 := n3_; clear n0_ n1_ n2_ n3_; clear hb hbox hg; have hcz4_0 : w3.cell? ⟨gb251, 0, none⟩ = some (.int .i64 a0_0) := (kC BK251.out 0).trans rfl; have hcz4_1 : w3.cell? ⟨gb251, 1, none⟩ = some (.int .i64 a0_1) := (kC BK251.out 1).trans rfl; have hfz4_0 := kF BK251.out 0; have hfz4_1 := kF BK251.out 1) | ((with_reducible refine gate_callee (f := 59) rfl ?_); refine goesL_ (some 4) rfl rfl Try.func59 (by kernel_rfl) rfl #[.agg #[.int .i64 a0_0, .int .i64 a0_1]] rfl (by (try simp only [List.map_toArray, List.map_cons, List.map_nil]); first | done | rfl | (simp only [List.length_drop, List.length_take]; rfl)) ?_; (with_reducible refine (impl_IsTurn.calls k a0_0 a0_1 t252 _ A2.out).mono ?_); rintro e w5 ⟨rfl, hb⟩; refine ⟨_, rfl, ?_⟩; have n0_ := Am (kB (g := gb251) (o := .cells #[.int .i64 a0_0, .int .i64 a0_1] 26 (0, 0)) (by (with_reducible repeat (first | refine kN ?_ _ | refine kD ?_ | refine kA ?_ _)); exact BK251.out) hb); have n1_ := Am (bT (by repeat (first | (with_reducible first | exact HB.out | apply bA | apply bN | apply bD | refine bS ?_ GE251.out) | exact HB.out)) hb); clear BK251; clear HB; have BK251 := n0_; have HB := n1_; clear n0_ n1_; (try clear hb); (try clear hb2); (try clear hk); (try clear hi)))
 go_ret
 exact ⟨by first | rfl | (simp [errW_none, errW_some] <;> rfl) | (simp [*, errW_none, errW_some] <;> rfl), by repeat (first | (with_reducible first | exact HB.out | apply bA | apply bN | apply bD | refine bS ?_ GE251.out) | exact HB.out)⟩

/-! ### impl_areTurns: function 82 -/
def impl_areTurns.g (k : Nat) : List (S26) → Option (Bool)
 | [] => some true
 | x :: xs => (impl_areTurns_1.f k x.f0 x.f1).bind fun b => if b = true then some false else impl_areTurns.g k xs
def impl_areTurns.f (k : Nat) (l0 : List (S26)) : Option (Bool) := if l0.length < 4611686018427387904 then impl_areTurns.g k l0 else none
theorem impl_areTurns.mono_g : ∀ a0 k, LeO (impl_areTurns.g k a0) (impl_areTurns.g (k + 1) a0)
 | [], k => LeO.refl _
 | x :: xs, k => by
  unfold impl_areTurns.g
  exact LeO.bind (impl_areTurns_1.mono _ _ _) (fun _ => LeO.ite (LeO.refl _) (impl_areTurns.mono_g xs k))
theorem impl_areTurns.mono : ∀ a0 k, LeO (impl_areTurns.f k a0) (impl_areTurns.f (k + 1) a0) := fun a0 k => by
 unfold impl_areTurns.f
 exact LeO.ite (impl_areTurns.mono_g a0 k) (LeO.refl _)
theorem impl_areTurns.at (k : Nat) (l0 : List (S26)) (x8 : Int) (r : Bool) (h0 : 0 ≤ x8) (h1 : x8 < (l0.length : Int)) (h : impl_areTurns.g k (l0.drop x8.toNat) = some r) :
  ∃ b, impl_areTurns_1.f k (rd_T26 l0 x8).f0 (rd_T26 l0 x8).f1 = some b ∧ (b = true → r = false) ∧ (b = false → impl_areTurns.g k (l0.drop (x8 + 1).toNat) = some r) := by
 have hl : x8.toNat < l0.length := by omega
 rw [List.drop_eq_getElem_cons hl] at h
 simp only [impl_areTurns.g] at h
 obtain ⟨b, hb, hr⟩ := Option.bind_eq_some_iff.mp h
 have e1 : rd_T26 l0 x8 = l0[x8.toNat] := by unfold rd_T26; rw [List.getD_eq_getElem?_getD, List.getElem?_eq_getElem hl]; rfl
 refine ⟨b, by rw [e1]; exact hb, fun e => ?_, fun e => ?_⟩
 ·rw [e, if_pos rfl] at hr; exact (Option.some.inj hr).symm
 ·rw [e, if_neg (by decide)] at hr
  rw [show (x8 + 1).toNat = x8.toNat + 1 by omega]; exact hr
set_option maxHeartbeats 8000000 in
set_option maxRecDepth 100000 in
theorem impl_areTurns.idx (k : Nat) (A0 : Option Addr) (c0 : Nat) (l0 : List (S26)) (r : Bool) (w : World) (hr0 : Kd.C k26 w A0 l0.length l0) (hlen : l0.length < 4611686018427387904) (h : impl_areTurns.g k l0 = some r) :
  Calls Try.prog 60 #[.slice A0 l0.length c0, .func (.func 107) #[] #[]] w fun e w' => ∃ v : Int, e = .returned (.int .i64 v) ∧ decide (0 ≤ v) = !r ∧ Below w.heap.size w w' := by
 have HR0 := Am hr0
 clear hr0
 have H' : Aside0 (impl_areTurns.g k (l0.drop (0 : Int).toNat) = some r) := ⟨h⟩
 clear h
 have hu26 := Try.underlying26
 go_enter Try.func60, Try.ntmps60
 go_wp2
 go_loopg [5, 8] l0.length (fun gg v5 v8 w' => ∃ x8 : Int, 0 ≤ x8 ∧ x8 ≤ (l0.length : Int) ∧ (l0.length : Int) - x8 ≤ gg ∧ v8 = .int .i64 x8 ∧ Aside0 (impl_areTurns.g k (l0.drop x8.toNat) = some r) ∧ Aside0 (Below w.heap.size w w'))
 case atStart => exact ⟨0, by omega, by omega, by omega, rfl, H', ⟨Below.refl _ w⟩⟩
 case round =>
  clear H'
  obtain ⟨x8, hx0, hx1, hg, rfl, HA, HB⟩ := hrel
  have hbd : x8 < 4611686018427387904 := by omega
  by_cases hlt : x8 < (l0.length : Int)
  ·have hltb : decide (x8 < (l0.length : Int)) = true := decide_eq_true hlt
   have hx0b : decide (0 ≤ x8) = true := decide_eq_true hx0
   obtain ⟨b, hb, hbt, hbf⟩ := impl_areTurns.at k l0 x8 r hx0 hlt HA.out
   clear HA
   obtain ⟨ad, ea, hc0, hc1⟩ := at_T26 HR0.out x8 hx0 hlt
   cases ea
   replace hc0 := (HB.out.cell (World.block_lt_of_cell? w _ hc0)).trans hc0
   replace hc1 := (HB.out.cell (World.block_lt_of_cell? w _ hc1)).trans hc1
   cases b with
   | true =>
    have HB1 := Am hb
    have HT := Am (hbt rfl)
    clear hb hbt hbf
    go_wp2_with (go_at_call 107; refine (impl_areTurns_1.calls k _ _ true _ HB1.out).mono ?_; rintro e w2 ⟨rfl, hb'⟩)
    go_ret
    exact ⟨x8, rfl, by rw [HT.out]; simpa using hx0, bT HB.out hb'⟩
   | false =>
    have HB1 := Am hb
    have HF := Am (hbf rfl)
    clear hb hbt hbf
    go_wp2_with (go_at_call 107; refine (impl_areTurns_1.calls k _ _ false _ HB1.out).mono ?_; rintro e w2 ⟨rfl, hb'⟩)
    go_roundg (l0.length - (x8 + 1).toNat)
    case measure => omega
    case rel => exact ⟨x8 + 1, by omega, by omega, by omega, by go_num, ⟨HF.out⟩, ⟨bT HB.out hb'⟩⟩
  ·have hltb : decide (x8 < (l0.length : Int)) = false := decide_eq_false hlt
   have e8 : r = true := by
    have := HA.out
    rw [List.drop_of_length_le (by omega)] at this
    exact (Option.some.inj this).symm
   clear HA
   have E8 := Am e8
   clear e8
   go_wp2
   go_ret
   exact ⟨-1, rfl, by rw [E8.out]; rfl, HB.out⟩
set_option maxHeartbeats 8000000 in
set_option maxRecDepth 100000 in
theorem impl_areTurns.con (k : Nat) (A0 : Option Addr) (c0 : Nat) (l0 : List (S26)) (r : Bool) (w : World) (hr0 : Kd.C k26 w A0 l0.length l0) (hlen : l0.length < 4611686018427387904) (h : impl_areTurns.g k l0 = some r) :
  Calls Try.prog 106 #[.slice A0 l0.length c0, .func (.func 107) #[] #[]] w fun e w' => e = .returned (.bool (!r)) ∧ Below w.heap.size w w' := by
 have HR0 := Am hr0
 have H' := Am h
 clear hr0 h
 go_enter Try.func106, Try.ntmps106
 go_wp2_with (go_at_call 60; refine (impl_areTurns.idx k A0 c0 l0 r _ HR0.out hlen H'.out).mono ?_; rintro e w2 ⟨v, rfl, hv0, hb'⟩; have HV := Am hv0; clear hv0)
 go_ret
 exact ⟨congrArg (fun b => Ending.returned (.bool b)) HV.out, hb'⟩
set_option maxHeartbeats 8000000 in
set_option maxRecDepth 100000 in
theorem impl_areTurns.calls (k : Nat) (A0 : Option Addr) (c0 : Nat) (l0 : List (S26)) (r : Bool) (w : World) (hr0 : Kd.C k26 w A0 l0.length l0) (hc0 : l0.length ≤ c0) (h : impl_areTurns.f k l0 = some r) :
  Calls Try.prog 82 #[.slice A0 l0.length c0] w fun e w' => e = .returned (.bool r) ∧ Below w.heap.size w w' := by
 have HR0 := Am hr0
 have hlen : l0.length < 4611686018427387904 := by
  unfold impl_areTurns.f at h
  by_cases hl : l0.length < 4611686018427387904
  ·exact hl
  ·rw [if_neg hl] at h; cases h
 have H' : Aside0 (impl_areTurns.g k l0 = some r) := by
  unfold impl_areTurns.f at h
  rw [if_pos hlen] at h
  exact ⟨h⟩
 clear hr0 h
 go_enter Try.func82, Try.ntmps82
 go_wp2_with (go_at_call 106; refine (impl_areTurns.con k A0 c0 l0 r _ HR0.out hlen H'.out).mono ?_; rintro e w2 ⟨rfl, hb'⟩)
 go_ret
 exact ⟨by simp, hb'⟩

-- NOT PRINTED: function 116 (impl_Turn_116)

-- NOT PRINTED: function 126 (impl_Turn_126)

-- NOT PRINTED: function 117 (impl_Turn_117)

-- NOT PRINTED: function 124 (bits_Len32)

-- NOT PRINTED: function 125 (bits_Len64)

-- NOT PRINTED: function 109 (bits_Len)

-- NOT PRINTED: function 127 (slices_nextPowerOfTwo)

-- NOT PRINTED: function 128 (slices_xorshift_Next)

-- NOT PRINTED: function 118 (impl_Turn_118)

-- NOT PRINTED: function 131 (impl_Turn_131)

-- NOT PRINTED: function 130 (impl_Turn_130)

-- NOT PRINTED: function 129 (impl_Turn_129)

-- NOT PRINTED: function 119 (impl_Turn_119)

-- NOT PRINTED: function 120 (impl_Turn_120)

-- NOT PRINTED: function 121 (impl_Turn_121)

-- NOT PRINTED: function 122 (impl_Turn_122)

-- NOT PRINTED: function 123 (impl_Turn_123)

-- NOT PRINTED: function 108 (impl_Turn_108)

-- NOT PRINTED: function 83 (impl_Turn_83)

/-! ### impl_Turn_minus: function 84 -/
def impl_Turn_minus.f (k : Nat) (a0_0 : Int) (a0_1 : Int) (a1_0 : Int) (a1_1 : Int) : Option (Int × Int) := (impl_part.f k (wrap64 ((wrap64 (a0_0 * a1_1)) - (wrap64 (a1_0 * a0_1)))) (wrap64 (a0_1 * a1_1))).bind fun bt256 => (some (bt256.1, bt256.2))
theorem impl_Turn_minus.mono : ∀ a0 a1 a2 a3 k, LeO (impl_Turn_minus.f k a0 a1 a2 a3) (impl_Turn_minus.f (k + 1) a0 a1 a2 a3) := by
 intro a0 a1 a2 a3 k
 unfold impl_Turn_minus.f
 repeat' first
   | (with_reducible exact impl_part.mono _ _ _)
   | (with_reducible exact LeO.refl _)
   | (with_reducible exact LeO.none _)
   | (with_reducible refine LeO.ite ?_ ?_)
   | (with_reducible refine LeO.bind ?_ (fun _ => ?_))
   | exact impl_part.mono _ _ _
   | exact LeO.none _
   | refine LeO.ite ?_ ?_
   | refine LeO.bind ?_ (fun _ => ?_)
set_option maxHeartbeats 8000000 in
set_option maxRecDepth 100000 in
theorem impl_Turn_minus.calls (k : Nat) (a0_0 : Int) (a0_1 : Int) (a1_0 : Int) (a1_1 : Int) (r1 : Int) (r2 : Int) (w : World) (h : impl_Turn_minus.f k a0_0 a0_1 a1_0 a1_1 = some (r1, r2)) :
  Calls Try.prog 84 #[.agg #[.int .i64 a0_0, .int .i64 a0_1], .agg #[.int .i64 a1_0, .int .i64 a1_1]] w fun e w' => e = .returned (.agg #[.int .i64 r1, .int .i64 r2]) ∧ Below w.heap.size w w' := by
 have hu26 := Try.underlying26
 have HB := Am (Below.refl w.heap.size w)
 have H : ((impl_part.f k (wrap64 ((wrap64 (a0_0 * a1_1)) - (wrap64 (a1_0 * a0_1)))) (wrap64 (a0_1 * a1_1))).bind fun bt256 => (some (bt256.1, bt256.2))) = some (r1, r2) := h
 clear h
 replace H := Option.bind_eq_some_iff.mp H
 obtain ⟨⟨t256, t257⟩, A30, H⟩ := H
 replace H : (some (t256, t257)) = some (r1, r2) := H
 have A3 := Am A30
 clear A30
 simp only [Option.some.injEq, Prod.mk.injEq] at H
 obtain ⟨rfl, rfl⟩ := H
 go_enter Try.func84, Try.ntmps84
 go_wp2_with (first | ((with_reducible refine gate_dst (N := 2) rfl ?_); refine box_event ?hg (N := 2) ?hd (cs := #[.int .i64 a0_0, .int .i64 a0_1]) (t := 26) ?hr ?_; (case hd => rfl); (case hg => rfl); (case hr => first | (go_simp; done) | (go_simp; rfl)); intro gb253 hg w4 hbox hb; have n0_ := Am (bT (by repeat (first | (with_reducible first | exact HB.out | apply bA | apply bN | apply bD) | exact HB.out)) hb); have n1_ := Am (hbox); have n2_ := Am ((by rw [hg]; exact (bZ (by repeat (first | (with_reducible first | exact HB.out | apply bA | apply bN | apply bD) | exact HB.out))) : w.heap.size ≤ gb253)); have n3_ := Am ((by rw [hg]; exact (bZ (by repeat (first | (with_reducible first | exact HB.out | apply bA | apply bN | apply bD) | exact HB.out))) : w.heap.size ≤ gb253)); clear HB; have HB := n0_; have BK253 := n1_; have GW253 := n2_; have GE253 := n3_; clear n0_ n1_ n2_ n3_; clear hb hbox hg) | ((with_reducible refine gate_dst (N := 3) rfl ?_); refine box_event ?hg (N := 3) ?hd (cs := #[.int .i64 a1_0, .int .i64 a1_1]) (t := 26) ?hr ?_; (case hd => rfl); (case hg => rfl); (case hr => first | (go_simp; done) | (go_simp; rfl)); intro gb254 hg w5 hbox hb; have n0_ := Am (kB (g := gb253) (o := .cells #[.int .i64 a0_0, .int .i64 a0_1] 26 (0, 0)) (by (with_reducible repeat (first | refine kN ?_ _ | refine kD ?_ | refine kA ?_ _)); exact BK253.out) hb); have n1_ := Am (bT (by repeat (first | (with_reducible first | exact HB.out | apply bA | apply bN | apply bD | refine bS ?_ GE253.out) | exact HB.out)) hb); have n2_ := Am (hbox); have n3_ := Am ((by rw [hg]; exact (bZ (by repeat (first | (with_reducible first | exact HB.out | apply bA | apply bN | apply bD | refine bS ?_ GE253.out) | exact HB.out))) : w.heap.size ≤ gb254)); have n4_ := Am ((by rw [hg]; exact (bZ (by repeat (first | (with_reducible first | exact HB.out | apply bA | apply bN | apply bD | refine bS ?_ GE253.out) | exact HB.out))) : w.heap.size ≤ gb254)); have n5_ := Am ((by rw [hg]; exact Nat.ne_of_lt (kL (g := gb253) (o := .cells #[.int .i64 a0_0, .int .i64 a0_1] 26 (0, 0)) (by (with_reducible repeat (first | refine kN ?_ _ | refine kD ?_ | refine kA ?_ _)); exact BK253.out)) : gb253 ≠ gb254)); have n6_ := Am ((by rw [hg]; exact Nat.ne_of_gt (kL (g := gb253) (o := .cells #[.int .i64 a0_0, .int .i64 a0_1] 26 (0, 0)) (by (with_reducible repeat (first | refine kN ?_ _ | refine kD ?_ | refine kA ?_ _)); exact BK253.out)) : gb254 ≠ gb253)); clear BK253; clear HB; have BK253 := n0_; have HB := n1_; have BK254 := n2_; have GW254 := n3_; have GE254 := n4_; have NB253_254 := n5_; have NB254_253 := n6_; clear n0_ n1_ n2_ n3_ n4_ n5_ n6_; clear hb hbox hg) | ((with_reducible refine gate_dst (N := 4) rfl ?_); refine box_event ?hg (N := 4) ?hd (cs := #[.int .i64 0, .int .i64 0]) (t := 26) ?hr ?_; (case hd => rfl); (case hg => rfl); (case hr => first | (go_simp; done) | (go_simp; rfl)); intro gb255 hg w6 hbox hb; have n0_ := Am (kB (g := gb253) (o := .cells #[.int .i64 a0_0, .int .i64 a0_1] 26 (0, 0)) (by (with_reducible repeat (first | refine kN ?_ _ | refine kD ?_ | refine kA ?_ _)); exact BK253.out) hb); have n1_ := Am (kB (g := gb254) (o := .cells #[.int .i64 a1_0, .int .i64 a1_1] 26 (0, 0)) (by (with_reducible repeat (first | refine kN ?_ _ | refine kD ?_ | refine kA ?_ _)); exact BK254.out) hb); have n2_ := Am (bT (by repeat (first | (with_reducible first | exact HB.out | apply bA | apply bN | apply bD | refine bS ?_ GE253.out | refine bS ?_ GE254.out) | exact HB.out)) hb); have n3_ := Am (hbox); have n4_ := Am ((by rw [hg]; exact (bZ (by repeat (first | (with_reducible first | exact HB.out | apply bA | apply bN | apply bD | refine bS ?_ GE253.out | refine bS ?_ GE254.out) | exact HB.out))) : w.heap.size ≤ gb255)); have n5_ := Am ((by rw [hg]; exact (bZ (by repeat (first | (with_reducible first | exact HB.out | apply bA | apply bN | apply bD | refine bS ?_ GE253.out | refine bS ?_ GE254.out) | exact HB.out))) : w.heap.size ≤ gb255)); have n6_ := Am ((by rw [hg]; exact Nat.ne_of_lt (kL (g := gb253) (o := .cells #[.int .i64 a0_0, .int .i64 a0_1] 26 (0, 0)) (by (with_reducible repeat (first | refine kN ?_ _ | refine kD ?_ | refine kA ?_ _)); exact BK253.out)) : gb253 ≠ gb255)); have n7_ := Am ((by rw [hg]; exact Nat.ne_of_gt (kL (g := gb253) (o := .cells #[.int .i64 a0_0, .int .i64 a0_1] 26 (0, 0)) (by (with_reducible repeat (first | refine kN ?_ _ | refine kD ?_ | refine kA ?_ _)); exact BK253.out)) : gb255 ≠ gb253)); have n8_ := Am ((by rw [hg]; exact Nat.ne_of_lt (kL (g := gb254) (o := .cells #[.int .i64 a1_0, .int .i64 a1_1] 26 (0, 0)) (by (with_reducible repeat (first | refine kN ?_ _ | refine kD ?_ | refine kA ?_ _)); exact BK254.out)) : gb254 ≠ gb255)); have n9_ := Am ((by rw [hg]; exact Nat.ne_of_gt (kL (g := gb254) (o := .cells #[.int .i64 a1_0, .int .i64 a1_1] 26 (0, 0)) (by (with_reducible repeat (first | refine kN ?_ _ | refine kD ?_ | refine kA ?_ _)); exact BK254.out)) : gb255 ≠ gb254)); clear BK253; clear BK254; clear HB; have BK253 := n0_; have BK254 := n1_; have HB := n2_; have BK255 := n3_; have GW255 := n4_; have GE255 := n5_; have NB253_255 := n6_; have NB255_253 := n7_; have NB254_255 := n8_; have NB255_254 := n9_; clear n0_ n1_ n2_ n3_ n4_ n5_ n6_ n7_ n8_ n9_; clear hb hbox hg; have hnb7 := NB253_254.out; have hnc7 := NB254_253.out; have hnb8 := NB253_255.out; have hnc8 := NB255_253.out; have hcz9_0 : w6.cell? ⟨gb253, 0, none⟩ = some (.int .i64 a0_0) := (kC BK253.out 0).trans rfl; have hcz9_1 : w6.cell? ⟨gb253, 1, none⟩ = some (.int .i64 a0_1) := (kC BK253.out 1).trans rfl; have hfz9_0 := kF BK253.out 0; have hfz9_1 := kF BK253.out 1; have hnb10 := NB254_255.out; have hnc10 := NB255_254.out; have hcz11_0 : w6.cell? ⟨gb254, 0, none⟩ = some (.int .i64 a1_0) := (kC BK254.out 0).trans rfl; have hcz11_1 : w6.cell? ⟨gb254, 1, none⟩ = some (.int .i64 a1_1) := (kC BK254.out 1).trans rfl; have hfz11_0 := kF BK254.out 0; have hfz11_1 := kF BK254.out 1) | ((with_reducible refine gate_callee (f := 89) rfl ?_); refine goesL_ (some 21) rfl rfl Try.func89 (by kernel_rfl) rfl #[.int .i64 (wrap64 ((wrap64 (a0_0 * a1_1)) - (wrap64 (a1_0 * a0_1)))), .int .i64 (wrap64 (a0_1 * a1_1))] rfl (by (try simp only [List.map_toArray, List.map_cons, List.map_nil]); first | done | rfl | (simp only [List.length_drop, List.length_take]; rfl)) ?_; (with_reducible refine (impl_part.calls k (wrap64 ((wrap64 (a0_0 * a1_1)) - (wrap64 (a1_0 * a0_1)))) (wrap64 (a0_1 * a1_1)) t256 t257 _ A3.out).mono ?_); rintro e w12 ⟨rfl, hb⟩; refine ⟨_, rfl, ?_⟩; have n0_ := Am (kB (g := gb253) (o := .cells #[.int .i64 a0_0, .int .i64 a0_1] 26 (0, 0)) (by (with_reducible repeat (first | refine kN ?_ _ | refine kD ?_ | refine kA ?_ _)); exact BK253.out) hb); have n1_ := Am (kB (g := gb254) (o := .cells #[.int .i64 a1_0, .int .i64 a1_1] 26 (0, 0)) (by (with_reducible repeat (first | refine kN ?_ _ | refine kD ?_ | refine kA ?_ _)); exact BK254.out) hb); have n2_ := Am (kB (g := gb255) (o := .cells #[.int .i64 0, .int .i64 0] 26 (0, 0)) (by (with_reducible repeat (first | refine kN ?_ _ | refine kD ?_ | refine kA ?_ _)); exact BK255.out) hb); have n3_ := Am (bT (by repeat (first | (with_reducible first | exact HB.out | apply bA | apply bN | apply bD | refine bS ?_ GE253.out | refine bS ?_ GE254.out | refine bS ?_ GE255.out) | exact HB.out)) hb); clear BK253; clear BK254; clear BK255; clear HB; have BK253 := n0_; have BK254 := n1_; have BK255 := n2_; have HB := n3_; clear n0_ n1_ n2_ n3_; (try clear hb); (try clear hb2); (try clear hk); (try clear hi); have hcz13_0 : w12.cell? ⟨gb255, 0, none⟩ = some (.int .i64 0) := (kC BK255.out 0).trans rfl; have hcz13_1 : w12.cell? ⟨gb255, 1, none⟩ = some (.int .i64 0) := (kC BK255.out 1).trans rfl; have hfz13_0 := kF BK255.out 0; have hfz13_1 := kF BK255.out 1))
 refine bodyPost_ret (results_cell_row rfl _ _ gb255 26 #[.int .i64 t256, .int .i64 t257] (0, 0) _ rfl (by (with_reducible repeat (first | refine kN ?_ _ | refine kD ?_ | refine kA ?_ _)); refine kP (cs := #[.int .i64 t256, .int .i64 0]) ?_ 1 _ rfl; (with_reducible repeat (first | refine kN ?_ _ | refine kD ?_ | refine kA ?_ _)); refine kP (cs := #[.int .i64 0, .int .i64 0]) ?_ 0 _ rfl; (with_reducible repeat (first | refine kN ?_ _ | refine kD ?_ | refine kA ?_ _)); exact BK255.out) Try.underlying26 rfl (by kernel_rfl)) rfl ?_
 exact ⟨by first | rfl | (simp [errW_none, errW_some] <;> rfl) | (simp [*, errW_none, errW_some] <;> rfl), by repeat (first | (with_reducible first | exact HB.out | apply bA | apply bN | apply bD | refine bS ?_ GE253.out | refine bS ?_ GE254.out | refine bS ?_ GE255.out) | exact HB.out)⟩

/-! ### impl_ifTurns: function 85 -/
def impl_ifTurns.f (k : Nat) (l0 : List (S26)) (a1 : Bool) : Option ((List (S26)) × Bool) := if a1 = true then ((impl_areTurns.f k l0).bind fun t258 => (if t258 = true then (some (l0, true)) else (some (([] : List (S26)), false)))) else (some (([] : List (S26)), false))
theorem impl_ifTurns.mono : ∀ a0 a1 k, LeO (impl_ifTurns.f k a0 a1) (impl_ifTurns.f (k + 1) a0 a1) := by
 intro a0 a1 k
 unfold impl_ifTurns.f
 repeat' first
   | (with_reducible exact impl_areTurns.mono _ _)
   | (with_reducible exact LeO.refl _)
   | (with_reducible exact LeO.none _)
   | (with_reducible refine LeO.ite ?_ ?_)
   | (with_reducible refine LeO.bind ?_ (fun _ => ?_))
   | exact impl_areTurns.mono _ _
   | exact LeO.none _
   | refine LeO.ite ?_ ?_
   | refine LeO.bind ?_ (fun _ => ?_)
set_option maxHeartbeats 8000000 in
set_option maxRecDepth 100000 in
theorem impl_ifTurns.calls (k : Nat) (P0_ : Nat → Prop) (u9000_ : Value) (l0 : List (S26)) (a1 : Bool) (r1 : List (S26)) (r2 : Bool) (w0 w : World) (hB : Below w0.heap.size w0 w) (ho0 : Kd.R k26 26 w w0.heap.size P0_ u9000_ l0) (h : impl_ifTurns.f k l0 a1 = some (r1, r2)) :
  Calls Try.prog 85 #[u9000_, .bool a1] w fun e w' => ∃ v0_ : Value, e = .returned (.tuple #[v0_, .bool r2]) ∧ Kd.R k26 26 w' w0.heap.size (fun k_ => (P0_ k_ ∨ w.heap.size ≤ k_)) v0_ r1 ∧ Below w0.heap.size w0 w' ∧ Kept w w' (fun k_ => P0_ k_) := by
 have HO0 := Am (show Kd.R k26 26 w w0.heap.size (fun k_ => (P0_ k_ ∨ w.heap.size ≤ k_)) u9000_ l0 from Kd.R_mono ho0 (fun k_ hk => (.inl hk)))
 have HK := Am (Kept.refl w (fun k_ => P0_ k_))
 have HW0 := Am hB.size
 have HB := Am hB
 clear hB
 have H : (if a1 = true then ((impl_areTurns.f k l0).bind fun t258 => (if t258 = true then (some (l0, true)) else (some (([] : List (S26)), false)))) else (some (([] : List (S26)), false))) = some (r1, r2) := h
 clear h
 by_cases c3 : a1 = true
 ·subst c3
  have H1 : ((impl_areTurns.f k l0).bind fun t258 => (if t258 = true then (some (l0, true)) else (some (([] : List (S26)), false)))) = some (r1, r2) := by rw [if_pos rfl] at H; exact H
  clear H
  have H := H1
  clear H1
  replace H := Option.bind_eq_some_iff.mp H
  obtain ⟨t258, A40, H⟩ := H
  replace H : (if t258 = true then (some (l0, true)) else (some (([] : List (S26)), false))) = some (r1, r2) := H
  have A4 := Am A40
  clear A40
  by_cases c5 : t258 = true
  ·subst c5
   have H1 : (some (l0, true)) = some (r1, r2) := by rw [if_pos rfl] at H; exact H
   clear H
   have H := H1
   clear H1
   simp only [Option.some.injEq, Prod.mk.injEq] at H
   obtain ⟨rfl, rfl⟩ := H
   obtain ⟨Ao6, co6, eo6⟩ := Kd.R_slice HO0.out
   subst eo6
   go_enter Try.func85, Try.ntmps85
   go_wp2_with (first | (go_at_call 82; (with_reducible refine (impl_areTurns.calls k _ _ l0 true _ ?side1 ?side2 A4.out).mono ?_); (case side1 => repeat (first | exact (Kd.R_reads' HO0.out).2.2 | (with_reducible refine Kd.C_alloc ?_ _) | (with_reducible refine Kd.C_drewN ?_ _) | (with_reducible refine Kd.C_drew ?_))); (case side2 => exact (Kd.R_reads' HO0.out).2.1); rintro e w7 ⟨rfl, hb⟩; have n0_ := Am (Kd.R_below (by (with_reducible repeat (first | apply Kd.R_alloc | apply Kd.R_drewN | apply Kd.R_drew)); exact HO0.out) hb); have n1_ := Am (Kept.below (S := (fun k_ => P0_ k_)) (by repeat (first | (with_reducible first | exact HK.out | apply Kept.alloc | apply Kept.drewN | apply Kept.drew) | exact HK.out)) hb); have n2_ := Am (bT (by repeat (first | (with_reducible first | exact HB.out | apply bA | apply bN | apply bD) | exact HB.out)) hb); clear HO0; clear HK; clear HB; have HO0 := n0_; have HK := n1_; have HB := n2_; clear n0_ n1_ n2_; (try clear hb); (try clear hb2); (try clear hk); (try clear hi)))
   go_ret2
   exact ⟨_, by first | rfl | (simp [errW_none, errW_some] <;> rfl) | (simp [*, errW_none, errW_some] <;> rfl), by (with_reducible repeat (first | apply Kd.R_alloc | apply Kd.R_drewN | apply Kd.R_drew)); exact HO0.out, by repeat (first | (with_reducible first | exact HB.out | apply bA | apply bN | apply bD) | exact HB.out), by repeat (first | (with_reducible first | exact HK.out | apply Kept.alloc | apply Kept.drewN | apply Kept.drew) | exact HK.out)⟩
  ·replace c5 := Bool.eq_false_iff.mpr c5
   subst c5
   have H1 : (some (([] : List (S26)), false)) = some (r1, r2) := by rw [if_neg (show ¬ (false = true) by decide)] at H; exact H
   clear H
   have H := H1
   clear H1
   simp only [Option.some.injEq, Prod.mk.injEq] at H
   obtain ⟨rfl, rfl⟩ := H
   obtain ⟨Ao8, co8, eo8⟩ := Kd.R_slice HO0.out
   subst eo8
   go_enter Try.func85, Try.ntmps85
   go_wp2_with (first | (go_at_call 82; (with_reducible refine (impl_areTurns.calls k _ _ l0 false _ ?side1 ?side2 A4.out).mono ?_); (case side1 => repeat (first | exact (Kd.R_reads' HO0.out).2.2 | (with_reducible refine Kd.C_alloc ?_ _) | (with_reducible refine Kd.C_drewN ?_ _) | (with_reducible refine Kd.C_drew ?_))); (case side2 => exact (Kd.R_reads' HO0.out).2.1); rintro e w9 ⟨rfl, hb⟩; have n0_ := Am (Kd.R_below (by (with_reducible repeat (first | apply Kd.R_alloc | apply Kd.R_drewN | apply Kd.R_drew)); exact HO0.out) hb); have n1_ := Am (Kept.below (S := (fun k_ => P0_ k_)) (by repeat (first | (with_reducible first | exact HK.out | apply Kept.alloc | apply Kept.drewN | apply Kept.drew) | exact HK.out)) hb); have n2_ := Am (bT (by repeat (first | (with_reducible first | exact HB.out | apply bA | apply bN | apply bD) | exact HB.out)) hb); clear HO0; clear HK; clear HB; have HO0 := n0_; have HK := n1_; have HB := n2_; clear n0_ n1_ n2_; (try clear hb); (try clear hb2); (try clear hk); (try clear hi)))
   go_ret2
   exact ⟨_, by first | rfl | (simp [errW_none, errW_some] <;> rfl) | (simp [*, errW_none, errW_some] <;> rfl), by first | exact Kd.R_nil _ _ _ _ _ | exact Kd.N_nil _ _ _ _ _ | exact Kd.V_nil _ _ _ _ _ | exact Kd.Q_nil _ _ _ _ _ | exact Kd.S_nil _ _ _ _ _, by repeat (first | (with_reducible first | exact HB.out | apply bA | apply bN | apply bD) | exact HB.out), by repeat (first | (with_reducible first | exact HK.out | apply Kept.alloc | apply Kept.drewN | apply Kept.drew) | exact HK.out)⟩
 ·replace c3 := Bool.eq_false_iff.mpr c3
  subst c3
  have H1 : (some (([] : List (S26)), false)) = some (r1, r2) := by rw [if_neg (show ¬ (false = true) by decide)] at H; exact H
  clear H
  have H := H1
  clear H1
  simp only [Option.some.injEq, Prod.mk.injEq] at H
  obtain ⟨rfl, rfl⟩ := H
  go_enter Try.func85, Try.ntmps85
  go_wp2
  go_ret2
  exact ⟨_, by first | rfl | (simp [errW_none, errW_some] <;> rfl) | (simp [*, errW_none, errW_some] <;> rfl), by first | exact Kd.R_nil _ _ _ _ _ | exact Kd.N_nil _ _ _ _ _ | exact Kd.V_nil _ _ _ _ _ | exact Kd.Q_nil _ _ _ _ _ | exact Kd.S_nil _ _ _ _ _, by repeat (first | (with_reducible first | exact HB.out | apply bA | apply bN | apply bD) | exact HB.out), by repeat (first | (with_reducible first | exact HK.out | apply Kept.alloc | apply Kept.drewN | apply Kept.drew) | exact HK.out)⟩

end Go.Proofs.Ytioggbokjfdoaaa.PFnExactAreSpread
