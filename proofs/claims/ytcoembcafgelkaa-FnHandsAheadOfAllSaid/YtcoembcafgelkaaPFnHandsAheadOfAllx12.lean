-- WRITTEN BY A PROGRAM OF THIS SESSION (wip/tools): its own text, not the kit's printed one.
import Derived.Test.YtcoembcafgelkaaPFnHandsAheadOfAllx0
import Derived.Test.YtcoembcafgelkaaPFnHandsAheadOfAllx6
import Derived.Test.YtcoembcafgelkaaPFnHandsAheadOfAllx7
import Derived.Test.YtcoembcafgelkaaPFnHandsAheadOfAllx9
import Derived.Test.YtcoembcafgelkaaPFnHandsAheadOfAllx11
namespace Go.Proofs.Ytcoembcafgelkaa.PFnHandsAheadOfAll
open Go.RowKit Go.Proofs.YtcoembcafgelkaaW.PrintWords Go.Proofs.YtcoembcafgelkaaW.PrintLast Go.Proofs.YtcoembcafgelkaaW.PrintMore
attribute [local go_sem] max2_int min2_int max_two min_two max_three min_three max_four min_four   -- for this text's walks alone
set_option linter.unusedVariables false
set_option linter.unusedSimpArgs false

/-! ### spec_ThreeMeet: function 17 -/
mutual
def spec_ThreeMeet.j0 : Nat → List (S23) → Bool → Int → Int → Int → Int → Int → Int → Option ((List (S23)) × Bool)
 | 0, _, _, _, _, _, _, _, _ => none
 | k + 1, x8, x27, x397000, x397001, x397002, x399000, x399001, x399002 => if x27 = true then (some (([] : List (S23)), false)) else (spec_ThreeMeet.l0 k ([] : List (S23)) x8 (x8.length : Int) 0 x397000 x397001 x397002 x399000 x399001 x399002)
def spec_ThreeMeet.l0 : Nat → List (S23) → List (S23) → Int → Int → Int → Int → Int → Int → Int → Int → Option ((List (S23)) × Bool)
 | 0, _, _, _, _, _, _, _, _, _, _ => none
 | k + 1, x10, x28, x29, x30, x397000, x397001, x397002, x399000, x399001, x399002 => if x30 < x29 then (if 0 ≤ x30 then (if x30 < (x28.length : Int) then ((spec_meRelative.f k x397000 x397001 x397002 x399000 x399001 x399002).bind fun bt406 => ((spec_meAt.f k bt406.1 bt406.2.1 bt406.2.2 ((rd_T23 x28 x30).f0) ((rd_T23 x28 x30).f1)).bind fun bt409 => (if bt409.2.2 = true then (if bt409.1 = 0 then (if x10.length < 8796093022208 then (spec_ThreeMeet.l0 k (x10 ++ [(⟨(rd_T23 x28 x30).f0, (rd_T23 x28 x30).f1⟩ : S23)]) x28 x29 (wrap64 (x30 + 1)) x397000 x397001 x397002 x399000 x399001 x399002) else (none)) else (spec_ThreeMeet.l0 k x10 x28 x29 (wrap64 (x30 + 1)) x397000 x397001 x397002 x399000 x399001 x399002)) else (spec_ThreeMeet.l0 k x10 x28 x29 (wrap64 (x30 + 1)) x397000 x397001 x397002 x399000 x399001 x399002)))) else (none)) else (none)) else (some (x10, true))
end
def spec_ThreeMeet.f (k : Nat) (a0_0 : Int) (a0_1 : Int) (a0_2 : Int) (a1_0 : Int) (a1_1 : Int) (a1_2 : Int) (a2_0 : Int) (a2_1 : Int) (a2_2 : Int) : Option ((List (S23)) × Bool) := (spec_MeetTimes.f k a0_0 a0_1 a0_2 a1_0 a1_1 a1_2).bind fun bt399 => (if bt399.2 = true then ((spec_meGood.f k a2_0 a2_1 a2_2).bind fun t403 => (spec_ThreeMeet.j0 k bt399.1 (!t403) a0_0 a0_1 a0_2 a2_0 a2_1 a2_2)) else (spec_ThreeMeet.j0 k bt399.1 true a0_0 a0_1 a0_2 a2_0 a2_1 a2_2))
theorem spec_ThreeMeet.mono_l : ∀ k, (∀ y0 y1 y2 y3 y4 y5 y6 y7, LeO (spec_ThreeMeet.j0 k y0 y1 y2 y3 y4 y5 y6 y7) (spec_ThreeMeet.j0 (k + 1) y0 y1 y2 y3 y4 y5 y6 y7)) ∧ (∀ y0 y1 y2 y3 y4 y5 y6 y7 y8 y9, LeO (spec_ThreeMeet.l0 k y0 y1 y2 y3 y4 y5 y6 y7 y8 y9) (spec_ThreeMeet.l0 (k + 1) y0 y1 y2 y3 y4 y5 y6 y7 y8 y9))
 | 0 => ⟨fun _ _ _ _ _ _ _ _ r h => by simp [spec_ThreeMeet.j0] at h, fun _ _ _ _ _ _ _ _ _ _ r h => by simp [spec_ThreeMeet.l0] at h⟩
 | k + 1 => by
  obtain ⟨ih0, ih1⟩ := spec_ThreeMeet.mono_l k
  refine ⟨?_, ?_⟩
  ·intro y0 y1 y2 y3 y4 y5 y6 y7
   unfold spec_ThreeMeet.j0
   repeat' first
   | (with_reducible apply ih0)
   | (with_reducible apply ih1)
   | (with_reducible exact spec_MeetTimes.mono _ _ _ _ _ _ _)
   | (with_reducible exact spec_meAt.mono _ _ _ _ _ _)
   | (with_reducible exact spec_meGood.mono _ _ _ _)
   | (with_reducible exact spec_meRelative.mono _ _ _ _ _ _ _)
   | (with_reducible exact LeO.refl _)
   | (with_reducible exact LeO.none _)
   | (with_reducible refine LeO.ite ?_ ?_)
   | (with_reducible refine LeO.bind ?_ (fun _ => ?_))
   | apply ih0
   | apply ih1
   | exact spec_MeetTimes.mono _ _ _ _ _ _ _
   | exact spec_meAt.mono _ _ _ _ _ _
   | exact spec_meGood.mono _ _ _ _
   | exact spec_meRelative.mono _ _ _ _ _ _ _
   | exact LeO.none _
   | refine LeO.ite ?_ ?_
   | refine LeO.bind ?_ (fun _ => ?_)
  ·intro y0 y1 y2 y3 y4 y5 y6 y7 y8 y9
   unfold spec_ThreeMeet.l0
   repeat' first
   | (with_reducible apply ih0)
   | (with_reducible apply ih1)
   | (with_reducible exact spec_MeetTimes.mono _ _ _ _ _ _ _)
   | (with_reducible exact spec_meAt.mono _ _ _ _ _ _)
   | (with_reducible exact spec_meGood.mono _ _ _ _)
   | (with_reducible exact spec_meRelative.mono _ _ _ _ _ _ _)
   | (with_reducible exact LeO.refl _)
   | (with_reducible exact LeO.none _)
   | (with_reducible refine LeO.ite ?_ ?_)
   | (with_reducible refine LeO.bind ?_ (fun _ => ?_))
   | apply ih0
   | apply ih1
   | exact spec_MeetTimes.mono _ _ _ _ _ _ _
   | exact spec_meAt.mono _ _ _ _ _ _
   | exact spec_meGood.mono _ _ _ _
   | exact spec_meRelative.mono _ _ _ _ _ _ _
   | exact LeO.none _
   | refine LeO.ite ?_ ?_
   | refine LeO.bind ?_ (fun _ => ?_)
theorem spec_ThreeMeet.mono : ∀ a0 a1 a2 a3 a4 a5 a6 a7 a8 k, LeO (spec_ThreeMeet.f k a0 a1 a2 a3 a4 a5 a6 a7 a8) (spec_ThreeMeet.f (k + 1) a0 a1 a2 a3 a4 a5 a6 a7 a8) := by
 intro a0 a1 a2 a3 a4 a5 a6 a7 a8 k
 obtain ⟨ih0, ih1⟩ := spec_ThreeMeet.mono_l k
 unfold spec_ThreeMeet.f
 repeat' first
   | (with_reducible apply ih0)
   | (with_reducible apply ih1)
   | (with_reducible exact spec_MeetTimes.mono _ _ _ _ _ _ _)
   | (with_reducible exact spec_meAt.mono _ _ _ _ _ _)
   | (with_reducible exact spec_meGood.mono _ _ _ _)
   | (with_reducible exact spec_meRelative.mono _ _ _ _ _ _ _)
   | (with_reducible exact LeO.refl _)
   | (with_reducible exact LeO.none _)
   | (with_reducible refine LeO.ite ?_ ?_)
   | (with_reducible refine LeO.bind ?_ (fun _ => ?_))
   | apply ih0
   | apply ih1
   | exact spec_MeetTimes.mono _ _ _ _ _ _ _
   | exact spec_meAt.mono _ _ _ _ _ _
   | exact spec_meGood.mono _ _ _ _
   | exact spec_meRelative.mono _ _ _ _ _ _ _
   | exact LeO.none _
   | refine LeO.ite ?_ ?_
   | refine LeO.bind ?_ (fun _ => ?_)
def spec_ThreeMeet.T8 : Bool × List (List Nat × List Nat) := (true, [([], []), ([], []), ([0, 1], [0, 1]), ([], []), ([2, 3, 2], [2, 3]), ([4], [4]), ([5], [5]), ([5], [5]), ([], []), ([8, 6, 4, 0, 1, 2, 3, 4, 5, 6, 8], [6, 8]), ([7, 9, 0, 1, 2, 3, 4, 5, 6, 7, 8, 9], [7])])
def spec_ThreeMeet.B8 : List Nat := [0, 0, 3, 0, 15, 31, 63, 63, 0, 383, 1023]
theorem spec_ThreeMeet.tab8 : rtab .any (opsOf Try.f17 8) = spec_ThreeMeet.T8 := by kernel_rfl
theorem spec_ThreeMeet.bits8 : waitsOk spec_ThreeMeet.T8.2 spec_ThreeMeet.B8 = true := by kernel_rfl
set_option maxHeartbeats 8000000 in
set_option maxRecDepth 100000 in
theorem spec_ThreeMeet.calls (k : Nat) (a0_0 : Int) (a0_1 : Int) (a0_2 : Int) (a1_0 : Int) (a1_1 : Int) (a1_2 : Int) (a2_0 : Int) (a2_1 : Int) (a2_2 : Int) (r1 : List (S23)) (r2 : Bool) (w : World) (h : spec_ThreeMeet.f k a0_0 a0_1 a0_2 a1_0 a1_1 a1_2 a2_0 a2_1 a2_2 = some (r1, r2)) :
  Calls Try.prog 17 #[.agg #[.int .i64 a0_0, .int .i64 a0_1, .int .i64 a0_2], .agg #[.int .i64 a1_0, .int .i64 a1_1, .int .i64 a1_2], .agg #[.int .i64 a2_0, .int .i64 a2_1, .int .i64 a2_2]] w fun e w' => ∃ v0_ : Value, e = .returned (.tuple #[v0_, .bool r2]) ∧ Kd.R k23 23 w' w.heap.size (fun _ => True) v0_ r1 ∧ Below w.heap.size w w' := by
 have hu25 := Try.underlying25; have hu23 := Try.underlying23
 have HB := Am (Below.refl w.heap.size w)
 have H : ((spec_MeetTimes.f k a0_0 a0_1 a0_2 a1_0 a1_1 a1_2).bind fun bt399 => (if bt399.2 = true then ((spec_meGood.f k a2_0 a2_1 a2_2).bind fun t403 => (spec_ThreeMeet.j0 k bt399.1 (!t403) a0_0 a0_1 a0_2 a2_0 a2_1 a2_2)) else (spec_ThreeMeet.j0 k bt399.1 true a0_0 a0_1 a0_2 a2_0 a2_1 a2_2))) = some (r1, r2) := h
 clear h
 replace H := Option.bind_eq_some_iff.mp H
 obtain ⟨⟨t399, t402⟩, A40, H⟩ := H
 try dsimp only at H
 have A4 := Am A40
 clear A40
 have HC5 := Am H
 clear H
 go_enter Try.func17, Try.ntmps17
 go_upto_region 2 with (first | ((with_reducible refine gate_dst (N := 3) rfl ?_); refine bE 3 #[.int .i64 a0_0, .int .i64 a0_1, .int .i64 a0_2] 25 ?_; intro gb396 hg w6 hbox hb; have hv := vK HB hb; have n0_ := Am (bT hv hb); have n1_ := Am (hbox); have GW396 := kG hg hv; have GE396 := kG hg hv; clear HB; have HB := n0_; have BK396 := n1_; clear n0_ n1_ hv; clear hb hbox hg) | ((with_reducible refine gate_dst (N := 4) rfl ?_); refine bE 4 #[.int .i64 a1_0, .int .i64 a1_1, .int .i64 a1_2] 25 ?_; intro gb397 hg w7 hbox hb; have hp0 := pA BK396 hb; have hv := vK HB hb; have n1_ := Am (bT hv hb); have n2_ := Am (hbox); have GW397 := kG hg hv; have GE397 := kG hg hv; have hp1 := pK BK396 hb; obtain ⟨NB396_397, NB397_396⟩ := kXY hg hp1 BK396; clear HB; replace BK396 := hp0 BK396; have HB := n1_; have BK397 := n2_; clear n1_ n2_ hp0 hp1 hv; clear hb hbox hg) | ((with_reducible refine gate_dst (N := 5) rfl ?_); refine bE 5 #[.int .i64 a2_0, .int .i64 a2_1, .int .i64 a2_2] 25 ?_; intro gb398 hg w8 hbox hb; have hp0 := pA BK396 hb; have hv := vK HB hb; have n2_ := Am (bT hv hb); have n3_ := Am (hbox); have GW398 := kG hg hv; have GE398 := kG hg hv; have hp1 := pK BK396 hb; obtain ⟨NB396_398, NB398_396⟩ := kXY hg hp1 BK396; obtain ⟨NB397_398, NB398_397⟩ := kXY hg hp1 BK397; clear HB; replace BK396 := hp0 BK396; replace BK397 := hp0 BK397; have HB := n2_; have BK398 := n3_; clear n2_ n3_ hp0 hp1 hv; clear hb hbox hg; have u9 := kO NB396_397; have u10 := kO NB396_398; have z11 := c3 BK396; have u12 := kO NB397_398; have z13 := c3 BK397) | ((with_reducible refine gate_callee (f := 41) rfl ?_); refine gL (some 18) Try.func41 #[.agg #[.int .i64 a0_0, .int .i64 a0_1, .int .i64 a0_2], .agg #[.int .i64 a1_0, .int .i64 a1_1, .int .i64 a1_2]] rfl ?_; (with_reducible refine (spec_MeetTimes.calls k a0_0 a0_1 a0_2 a1_0 a1_1 a1_2 t399 t402 _ A4.out).mono ?_); rintro e w14 ⟨v400, rfl, ho0, hb⟩; refine ⟨_, rfl, ?_⟩; have n0_ := Am (Kd.R_lower ho0 (bZ (by repeat (first | (with_reducible first | exact HB.out | apply bA | apply bN | apply bD | refine bX ?_ (by assumption)) | exact HB.out)))); have hp0 := pA BK396 hb; have hv := vK HB hb; have n4_ := Am (bT hv hb); clear HB; have HO401 := n0_; replace BK396 := hp0 BK396; replace BK397 := hp0 BK397; replace BK398 := hp0 BK398; have HB := n4_; clear n0_ n4_ hp0 hv; (try clear hb); (try clear ho0)))
 (try simp only [Act.put, List.setIfInBounds_toArray, List.set_cons_zero, List.set_cons_succ])
 go_cut [27] (fun v27 wc => ∃ (kq : Nat) (x27_4 : Bool), v27 = .bool x27_4 ∧ Aside0 (spec_ThreeMeet.j0 kq t399 x27_4 a0_0 a0_1 a0_2 a2_0 a2_1 a2_2 = some (r1, r2)) ∧ Aside0 (kq ≤ k) ∧ Aside0 (Kd.R k23 23 wc w.heap.size (fun _ => True) v400 t399) ∧ Aside0 (wc.heap[gb396]? = some (.cells #[.int .i64 a0_0, .int .i64 a0_1, .int .i64 a0_2] 25 (0, 0))) ∧ Aside0 (wc.heap[gb397]? = some (.cells #[.int .i64 a1_0, .int .i64 a1_1, .int .i64 a1_2] 25 (0, 0))) ∧ Aside0 (wc.heap[gb398]? = some (.cells #[.int .i64 a2_0, .int .i64 a2_1, .int .i64 a2_2] 25 (0, 0))) ∧ Aside0 (Below w.heap.size w wc))
 case first =>
  have H := HC5.out
  clear HC5
  by_cases c15 : t402 = true
  ·subst c15
   have H1 : ((spec_meGood.f k a2_0 a2_1 a2_2).bind fun t403 => (spec_ThreeMeet.j0 k t399 (!t403) a0_0 a0_1 a0_2 a2_0 a2_1 a2_2)) = some (r1, r2) := by rw [if_pos rfl] at H; exact H
   clear H
   have H := H1
   clear H1
   replace H := Option.bind_eq_some_iff.mp H
   obtain ⟨t403, A160, H⟩ := H
   try dsimp only at H
   have A16 := Am A160
   clear A160
   focus
    have H' := Am H
    clear H
    have u17 := kO NB398_396; have u18 := kO NB398_397
    have z19 := c3 BK398
    go_wp2_with (first | (go_at_call 38; (with_reducible refine (spec_meGood.calls k a2_0 a2_1 a2_2 t403 _ A16.out).mono ?_); rintro e w20 ⟨rfl, hb⟩; have n0_ := Am (Kd.R_below (kW HO401) hb); have hp0 := pA BK396 hb; have hv := vK HB hb; have n4_ := Am (bT hv hb); clear HO401; clear HB; have HO401 := n0_; replace BK396 := hp0 BK396; replace BK397 := hp0 BK397; replace BK398 := hp0 BK398; have HB := n4_; clear n0_ n4_ hp0 hv; (try clear hb)))
    go_meet
    case rel =>
     refine ⟨_, (!t403), (by first | rfl | (simp; done) | (simp [*]; done)), H', ⟨by first | omega | exact Nat.le_refl _⟩, ⟨kW HO401⟩, ⟨?_⟩, ⟨?_⟩, ⟨?_⟩, ⟨by repeat (first | (with_reducible first | exact HB.out | apply bA | apply bN | apply bD | refine bX ?_ (by assumption)) | exact HB.out)⟩⟩
     all_goals ((with_reducible repeat (first | refine kN ?_ _ | refine kD ?_ | refine kA ?_ _)); exact Aside0.out (by assumption))
  replace c15 := Bool.eq_false_iff.mpr c15
  subst c15
  have H1 : (spec_ThreeMeet.j0 k t399 true a0_0 a0_1 a0_2 a2_0 a2_1 a2_2) = some (r1, r2) := by rw [if_neg (show ¬ (false = true) by decide)] at H; exact H
  clear H
  have H := H1
  clear H1
  focus
   have H' := Am H
   clear H
   go_wp2
   go_meet
   case rel =>
    refine ⟨_, (true), (by first | rfl | (simp; done) | (simp [*]; done)), H', ⟨by first | omega | exact Nat.le_refl _⟩, ⟨kW HO401⟩, ⟨?_⟩, ⟨?_⟩, ⟨?_⟩, ⟨by repeat (first | (with_reducible first | exact HB.out | apply bA | apply bN | apply bD | refine bX ?_ (by assumption)) | exact HB.out)⟩⟩
    all_goals ((with_reducible repeat (first | refine kN ?_ _ | refine kD ?_ | refine kA ?_ _)); exact Aside0.out (by assumption))
 clear HC5
 (try clear z11); (try clear z13)
 obtain ⟨kq, x27_4, rfl, HA, HJ4, HO_8, BK396, BK397, BK398, HB⟩ := hcut
 cases kq with
 | zero => exact absurd HA.out (by simp [spec_ThreeMeet.j0])
 | succ kj4 =>
  have H := HA.out
  clear HA
  simp only [spec_ThreeMeet.j0] at H
  by_cases c21 : x27_4 = true
  ·subst c21
   have H1 : (some (([] : List (S23)), false)) = some (r1, r2) := by rw [if_pos rfl] at H; exact H
   clear H
   have H := H1
   clear H1
   focus
    simp only [Option.some.injEq, Prod.mk.injEq] at H
    obtain ⟨rfl, rfl⟩ := H
    go_wp2
    go_ret2
    exact ⟨_, by first | rfl | (simp [errW_none, errW_some] <;> rfl) | (simp [*, errW_none, errW_some] <;> rfl), by first | exact Kd.R_nil _ _ _ _ _ | exact Kd.N_nil _ _ _ _ _ | exact Kd.V_nil _ _ _ _ _ | exact Kd.Q_nil _ _ _ _ _ | exact Kd.S_nil _ _ _ _ _, by repeat (first | (with_reducible first | exact HB.out | apply bA | apply bN | apply bD | refine bX ?_ (by assumption)) | exact HB.out)⟩
  replace c21 := Bool.eq_false_iff.mpr c21
  subst c21
  have H1 : (spec_ThreeMeet.l0 kj4 ([] : List (S23)) t399 (t399.length : Int) 0 a0_0 a0_1 a0_2 a2_0 a2_1 a2_2) = some (r1, r2) := by rw [if_neg (show ¬ (false = true) by decide)] at H; exact H
  clear H
  have H := H1
  clear H1
  have H' := Am H
  clear H
  obtain ⟨Ao22, co22, eo22⟩ := Kd.R_slice HO_8.out
  subst eo22
  go_wp2
  go_loopg [10, 30] kj4 (fun kq v10 v30 w' => ∃ (x10_2 : List (S23)) (x30_2 : Int), v30 = .int .i64 x30_2 ∧ Aside0 (spec_ThreeMeet.l0 kq x10_2 t399 (t399.length : Int) x30_2 a0_0 a0_1 a0_2 a2_0 a2_1 a2_2 = some (r1, r2)) ∧ Aside0 (kq ≤ kj4) ∧ Aside0 (Kd.R k23 23 w' w.heap.size (fun k_ => some k_ ≠ ((.slice Ao22 t399.length co22) : Value).ownBlock) v10 x10_2) ∧ Aside0 (Kd.R k23 23 w' w.heap.size (fun k_ => some k_ ≠ (v10 : Value).ownBlock) (.slice Ao22 t399.length co22) t399) ∧ Aside0 (w'.heap[gb396]? = some (.cells #[.int .i64 a0_0, .int .i64 a0_1, .int .i64 a0_2] 25 (0, 0))) ∧ Aside0 (w'.heap[gb397]? = some (.cells #[.int .i64 a1_0, .int .i64 a1_1, .int .i64 a1_2] 25 (0, 0))) ∧ Aside0 (w'.heap[gb398]? = some (.cells #[.int .i64 a2_0, .int .i64 a2_1, .int .i64 a2_2] 25 (0, 0))) ∧ Aside0 (Below w.heap.size w w'))
  case atStart => exact ⟨(([] : List (S23))), (0), (by first | rfl | (simp; done) | (simp [*]; done)), H', ⟨Nat.le_refl _⟩, ⟨by first | exact Kd.R_nil _ _ _ _ _ | exact Kd.N_nil _ _ _ _ _ | exact Kd.V_nil _ _ _ _ _ | exact Kd.Q_nil _ _ _ _ _ | exact Kd.S_nil _ _ _ _ _⟩, ⟨by (with_reducible repeat (first | apply Kd.R_alloc | apply Kd.R_drewN | apply Kd.R_drew)); exact Kd.R_mono HO_8.out (fun _ hk => (by simp [Value.ownBlock]))⟩, kV BK396, kV BK397, kV BK398, ⟨by repeat (first | (with_reducible first | exact HB.out | apply bA | apply bN | apply bD | refine bX ?_ (by assumption)) | exact HB.out)⟩⟩
  case round =>
   clear H'
   (try clear c21); (try clear z11); (try clear z13)
   obtain ⟨x10_2, x30_2, rfl, HA, HK2, HO_10, HO_28, BK396, BK397, BK398, HB⟩ := hrel
   cases gk with
   | zero => exact absurd HA.out (by simp [spec_ThreeMeet.l0])
   | succ k2 =>
    have H := HA.out
    clear HA
    simp only [spec_ThreeMeet.l0] at H
    by_cases c23 : x30_2 < (t399.length : Int)
    ·rw [if_pos c23] at H
     have c23b0 : decide (x30_2 < (t399.length : Int)) = true := decide_eq_true c23
     clear c23
     by_cases c24 : 0 ≤ x30_2
     ·rw [if_pos c24] at H
      have c24b0 : decide (0 ≤ x30_2) = true := decide_eq_true c24
      clear c24
      by_cases c25 : x30_2 < (t399.length : Int)
      ·rw [if_pos c25] at H
       have c25b0 : decide (x30_2 < (t399.length : Int)) = true := decide_eq_true c25
       clear c25
       replace H := Option.bind_eq_some_iff.mp H
       obtain ⟨⟨t406, t407, t408⟩, A260, H⟩ := H
       try dsimp only at H
       have A26 := Am A260
       clear A260
       replace H := Option.bind_eq_some_iff.mp H
       obtain ⟨⟨t409, t410, t411⟩, A270, H⟩ := H
       try dsimp only at H
       have A27 := Am A270
       clear A270
       by_cases c28 : t411 = true
       ·subst c28
        have H1 : (if t409 = 0 then (if x10_2.length < 8796093022208 then (spec_ThreeMeet.l0 k2 (x10_2 ++ [(⟨(rd_T23 t399 x30_2).f0, (rd_T23 t399 x30_2).f1⟩ : S23)]) t399 (t399.length : Int) (wrap64 (x30_2 + 1)) a0_0 a0_1 a0_2 a2_0 a2_1 a2_2) else (none)) else (spec_ThreeMeet.l0 k2 x10_2 t399 (t399.length : Int) (wrap64 (x30_2 + 1)) a0_0 a0_1 a0_2 a2_0 a2_1 a2_2)) = some (r1, r2) := by rw [if_pos rfl] at H; exact H
        clear H
        have H := H1
        clear H1
        by_cases c29 : t409 = 0
        ·rw [if_pos c29] at H
         have c29b0 : (t409 == 0) = true := beq_iff_eq.mpr c29
         have c29b1 : (t409 != 0) = false := bne_eq_false_iff_eq.mpr c29
         clear c29
         by_cases c30 : x10_2.length < 8796093022208
         ·rw [if_pos c30] at H
          have LMc30 := Am c30
          clear c30
          obtain ⟨y413, hy413⟩ : ∃ y_ : List (S23), y_ = (x10_2 ++ [(⟨(rd_T23 t399 x30_2).f0, (rd_T23 t399 x30_2).f1⟩ : S23)]) := ⟨_, rfl⟩
          replace H : (spec_ThreeMeet.l0 k2 y413 t399 (t399.length : Int) (wrap64 (x30_2 + 1)) a0_0 a0_1 a0_2 a2_0 a2_1 a2_2) = some (r1, r2) := by first | (rw [hy413]; with_reducible exact H) | (have H2_ := (Option.bind_some _ _).symm.trans H; rw [hy413]; with_reducible exact H2_) | (have H2_ := (Option.bind_some _ _).symm.trans H; with_reducible exact H2_) | with_reducible exact H | (rw [hy413]; exact H) | exact H
          have Ny413 := Am hy413
          clear hy413
          focus
           have H' := Am H
           clear H
           have p404 : 0 ≤ (x30_2 : Int) := of_decide_eq_true (by first | (with_reducible assumption) | assumption)
           have q404 : x30_2 < (t399.length : Int) := of_decide_eq_true (by first | (with_reducible assumption) | assumption)
           obtain ⟨ad404, e404, hx404_0, hx404_1⟩ := at_T23 (Kd.R_reads' HO_28.out).2.2 x30_2 p404 q404
           cases e404
           replace p404 := eq_true p404
           replace q404 := eq_true q404
           try go_wp2_with (first | ((with_reducible refine gate_dst (N := 12) rfl ?_); refine bE 12 #[.int .i64 0, .int .i64 0] 23 ?_; intro gb405 hg w31 hbox hb; have n0_ := Am (Kd.R_below (Kd.R_elderB (kW HO_10) gb405 (Nat.le_of_eq hg.symm)) hb); have n1_ := Am (Kd.R_below (Kd.R_elderB (kW HO_28) gb405 (Nat.le_of_eq hg.symm)) hb); have hp0 := pA BK396 hb; have hv := vK HB hb; have n5_ := Am (bT hv hb); have n6_ := Am (hbox); have GW405 := kG hg hv; have GE405 := kG hg hv; have hp1 := pK BK396 hb; obtain ⟨NB396_405, NB405_396⟩ := kXY hg hp1 BK396; obtain ⟨NB397_405, NB405_397⟩ := kXY hg hp1 BK397; obtain ⟨NB398_405, NB405_398⟩ := kXY hg hp1 BK398; clear HO_10; clear HO_28; clear HB; have HO_10 := n0_; have HO_28 := n1_; replace BK396 := hp0 BK396; replace BK397 := hp0 BK397; replace BK398 := hp0 BK398; have HB := n5_; have BK405 := n6_; clear n0_ n1_ n5_ n6_ hp0 hp1 hv; clear hb hbox hg; have u32 := kO NB405_396; have u33 := kO NB405_397; have u34 := kO NB405_398; have z35 := c2 BK405))
           have n0_ : Aside0 (Kd.R k23 23 ((w31.setCell ⟨gb405, 0, none⟩ (.int .i64 ((rd_T23 t399 x30_2).f0))).setCell ⟨gb405, 1, none⟩ (.int .i64 ((rd_T23 t399 x30_2).f1))) w.heap.size (fun k_ => some k_ ≠ (.slice (some ad404) t399.length co22 : Value).ownBlock ∧ k_ ≠ gb405) u10 x10_2) := ⟨by (with_reducible repeat (first | apply Kd.R_alloc | apply Kd.R_drewN | apply Kd.R_drew)); exact Kd.R_mono (Kd.R_far (p := ⟨gb405, 1, none⟩) (Kd.R_far (p := ⟨gb405, 0, none⟩) (Kd.R_mono HO_10.out (fun k_ hk => (⟨hk, hk.2⟩ : _ ∧ k_ ≠ gb405))) (fun _ hk => hk.2) (.int .i64 ((rd_T23 t399 x30_2).f0))) (fun _ hk => hk.2) (.int .i64 ((rd_T23 t399 x30_2).f1))) (fun _ hk => ⟨hk.1.1, hk.1.2⟩)⟩
           have n1_ : Aside0 (Kd.R k23 23 ((w31.setCell ⟨gb405, 0, none⟩ (.int .i64 ((rd_T23 t399 x30_2).f0))).setCell ⟨gb405, 1, none⟩ (.int .i64 ((rd_T23 t399 x30_2).f1))) w.heap.size (fun k_ => some k_ ≠ (u10 : Value).ownBlock ∧ k_ ≠ gb405) (.slice (some ad404) t399.length co22) t399) := ⟨by (with_reducible repeat (first | apply Kd.R_alloc | apply Kd.R_drewN | apply Kd.R_drew)); exact Kd.R_mono (Kd.R_far (p := ⟨gb405, 1, none⟩) (Kd.R_far (p := ⟨gb405, 0, none⟩) (Kd.R_mono HO_28.out (fun k_ hk => (⟨hk, hk.2⟩ : _ ∧ k_ ≠ gb405))) (fun _ hk => hk.2) (.int .i64 ((rd_T23 t399 x30_2).f0))) (fun _ hk => hk.2) (.int .i64 ((rd_T23 t399 x30_2).f1))) (fun _ hk => ⟨hk.1.1, hk.1.2⟩)⟩
           have hq := hqR (W := ((w31.setCell ⟨gb405, 0, none⟩ (.int .i64 ((rd_T23 t399 x30_2).f0))).setCell ⟨gb405, 1, none⟩ (.int .i64 ((rd_T23 t399 x30_2).f1)))) gb405 BK396.out (fun _ _ q_ h_ => by (with_reducible repeat (first | refine kN ?_ _ | refine kD ?_ | refine kA ?_ _ | refine kZ ?_ q_ _)); exact h_)
           have n2_ := Am (hq NB396_405.out BK396.out)
           have n3_ := Am (hq NB397_405.out BK397.out)
           have n4_ := Am (hq NB398_405.out BK398.out)
           have n5_ : Aside0 (((w31.setCell ⟨gb405, 0, none⟩ (.int .i64 ((rd_T23 t399 x30_2).f0))).setCell ⟨gb405, 1, none⟩ (.int .i64 ((rd_T23 t399 x30_2).f1))).heap[gb405]? = some (.cells #[.int .i64 ((rd_T23 t399 x30_2).f0), .int .i64 ((rd_T23 t399 x30_2).f1)] 23 (0, 0))) := ⟨by (with_reducible repeat (first | refine kN ?_ _ | refine kD ?_ | refine kA ?_ _)); refine kP (cs := #[.int .i64 ((rd_T23 t399 x30_2).f0), .int .i64 0]) ?_ 1 _ rfl; (with_reducible repeat (first | refine kN ?_ _ | refine kD ?_ | refine kA ?_ _)); refine kP (cs := #[.int .i64 0, .int .i64 0]) ?_ 0 _ rfl; (with_reducible repeat (first | refine kN ?_ _ | refine kD ?_ | refine kA ?_ _)); exact BK405.out⟩
           have n6_ : Aside0 (Below w.heap.size w ((w31.setCell ⟨gb405, 0, none⟩ (.int .i64 ((rd_T23 t399 x30_2).f0))).setCell ⟨gb405, 1, none⟩ (.int .i64 ((rd_T23 t399 x30_2).f1)))) := ⟨by repeat (first | (with_reducible first | exact HB.out | apply bA | apply bN | apply bD | refine bX ?_ (by assumption)) | exact HB.out)⟩
           clear hq
           (try clear HO_10)
           (try clear HO_28)
           (try clear BK396)
           (try clear BK397)
           (try clear BK398)
           (try clear BK405)
           (try clear HB)
           generalize ((w31.setCell ⟨gb405, 0, none⟩ (.int .i64 ((rd_T23 t399 x30_2).f0))).setCell ⟨gb405, 1, none⟩ (.int .i64 ((rd_T23 t399 x30_2).f1))) = w36 at n0_ n1_ n2_ n3_ n4_ n5_ n6_ ⊢
           have HO_10 := n0_; have HO_28 := n1_; have BK396 := n2_; have BK397 := n3_; have BK398 := n4_; have BK405 := n5_; have HB := n6_
           clear n0_ n1_ n2_ n3_ n4_ n5_ n6_
           have n0_ := Am (Kd.R_drew HO_10.out)
           have n1_ := Am (Kd.R_drew HO_28.out)
           have n2_ := Am (kD BK396.out)
           have n3_ := Am (kD BK397.out)
           have n4_ := Am (kD BK398.out)
           have n5_ := Am (kD BK405.out)
           have n6_ := Am (bD HB.out)
           clear HO_10 HO_28 BK396 BK397 BK398 BK405 HB
           have HO_10 := n0_; have HO_28 := n1_; have BK396 := n2_; have BK397 := n3_; have BK398 := n4_; have BK405 := n5_; have HB := n6_
           clear n0_ n1_ n2_ n3_ n4_ n5_ n6_
           refine start_ (n := 11) (S := fun w' => w'.cell? ⟨gb396, 0, none⟩ = some (.int .i64 a0_0) ∧ w'.cell? ⟨gb396, 1, none⟩ = some (.int .i64 a0_1) ∧ w'.cell? ⟨gb396, 2, none⟩ = some (.int .i64 a0_2) ∧ w'.cell? ⟨gb398, 0, none⟩ = some (.int .i64 a2_0) ∧ w'.cell? ⟨gb398, 1, none⟩ = some (.int .i64 a2_1) ∧ w'.cell? ⟨gb398, 2, none⟩ = some (.int .i64 a2_2) ∧ w'.cell? ⟨gb405, 0, none⟩ = some (.int .i64 ((rd_T23 t399 x30_2).f0)) ∧ w'.cell? ⟨gb405, 1, none⟩ = some (.int .i64 ((rd_T23 t399 x30_2).f1))) (ds := []) (pT 11 0) (by kernel_rfl) rfl rfl ⟨c30 BK396.out, c31 BK396.out, c32 BK396.out, c30 BK398.out, c31 BK398.out, c32 BK398.out, c20 BK405.out, c21 BK405.out⟩ (fun hHeld => ?_); refine with_tabW spec_ThreeMeet.tab8 spec_ThreeMeet.bits8 (fun HT_ HW_ => ?_)
           generalize w36.drew = w37 at HO_10 HO_28 BK396 BK397 BK398 BK405 HB hHeld ⊢
           iterate 2
            refine tI (v := ?_) (a' := ?_) rfl (take_ofW HT_.out HW_.out (by kernel_rfl)) (fun _ _ _ h => h) (Or.inl ⟨by rfl, ?_⟩) hHeld ?_ ?_
            rotate_left
            ·rintro w' ⟨s0, s1, s2, s3, s4, s5, s6, s7⟩
             go_simp
             with_reducible rfl
            rotate_left
            ·show Act.put _ (some _) _ = _
             simp only [Act.put, List.setIfInBounds_toArray, List.set_cons_zero, List.set_cons_succ, i64_w, i32_w]
             rfl
           refine take_ (i := 3) (N := some 38) (v := ?_) (a' := ?_) #[true, true, false, true, false, false, false, false, false, false, false] rfl rfl (take_ofW HT_.out HW_.out (by kernel_rfl)) (fun _ _ _ h => h) (Or.inl ⟨by rfl, ?_⟩) hHeld ?_ ?_
           rotate_left
           ·rintro w' ⟨s0, s1, s2, s3, s4, s5, s6, s7⟩
            go_simp
            with_reducible rfl
           rotate_left
           ·simp only [Act.put, List.setIfInBounds_toArray, List.set_cons_zero, List.set_cons_succ, i64_w, i32_w]
            rfl
           refine join_ (σ := Nat) 2 (pT 11 9) (fun s_ => [(37, .agg #[.int .i64 t406, .int .i64 t407, .int .i64 t408]), (39, .tuple #[.agg #[.int .i64 t409, .int .i64 t410], .bool true]), (13, .pointer (some ⟨s_, 0, none⟩)), (34, .tuple #[.agg #[.int .i64 t409, .int .i64 t410], .bool true]), (40, .agg #[.int .i64 t409, .int .i64 t410]), (41, .bool true)]) (fun s_ w' => (w'.cell? ⟨gb396, 0, none⟩ = some (.int .i64 a0_0) ∧ w'.cell? ⟨gb396, 1, none⟩ = some (.int .i64 a0_1) ∧ w'.cell? ⟨gb396, 2, none⟩ = some (.int .i64 a0_2) ∧ w'.cell? ⟨gb398, 0, none⟩ = some (.int .i64 a2_0) ∧ w'.cell? ⟨gb398, 1, none⟩ = some (.int .i64 a2_1) ∧ w'.cell? ⟨gb398, 2, none⟩ = some (.int .i64 a2_2) ∧ w'.cell? ⟨gb405, 0, none⟩ = some (.int .i64 ((rd_T23 t399 x30_2).f0)) ∧ w'.cell? ⟨gb405, 1, none⟩ = some (.int .i64 ((rd_T23 t399 x30_2).f1))) ∧ (Kd.R k23 23 w' w.heap.size (fun k_ => some k_ ≠ (.slice (some ad404) t399.length co22 : Value).ownBlock ∧ k_ ≠ gb405 ∧ k_ ≠ s_) u10 x10_2) ∧ (Kd.R k23 23 w' w.heap.size (fun k_ => some k_ ≠ (u10 : Value).ownBlock ∧ k_ ≠ gb405 ∧ k_ ≠ s_) (.slice (some ad404) t399.length co22) t399) ∧ (w'.heap[gb396]? = some (.cells #[.int .i64 a0_0, .int .i64 a0_1, .int .i64 a0_2] 25 (0, 0))) ∧ (w'.heap[gb397]? = some (.cells #[.int .i64 a1_0, .int .i64 a1_1, .int .i64 a1_2] 25 (0, 0))) ∧ (w'.heap[gb398]? = some (.cells #[.int .i64 a2_0, .int .i64 a2_1, .int .i64 a2_2] 25 (0, 0))) ∧ (w'.heap[gb405]? = some (.cells #[.int .i64 ((rd_T23 t399 x30_2).f0), .int .i64 ((rd_T23 t399 x30_2).f1)] 23 (0, 0))) ∧ (w'.heap[s_]? = some (.cells #[.int .i64 0, .int .i64 0] 23 (0, 0))) ∧ (w.heap.size ≤ s_) ∧ (w.heap.size ≤ s_) ∧ (gb396 ≠ s_) ∧ (s_ ≠ gb396) ∧ (gb397 ≠ s_) ∧ (s_ ≠ gb397) ∧ (gb398 ≠ s_) ∧ (s_ ≠ gb398) ∧ (gb405 ≠ s_) ∧ (s_ ≠ gb405) ∧ (Below w.heap.size w w')) ?_ ?_
           rotate_left
           ·intro hCont
            refine two_ (i := 2) (j := 8) (Ni := some 37) (Nj := some 13) (pT 11 4) #[true, true, false, true, false, false, false, false, true, false, false] rfl rfl rfl rfl (two_of HT_.out (by kernel_rfl)) (by decide) (by decide) (fun K hK => ?_) (fun K hK => ?_)
            ·skip
             refine goes_ Try.func28 (by kernel_rfl) rfl #[.agg #[.int .i64 a0_0, .int .i64 a0_1, .int .i64 a0_2], .agg #[.int .i64 a2_0, .int .i64 a2_1, .int .i64 a2_2]] (by rfl) rfl rfl (by (try simp only [List.map_toArray, List.map_cons, List.map_nil]); first | done | rfl | (simp only [List.length_drop, List.length_take]; rfl)) ?_
             with_reducible refine (spec_meRelative.calls k2 a0_0 a0_1 a0_2 a2_0 a2_1 a2_2 t406 t407 t408 _ A26.out).mono ?_
             rintro e w38 ⟨rfl, hb⟩
             refine ⟨_, rfl, ?_⟩
             have n0_ := Am (Kd.R_below (kW HO_10) hb)
             have n1_ := Am (Kd.R_below (kW HO_28) hb)
             have hp0 := pA BK396 hb
             have hv := vK HB hb
             have n6_ := Am (bT hv hb)
             clear HO_10 HO_28 HB
             have HO_10 := n0_; have HO_28 := n1_
             replace BK396 := hp0 BK396; replace BK397 := hp0 BK397; replace BK398 := hp0 BK398; replace BK405 := hp0 BK405
             have HB := n6_
             clear n0_ n1_ n6_ hp0 hv
             (try clear hb)
             refine hK.out _ _ ⟨c30 BK396.out, c31 BK396.out, c32 BK396.out, c30 BK398.out, c31 BK398.out, c32 BK398.out, c20 BK405.out, c21 BK405.out⟩ (fun hHeld => ?_)
             clear hK K
             refine norm_ (a' := ?_) ?_ ?_
             rotate_left
             ·show Act.put _ (some 37) _ = _
              simp only [Act.put, List.setIfInBounds_toArray, List.set_cons_zero, List.set_cons_succ, i64_w, i32_w]
              rfl
             refine two_ (i := 4) (j := 8) (Ni := some 39) (Nj := some 13) (pT 11 5) #[true, true, true, true, false, false, false, false, true, false, false] rfl rfl rfl rfl (two_of HT_.out (by kernel_rfl)) (by decide) (by decide) (fun K hK => ?_) (fun K hK => ?_)
             ·skip
              refine goes_ Try.func36 (by kernel_rfl) rfl #[.agg #[.int .i64 t406, .int .i64 t407, .int .i64 t408], .agg #[.int .i64 ((rd_T23 t399 x30_2).f0), .int .i64 ((rd_T23 t399 x30_2).f1)]] (by rfl) rfl rfl (by (try simp only [List.map_toArray, List.map_cons, List.map_nil]); first | done | rfl | (simp only [List.length_drop, List.length_take]; rfl)) ?_
              with_reducible refine (spec_meAt.calls k2 t406 t407 t408 ((rd_T23 t399 x30_2).f0) ((rd_T23 t399 x30_2).f1) t409 t410 true _ A27.out).mono ?_
              rintro e w39 ⟨rfl, hb⟩
              refine ⟨_, rfl, ?_⟩
              have n0_ := Am (Kd.R_below (kW HO_10) hb)
              have n1_ := Am (Kd.R_below (kW HO_28) hb)
              have hp0 := pA BK396 hb
              have hv := vK HB hb
              have n6_ := Am (bT hv hb)
              clear HO_10 HO_28 HB
              have HO_10 := n0_; have HO_28 := n1_
              replace BK396 := hp0 BK396; replace BK397 := hp0 BK397; replace BK398 := hp0 BK398; replace BK405 := hp0 BK405
              have HB := n6_
              clear n0_ n1_ n6_ hp0 hv
              (try clear hb)
              refine hK.out _ _ ⟨c30 BK396.out, c31 BK396.out, c32 BK396.out, c30 BK398.out, c31 BK398.out, c32 BK398.out, c20 BK405.out, c21 BK405.out⟩ (fun hHeld => ?_)
              clear hK K
              refine norm_ (a' := ?_) ?_ ?_
              rotate_left
              ·show Act.put _ (some 39) _ = _
               simp only [Act.put, List.setIfInBounds_toArray, List.set_cons_zero, List.set_cons_succ, i64_w, i32_w]
               rfl
              iterate 3
               refine pI (v := ?_) (a' := ?_) rfl (any_of HT_.out (by kernel_rfl)) (fun _ _ _ h => h) (Or.inl ⟨by rfl, ?_⟩) ?_ ?_
               rotate_left
               ·intro w'
                go_simp
                with_reducible rfl
               rotate_left
               ·show Act.put _ (some _) _ = _
                simp only [Act.put, List.setIfInBounds_toArray, List.set_cons_zero, List.set_cons_succ, i64_w, i32_w]
                rfl
              refine one_ (i := 8) (N := some 13) (pT 11 9) rfl rfl (one_of HT_.out (by kernel_rfl)) (by decide) (fun K hK => ?_)
              refine box_step ?hg (N := 13) ?hd (cs := #[.int .i64 0, .int .i64 0]) (t := 23) ?hr ?_; (case hd => rfl); (case hg => rfl); (case hr => first | (go_simp; done) | (go_simp; rfl))
              intro gb412 hg w40 hbox hb
              have n0_ := Am (Kd.R_below (Kd.R_elderB (kW HO_10) gb412 (Nat.le_of_eq hg.symm)) hb)
              have n1_ := Am (Kd.R_below (Kd.R_elderB (kW HO_28) gb412 (Nat.le_of_eq hg.symm)) hb)
              have hp0 := pA BK396 hb
              have hv := vK HB hb
              have n6_ := Am (bT hv hb)
              have n7_ := Am (hbox)
              have GW412 := kG hg hv
              have GE412 := kG hg hv
              have hp1 := pK BK396 hb
              obtain ⟨NB396_412, NB412_396⟩ := kXY hg hp1 BK396
              obtain ⟨NB397_412, NB412_397⟩ := kXY hg hp1 BK397
              obtain ⟨NB398_412, NB412_398⟩ := kXY hg hp1 BK398
              obtain ⟨NB405_412, NB412_405⟩ := kXY hg hp1 BK405
              clear HO_10 HO_28 HB
              have HO_10 := n0_; have HO_28 := n1_
              replace BK396 := hp0 BK396; replace BK397 := hp0 BK397; replace BK398 := hp0 BK398; replace BK405 := hp0 BK405
              have HB := n6_; have BK412 := n7_
              clear n6_ n7_ hp0 hp1 hv hb hbox hg
              refine hK.out _ _ ⟨c30 BK396.out, c31 BK396.out, c32 BK396.out, c30 BK398.out, c31 BK398.out, c32 BK398.out, c20 BK405.out, c21 BK405.out⟩ (fun hHeld => ?_)
              clear hK K
              refine norm_ (a' := ?_) ?_ ?_
              rotate_left
              ·show Act.put _ (some 13) _ = _
               simp only [Act.put, List.setIfInBounds_toArray, List.set_cons_zero, List.set_cons_succ, i64_w, i32_w]
               rfl
              exact norm_ (by simp only [putAll, Act.put, List.setIfInBounds_toArray, List.set_cons_zero, List.set_cons_succ]) (hCont (gb412) _ ⟨hHeld, (by (with_reducible repeat (first | apply Kd.R_alloc | apply Kd.R_drewN | apply Kd.R_drew)); exact Kd.R_mono HO_10.out (fun _ hk => ⟨hk.1.1, ⟨hk.1.2, hk.2⟩⟩)), (by (with_reducible repeat (first | apply Kd.R_alloc | apply Kd.R_drewN | apply Kd.R_drew)); exact Kd.R_mono HO_28.out (fun _ hk => ⟨hk.1.1, ⟨hk.1.2, hk.2⟩⟩)), (kU BK396), (kU BK397), (kU BK398), (kU BK405), (kU BK412), GW412.out, GE412.out, NB396_412.out, NB412_396.out, NB397_412.out, NB412_397.out, NB398_412.out, NB412_398.out, NB405_412.out, NB412_405.out, (by repeat (first | (with_reducible first | exact HB.out | apply bA | apply bN | apply bD | refine bX ?_ (by assumption)) | exact HB.out))⟩)
             skip
             refine box_step ?hg (N := 13) ?hd (cs := #[.int .i64 0, .int .i64 0]) (t := 23) ?hr ?_; (case hd => rfl); (case hg => rfl); (case hr => first | (go_simp; done) | (go_simp; rfl))
             intro gb412 hg w39 hbox hb
             have n0_ := Am (Kd.R_below (Kd.R_elderB (kW HO_10) gb412 (Nat.le_of_eq hg.symm)) hb)
             have n1_ := Am (Kd.R_below (Kd.R_elderB (kW HO_28) gb412 (Nat.le_of_eq hg.symm)) hb)
             have hp0 := pA BK396 hb
             have hv := vK HB hb
             have n6_ := Am (bT hv hb)
             have n7_ := Am (hbox)
             have GW412 := kG hg hv
             have GE412 := kG hg hv
             have hp1 := pK BK396 hb
             obtain ⟨NB396_412, NB412_396⟩ := kXY hg hp1 BK396
             obtain ⟨NB397_412, NB412_397⟩ := kXY hg hp1 BK397
             obtain ⟨NB398_412, NB412_398⟩ := kXY hg hp1 BK398
             obtain ⟨NB405_412, NB412_405⟩ := kXY hg hp1 BK405
             clear HO_10 HO_28 HB
             have HO_10 := n0_; have HO_28 := n1_
             replace BK396 := hp0 BK396; replace BK397 := hp0 BK397; replace BK398 := hp0 BK398; replace BK405 := hp0 BK405
             have HB := n6_; have BK412 := n7_
             clear n6_ n7_ hp0 hp1 hv hb hbox hg
             refine hK.out _ _ ⟨c30 BK396.out, c31 BK396.out, c32 BK396.out, c30 BK398.out, c31 BK398.out, c32 BK398.out, c20 BK405.out, c21 BK405.out⟩ (fun hHeld => ?_)
             clear hK K
             refine norm_ (a' := ?_) ?_ ?_
             rotate_left
             ·show Act.put _ (some 13) _ = _
              simp only [Act.put, List.setIfInBounds_toArray, List.set_cons_zero, List.set_cons_succ, i64_w, i32_w]
              rfl
             refine one_ (i := 4) (N := some 39) #[true, true, true, true, true, false, false, false, true, false, false] rfl rfl (one_of HT_.out (by kernel_rfl)) (by decide) (fun K hK => ?_)
             refine goes_ Try.func36 (by kernel_rfl) rfl #[.agg #[.int .i64 t406, .int .i64 t407, .int .i64 t408], .agg #[.int .i64 ((rd_T23 t399 x30_2).f0), .int .i64 ((rd_T23 t399 x30_2).f1)]] (by rfl) rfl rfl (by (try simp only [List.map_toArray, List.map_cons, List.map_nil]); first | done | rfl | (simp only [List.length_drop, List.length_take]; rfl)) ?_
             with_reducible refine (spec_meAt.calls k2 t406 t407 t408 ((rd_T23 t399 x30_2).f0) ((rd_T23 t399 x30_2).f1) t409 t410 true _ A27.out).mono ?_
             rintro e w40 ⟨rfl, hb⟩
             refine ⟨_, rfl, ?_⟩
             have n0_ := Am (Kd.R_below (kW HO_10) hb)
             have n1_ := Am (Kd.R_below (kW HO_28) hb)
             have hp0 := pA BK396 hb
             have hv := vK HB hb
             have n7_ := Am (bT hv hb)
             clear HO_10 HO_28 HB
             have HO_10 := n0_; have HO_28 := n1_
             replace BK396 := hp0 BK396; replace BK397 := hp0 BK397; replace BK398 := hp0 BK398; replace BK405 := hp0 BK405; replace BK412 := hp0 BK412
             have HB := n7_
             clear n0_ n1_ n7_ hp0 hv
             (try clear hb)
             refine hK.out _ _ ⟨c30 BK396.out, c31 BK396.out, c32 BK396.out, c30 BK398.out, c31 BK398.out, c32 BK398.out, c20 BK405.out, c21 BK405.out⟩ (fun hHeld => ?_)
             clear hK K
             refine norm_ (a' := ?_) ?_ ?_
             rotate_left
             ·show Act.put _ (some 39) _ = _
              simp only [Act.put, List.setIfInBounds_toArray, List.set_cons_zero, List.set_cons_succ, i64_w, i32_w]
              rfl
             refine pure_ (i := 5) (N := some 34) (v := ?_) (a' := ?_) #[true, true, true, true, true, true, false, false, true, false, false] rfl rfl (any_of HT_.out (by kernel_rfl)) (fun _ _ _ h => h) (Or.inl ⟨by rfl, ?_⟩) ?_ ?_
             rotate_left
             ·intro w'
              go_simp
              with_reducible rfl
             rotate_left
             ·simp only [Act.put, List.setIfInBounds_toArray, List.set_cons_zero, List.set_cons_succ, i64_w, i32_w]
              rfl
             refine pure_ (i := 6) (N := some 40) (v := ?_) (a' := ?_) #[true, true, true, true, true, true, true, false, true, false, false] rfl rfl (any_of HT_.out (by kernel_rfl)) (fun _ _ _ h => h) (Or.inl ⟨by rfl, ?_⟩) ?_ ?_
             rotate_left
             ·intro w'
              go_simp
              with_reducible rfl
             rotate_left
             ·simp only [Act.put, List.setIfInBounds_toArray, List.set_cons_zero, List.set_cons_succ, i64_w, i32_w]
              rfl
             refine pure_ (i := 7) (N := some 41) (v := ?_) (a' := ?_) (pT 11 9) rfl rfl (any_of HT_.out (by kernel_rfl)) (fun _ _ _ h => h) (Or.inl ⟨by rfl, ?_⟩) ?_ ?_
             rotate_left
             ·intro w'
              go_simp
              with_reducible rfl
             rotate_left
             ·simp only [Act.put, List.setIfInBounds_toArray, List.set_cons_zero, List.set_cons_succ, i64_w, i32_w]
              rfl
             exact norm_ (by simp only [putAll, Act.put, List.setIfInBounds_toArray, List.set_cons_zero, List.set_cons_succ]) (hCont (gb412) _ ⟨hHeld, (by (with_reducible repeat (first | apply Kd.R_alloc | apply Kd.R_drewN | apply Kd.R_drew)); exact Kd.R_mono HO_10.out (fun _ hk => ⟨hk.1.1, ⟨hk.1.2, hk.2⟩⟩)), (by (with_reducible repeat (first | apply Kd.R_alloc | apply Kd.R_drewN | apply Kd.R_drew)); exact Kd.R_mono HO_28.out (fun _ hk => ⟨hk.1.1, ⟨hk.1.2, hk.2⟩⟩)), (kU BK396), (kU BK397), (kU BK398), (kU BK405), (kU BK412), GW412.out, GE412.out, NB396_412.out, NB412_396.out, NB397_412.out, NB412_397.out, NB398_412.out, NB412_398.out, NB405_412.out, NB412_405.out, (by repeat (first | (with_reducible first | exact HB.out | apply bA | apply bN | apply bD | refine bX ?_ (by assumption)) | exact HB.out))⟩)
            skip
            refine box_step ?hg (N := 13) ?hd (cs := #[.int .i64 0, .int .i64 0]) (t := 23) ?hr ?_; (case hd => rfl); (case hg => rfl); (case hr => first | (go_simp; done) | (go_simp; rfl))
            intro gb412 hg w38 hbox hb
            have n0_ := Am (Kd.R_below (Kd.R_elderB (kW HO_10) gb412 (Nat.le_of_eq hg.symm)) hb)
            have n1_ := Am (Kd.R_below (Kd.R_elderB (kW HO_28) gb412 (Nat.le_of_eq hg.symm)) hb)
            have hp0 := pA BK396 hb
            have hv := vK HB hb
            have n6_ := Am (bT hv hb)
            have n7_ := Am (hbox)
            have GW412 := kG hg hv
            have GE412 := kG hg hv
            have hp1 := pK BK396 hb
            obtain ⟨NB396_412, NB412_396⟩ := kXY hg hp1 BK396
            obtain ⟨NB397_412, NB412_397⟩ := kXY hg hp1 BK397
            obtain ⟨NB398_412, NB412_398⟩ := kXY hg hp1 BK398
            obtain ⟨NB405_412, NB412_405⟩ := kXY hg hp1 BK405
            clear HO_10 HO_28 HB
            have HO_10 := n0_; have HO_28 := n1_
            replace BK396 := hp0 BK396; replace BK397 := hp0 BK397; replace BK398 := hp0 BK398; replace BK405 := hp0 BK405
            have HB := n6_; have BK412 := n7_
            clear n6_ n7_ hp0 hp1 hv hb hbox hg
            refine hK.out _ _ ⟨c30 BK396.out, c31 BK396.out, c32 BK396.out, c30 BK398.out, c31 BK398.out, c32 BK398.out, c20 BK405.out, c21 BK405.out⟩ (fun hHeld => ?_)
            clear hK K
            refine norm_ (a' := ?_) ?_ ?_
            rotate_left
            ·show Act.put _ (some 13) _ = _
             simp only [Act.put, List.setIfInBounds_toArray, List.set_cons_zero, List.set_cons_succ, i64_w, i32_w]
             rfl
            refine one_ (i := 2) (N := some 37) #[true, true, true, true, false, false, false, false, true, false, false] rfl rfl (one_of HT_.out (by kernel_rfl)) (by decide) (fun K hK => ?_)
            refine goes_ Try.func28 (by kernel_rfl) rfl #[.agg #[.int .i64 a0_0, .int .i64 a0_1, .int .i64 a0_2], .agg #[.int .i64 a2_0, .int .i64 a2_1, .int .i64 a2_2]] (by rfl) rfl rfl (by (try simp only [List.map_toArray, List.map_cons, List.map_nil]); first | done | rfl | (simp only [List.length_drop, List.length_take]; rfl)) ?_
            with_reducible refine (spec_meRelative.calls k2 a0_0 a0_1 a0_2 a2_0 a2_1 a2_2 t406 t407 t408 _ A26.out).mono ?_
            rintro e w39 ⟨rfl, hb⟩
            refine ⟨_, rfl, ?_⟩
            have n0_ := Am (Kd.R_below (kW HO_10) hb)
            have n1_ := Am (Kd.R_below (kW HO_28) hb)
            have hp0 := pA BK396 hb
            have hv := vK HB hb
            have n7_ := Am (bT hv hb)
            clear HO_10 HO_28 HB
            have HO_10 := n0_; have HO_28 := n1_
            replace BK396 := hp0 BK396; replace BK397 := hp0 BK397; replace BK398 := hp0 BK398; replace BK405 := hp0 BK405; replace BK412 := hp0 BK412
            have HB := n7_
            clear n0_ n1_ n7_ hp0 hv
            (try clear hb)
            refine hK.out _ _ ⟨c30 BK396.out, c31 BK396.out, c32 BK396.out, c30 BK398.out, c31 BK398.out, c32 BK398.out, c20 BK405.out, c21 BK405.out⟩ (fun hHeld => ?_)
            clear hK K
            refine norm_ (a' := ?_) ?_ ?_
            rotate_left
            ·show Act.put _ (some 37) _ = _
             simp only [Act.put, List.setIfInBounds_toArray, List.set_cons_zero, List.set_cons_succ, i64_w, i32_w]
             rfl
            refine one_ (i := 4) (N := some 39) #[true, true, true, true, true, false, false, false, true, false, false] rfl rfl (one_of HT_.out (by kernel_rfl)) (by decide) (fun K hK => ?_)
            refine goes_ Try.func36 (by kernel_rfl) rfl #[.agg #[.int .i64 t406, .int .i64 t407, .int .i64 t408], .agg #[.int .i64 ((rd_T23 t399 x30_2).f0), .int .i64 ((rd_T23 t399 x30_2).f1)]] (by rfl) rfl rfl (by (try simp only [List.map_toArray, List.map_cons, List.map_nil]); first | done | rfl | (simp only [List.length_drop, List.length_take]; rfl)) ?_
            with_reducible refine (spec_meAt.calls k2 t406 t407 t408 ((rd_T23 t399 x30_2).f0) ((rd_T23 t399 x30_2).f1) t409 t410 true _ A27.out).mono ?_
            rintro e w40 ⟨rfl, hb⟩
            refine ⟨_, rfl, ?_⟩
            have n0_ := Am (Kd.R_below (kW HO_10) hb)
            have n1_ := Am (Kd.R_below (kW HO_28) hb)
            have hp0 := pA BK396 hb
            have hv := vK HB hb
            have n7_ := Am (bT hv hb)
            clear HO_10 HO_28 HB
            have HO_10 := n0_; have HO_28 := n1_
            replace BK396 := hp0 BK396; replace BK397 := hp0 BK397; replace BK398 := hp0 BK398; replace BK405 := hp0 BK405; replace BK412 := hp0 BK412
            have HB := n7_
            clear n0_ n1_ n7_ hp0 hv
            (try clear hb)
            refine hK.out _ _ ⟨c30 BK396.out, c31 BK396.out, c32 BK396.out, c30 BK398.out, c31 BK398.out, c32 BK398.out, c20 BK405.out, c21 BK405.out⟩ (fun hHeld => ?_)
            clear hK K
            refine norm_ (a' := ?_) ?_ ?_
            rotate_left
            ·show Act.put _ (some 39) _ = _
             simp only [Act.put, List.setIfInBounds_toArray, List.set_cons_zero, List.set_cons_succ, i64_w, i32_w]
             rfl
            refine pure_ (i := 5) (N := some 34) (v := ?_) (a' := ?_) #[true, true, true, true, true, true, false, false, true, false, false] rfl rfl (any_of HT_.out (by kernel_rfl)) (fun _ _ _ h => h) (Or.inl ⟨by rfl, ?_⟩) ?_ ?_
            rotate_left
            ·intro w'
             go_simp
             with_reducible rfl
            rotate_left
            ·simp only [Act.put, List.setIfInBounds_toArray, List.set_cons_zero, List.set_cons_succ, i64_w, i32_w]
             rfl
            refine pure_ (i := 6) (N := some 40) (v := ?_) (a' := ?_) #[true, true, true, true, true, true, true, false, true, false, false] rfl rfl (any_of HT_.out (by kernel_rfl)) (fun _ _ _ h => h) (Or.inl ⟨by rfl, ?_⟩) ?_ ?_
            rotate_left
            ·intro w'
             go_simp
             with_reducible rfl
            rotate_left
            ·simp only [Act.put, List.setIfInBounds_toArray, List.set_cons_zero, List.set_cons_succ, i64_w, i32_w]
             rfl
            refine pure_ (i := 7) (N := some 41) (v := ?_) (a' := ?_) (pT 11 9) rfl rfl (any_of HT_.out (by kernel_rfl)) (fun _ _ _ h => h) (Or.inl ⟨by rfl, ?_⟩) ?_ ?_
            rotate_left
            ·intro w'
             go_simp
             with_reducible rfl
            rotate_left
            ·simp only [Act.put, List.setIfInBounds_toArray, List.set_cons_zero, List.set_cons_succ, i64_w, i32_w]
             rfl
            exact norm_ (by simp only [putAll, Act.put, List.setIfInBounds_toArray, List.set_cons_zero, List.set_cons_succ]) (hCont (gb412) _ ⟨hHeld, (by (with_reducible repeat (first | apply Kd.R_alloc | apply Kd.R_drewN | apply Kd.R_drew)); exact Kd.R_mono HO_10.out (fun _ hk => ⟨hk.1.1, ⟨hk.1.2, hk.2⟩⟩)), (by (with_reducible repeat (first | apply Kd.R_alloc | apply Kd.R_drewN | apply Kd.R_drew)); exact Kd.R_mono HO_28.out (fun _ hk => ⟨hk.1.1, ⟨hk.1.2, hk.2⟩⟩)), (kU BK396), (kU BK397), (kU BK398), (kU BK405), (kU BK412), GW412.out, GE412.out, NB396_412.out, NB412_396.out, NB397_412.out, NB412_397.out, NB398_412.out, NB412_398.out, NB405_412.out, NB412_405.out, (by repeat (first | (with_reducible first | exact HB.out | apply bA | apply bN | apply bD | refine bX ?_ (by assumption)) | exact HB.out))⟩)
           rintro gb412 w41 ⟨hS_, h0_, h1_, h2_, h3_, h4_, h5_, h6_, h7_, h8_, h9_, h10_, h11_, h12_, h13_, h14_, h15_, h16_, h17_⟩
           have n0_ : Aside0 (Kd.R k23 23 w41 w.heap.size (fun k_ => some k_ ≠ (.slice (some ad404) t399.length co22 : Value).ownBlock ∧ k_ ≠ gb405 ∧ k_ ≠ gb412) u10 x10_2) := ⟨h0_⟩
           have n1_ : Aside0 (Kd.R k23 23 w41 w.heap.size (fun k_ => some k_ ≠ (u10 : Value).ownBlock ∧ k_ ≠ gb405 ∧ k_ ≠ gb412) (.slice (some ad404) t399.length co22) t399) := ⟨h1_⟩
           have n2_ : Aside0 (w41.heap[gb396]? = some (.cells #[.int .i64 a0_0, .int .i64 a0_1, .int .i64 a0_2] 25 (0, 0))) := ⟨h2_⟩
           have n3_ : Aside0 (w41.heap[gb397]? = some (.cells #[.int .i64 a1_0, .int .i64 a1_1, .int .i64 a1_2] 25 (0, 0))) := ⟨h3_⟩
           have n4_ : Aside0 (w41.heap[gb398]? = some (.cells #[.int .i64 a2_0, .int .i64 a2_1, .int .i64 a2_2] 25 (0, 0))) := ⟨h4_⟩
           have n5_ : Aside0 (w41.heap[gb405]? = some (.cells #[.int .i64 ((rd_T23 t399 x30_2).f0), .int .i64 ((rd_T23 t399 x30_2).f1)] 23 (0, 0))) := ⟨h5_⟩
           have n6_ : Aside0 (w41.heap[gb412]? = some (.cells #[.int .i64 0, .int .i64 0] 23 (0, 0))) := ⟨h6_⟩
           have n7_ : Aside0 (w.heap.size ≤ gb412) := ⟨h7_⟩
           have n8_ : Aside0 (w.heap.size ≤ gb412) := ⟨h8_⟩
           have n9_ : Aside0 (gb396 ≠ gb412) := ⟨h9_⟩
           have n10_ : Aside0 (gb412 ≠ gb396) := ⟨h10_⟩
           have n11_ : Aside0 (gb397 ≠ gb412) := ⟨h11_⟩
           have n12_ : Aside0 (gb412 ≠ gb397) := ⟨h12_⟩
           have n13_ : Aside0 (gb398 ≠ gb412) := ⟨h13_⟩
           have n14_ : Aside0 (gb412 ≠ gb398) := ⟨h14_⟩
           have n15_ : Aside0 (gb405 ≠ gb412) := ⟨h15_⟩
           have n16_ : Aside0 (gb412 ≠ gb405) := ⟨h16_⟩
           have n17_ : Aside0 (Below w.heap.size w w41) := ⟨h17_⟩
           clear HO_10 HO_28 BK396 BK397 BK398 BK405 HB h0_ h1_ h2_ h3_ h4_ h5_ h6_ h7_ h8_ h9_ h10_ h11_ h12_ h13_ h14_ h15_ h16_ h17_
           have HO_10 := n0_; have HO_28 := n1_; have BK396 := n2_; have BK397 := n3_; have BK398 := n4_; have BK405 := n5_; have BK412 := n6_; have GW412 := n7_; have GE412 := n8_; have NB396_412 := n9_; have NB412_396 := n10_; have NB397_412 := n11_; have NB412_397 := n12_; have NB398_412 := n13_; have NB412_398 := n14_; have NB405_412 := n15_; have NB412_405 := n16_; have HB := n17_
           clear n0_ n1_ n2_ n3_ n4_ n5_ n6_ n7_ n8_ n9_ n10_ n11_ n12_ n13_ n14_ n15_ n16_ n17_
           have hHeld : w41.cell? ⟨gb396, 0, none⟩ = some (.int .i64 a0_0) ∧ w41.cell? ⟨gb396, 1, none⟩ = some (.int .i64 a0_1) ∧ w41.cell? ⟨gb396, 2, none⟩ = some (.int .i64 a0_2) ∧ w41.cell? ⟨gb398, 0, none⟩ = some (.int .i64 a2_0) ∧ w41.cell? ⟨gb398, 1, none⟩ = some (.int .i64 a2_1) ∧ w41.cell? ⟨gb398, 2, none⟩ = some (.int .i64 a2_2) ∧ w41.cell? ⟨gb405, 0, none⟩ = some (.int .i64 ((rd_T23 t399 x30_2).f0)) ∧ w41.cell? ⟨gb405, 1, none⟩ = some (.int .i64 ((rd_T23 t399 x30_2).f1)) := hS_
           refine norm_ (a' := ?_) ?_ ?_
           rotate_left
           ·simp only [putAll, Act.put, List.setIfInBounds_toArray, List.set_cons_zero, List.set_cons_succ]
            rfl
           refine one_ (i := 9) (N := none) (pT 11 10) rfl rfl (one_of HT_.out (by kernel_rfl)) (by decide) (fun K hK => ?_)
           have hs42 : w41.cell? ⟨gb412, 0, none⟩ = some (.int .i64 0) := c20 BK412.out
           have hfs42 := kF BK412.out 0
           have hns42_0 := NB396_412.out; have hns42_1 := NB397_412.out; have hns42_2 := NB398_412.out; have hns42_3 := NB405_412.out; have hms42_0 := NB412_396.out; have hms42_1 := NB412_397.out; have hms42_2 := NB412_398.out; have hms42_3 := NB412_405.out
           have hs43 : w41.cell? ⟨gb412, 1, none⟩ = some (.int .i64 0) := c21 BK412.out
           have hfs43 := kF BK412.out 1
           have hns43_0 := NB396_412.out; have hns43_1 := NB397_412.out; have hns43_2 := NB398_412.out; have hns43_3 := NB405_412.out; have hms43_0 := NB412_396.out; have hms43_1 := NB412_397.out; have hms43_2 := NB412_398.out; have hms43_3 := NB412_405.out
           refine skip_ (w1 := ?_) (by rfl) rfl ?_ ?_
           rotate_left
           ·go_simp
            rfl
           refine hK.out _ _ ⟨((cell_far (p := ⟨gb412, _, none⟩) NB396_412.out _).trans (((cell_far (p := ⟨gb412, _, none⟩) NB396_412.out _).trans (hHeld.1)))), ((cell_far (p := ⟨gb412, _, none⟩) NB396_412.out _).trans (((cell_far (p := ⟨gb412, _, none⟩) NB396_412.out _).trans (hHeld.2.1)))), ((cell_far (p := ⟨gb412, _, none⟩) NB396_412.out _).trans (((cell_far (p := ⟨gb412, _, none⟩) NB396_412.out _).trans (hHeld.2.2.1)))), ((cell_far (p := ⟨gb412, _, none⟩) NB398_412.out _).trans (((cell_far (p := ⟨gb412, _, none⟩) NB398_412.out _).trans (hHeld.2.2.2.1)))), ((cell_far (p := ⟨gb412, _, none⟩) NB398_412.out _).trans (((cell_far (p := ⟨gb412, _, none⟩) NB398_412.out _).trans (hHeld.2.2.2.2.1)))), ((cell_far (p := ⟨gb412, _, none⟩) NB398_412.out _).trans (((cell_far (p := ⟨gb412, _, none⟩) NB398_412.out _).trans (hHeld.2.2.2.2.2.1)))), ((cell_far (p := ⟨gb412, _, none⟩) NB405_412.out _).trans (((cell_far (p := ⟨gb412, _, none⟩) NB405_412.out _).trans (hHeld.2.2.2.2.2.2.1)))), ((cell_far (p := ⟨gb412, _, none⟩) NB405_412.out _).trans (((cell_far (p := ⟨gb412, _, none⟩) NB405_412.out _).trans (hHeld.2.2.2.2.2.2.2))))⟩ (fun hHeld => ?_)
           clear hK K
           refine pI (v := ?_) (a' := ?_) rfl (any_of HT_.out (by kernel_rfl)) (fun _ _ _ h => h) (Or.inl ⟨by rfl, ?_⟩) ?_ ?_
           rotate_left
           ·intro w'
            go_simp
            with_reducible rfl
           rotate_left
           ·show Act.put _ (some _) _ = _
            simp only [Act.put, List.setIfInBounds_toArray, List.set_cons_zero, List.set_cons_succ, i64_w, i32_w]
            rfl
           refine done_ (done_of HT_.out (by kernel_rfl)) ?_
           have u44 := kO NB412_396; have u45 := kO NB412_397; have u46 := kO NB412_398; have u47 := kO NB412_405
           have z48 := c2 BK412
           have hcz49_0 : w41.cell? ⟨gb405, 0, none⟩ = some (.int .i64 ((rd_T23 t399 x30_2).f0)) := c20 BK405.out
           have hcz49_1 : w41.cell? ⟨gb405, 1, none⟩ = some (.int .i64 ((rd_T23 t399 x30_2).f1)) := c21 BK405.out
           have hfz49_0 := kF BK405.out 0
           have hfz49_1 := kF BK405.out 1
           try go_wp2_with (first | ((with_reducible refine gate_builtin (b := .append) (xs := #[.tmp 48, .tmp 50]) rfl ?_); at_builtin; refine Kd.R_append k23 (w0 := w) w.heap.size rfl (.tmp 48) (.tmp 50) 26 23 (.agg #[(.int .i64 0), (.int .i64 0)]) 16 rfl Try.underlying26 info23 rfl (by decide) (by omega) u10 x10_2 (⟨(rd_T23 t399 x30_2).f0, (rd_T23 t399 x30_2).f1⟩ : S23) [.int .i64 ((rd_T23 t399 x30_2).f0), .int .i64 ((rd_T23 t399 x30_2).f1)] (fun k_ => some k_ ≠ (.slice (some ad404) t399.length co22 : Value).ownBlock ∧ k_ ≠ gb405 ∧ k_ ≠ gb412) (fun _ => False) rfl (by first | (go_simp; done) | (go_simp; rfl)) ?aP (fun _ hk => hk.elim) ?aF ?aO ?aB ?aS ?aL ?_; (case aP => exact k23_mkM _ _ _ (⟨(rd_T23 t399 x30_2).f0, (rd_T23 t399 x30_2).f1⟩ : S23)); (case aB => exact (by repeat (first | (with_reducible first | exact HB.out | apply bA | apply bN | apply bD | refine bX ?_ (by assumption)) | exact HB.out))); (case aF => exact (fun k_ hk => ⟨Kd.fresh' (Kd.R_lt (by (with_reducible repeat (first | apply Kd.R_alloc | apply Kd.R_drewN | apply Kd.R_drew)); exact (Kd.R_mono (Kd.R_far (p := ⟨gb412, 1, none⟩) (Kd.R_far (p := ⟨gb412, 0, none⟩) (Kd.R_mono HO_28.out (fun k_ hk => (⟨hk, hk.2.2⟩ : _ ∧ k_ ≠ gb412))) (fun _ hk => hk.2) (.int .i64 t409)) (fun _ hk => hk.2) (.int .i64 t410)) (fun _ h_ => h_.1)))) k_ hk, Kd.freshB (g := gb405) (o := .cells #[.int .i64 ((rd_T23 t399 x30_2).f0), .int .i64 ((rd_T23 t399 x30_2).f1)] 23 (0, 0)) (by (with_reducible repeat (first | refine kN ?_ _ | refine kD ?_ | refine kA ?_ _)); refine kR ?_ NB405_412.out _; (with_reducible repeat (first | refine kN ?_ _ | refine kD ?_ | refine kA ?_ _)); refine kR ?_ NB405_412.out _; (with_reducible repeat (first | refine kN ?_ _ | refine kD ?_ | refine kA ?_ _)); exact BK405.out) k_ hk, Kd.freshB (g := gb412) (o := .cells #[.int .i64 t409, .int .i64 t410] 23 (0, 0)) (by (with_reducible repeat (first | refine kN ?_ _ | refine kD ?_ | refine kA ?_ _)); refine kP (cs := #[.int .i64 t409, .int .i64 0]) ?_ 1 _ rfl; (with_reducible repeat (first | refine kN ?_ _ | refine kD ?_ | refine kA ?_ _)); refine kP (cs := #[.int .i64 0, .int .i64 0]) ?_ 0 _ rfl; (with_reducible repeat (first | refine kN ?_ _ | refine kD ?_ | refine kA ?_ _)); exact BK412.out) k_ hk⟩)); (case aO => exact (by (with_reducible repeat (first | apply Kd.R_alloc | apply Kd.R_drewN | apply Kd.R_drew)); exact Kd.R_mono (Kd.R_far (p := ⟨gb412, 1, none⟩) (Kd.R_far (p := ⟨gb412, 0, none⟩) (Kd.R_mono HO_10.out (fun k_ hk => (⟨hk, hk.2.2⟩ : _ ∧ k_ ≠ gb412))) (fun _ hk => hk.2) (.int .i64 t409)) (fun _ hk => hk.2) (.int .i64 t410)) (fun _ hk => ⟨hk.1.1, ⟨hk.1.2.1, hk.1.2.2⟩⟩))); (case aS => exact (bZ (by repeat (first | (with_reducible first | exact HB.out | apply bA | apply bN | apply bD | refine bX ?_ (by assumption)) | exact HB.out)))); (case aL => have := LMc30.out; omega); intro v414 w50 ho hb hg hat; rw [← Ny413.out] at ho; have n0_ := Am (Kd.R_after (ok := (fun k_ => k_ ≠ gb405 ∧ k_ ≠ gb412)) (by (with_reducible repeat (first | apply Kd.R_alloc | apply Kd.R_drewN | apply Kd.R_drew)); exact Kd.R_mono (Kd.R_far (p := ⟨gb412, 1, none⟩) (Kd.R_far (p := ⟨gb412, 0, none⟩) (Kd.R_mono HO_28.out (fun k_ hk => (⟨hk, hk.2.2⟩ : _ ∧ k_ ≠ gb412))) (fun _ hk => hk.2) (.int .i64 t409)) (fun _ hk => hk.2) (.int .i64 t410)) (fun _ hk => ⟨⟨hk.1.2.1, hk.1.2.2⟩, hk.1.1⟩)) hg hat); have n1_ := Am (blk_grown (g := gb396) (o := .cells #[.int .i64 a0_0, .int .i64 a0_1, .int .i64 a0_2] 25 (0, 0)) (by (with_reducible repeat (first | refine kN ?_ _ | refine kD ?_ | refine kA ?_ _)); refine kR ?_ NB396_412.out _; (with_reducible repeat (first | refine kN ?_ _ | refine kD ?_ | refine kA ?_ _)); refine kR ?_ NB396_412.out _; (with_reducible repeat (first | refine kN ?_ _ | refine kD ?_ | refine kA ?_ _)); exact BK396.out) hg (Kd.R_ne HO_10.out BK396.out (by decide))); have n2_ := Am (blk_grown (g := gb397) (o := .cells #[.int .i64 a1_0, .int .i64 a1_1, .int .i64 a1_2] 25 (0, 0)) (by (with_reducible repeat (first | refine kN ?_ _ | refine kD ?_ | refine kA ?_ _)); refine kR ?_ NB397_412.out _; (with_reducible repeat (first | refine kN ?_ _ | refine kD ?_ | refine kA ?_ _)); refine kR ?_ NB397_412.out _; (with_reducible repeat (first | refine kN ?_ _ | refine kD ?_ | refine kA ?_ _)); exact BK397.out) hg (Kd.R_ne HO_10.out BK397.out (by decide))); have n3_ := Am (blk_grown (g := gb398) (o := .cells #[.int .i64 a2_0, .int .i64 a2_1, .int .i64 a2_2] 25 (0, 0)) (by (with_reducible repeat (first | refine kN ?_ _ | refine kD ?_ | refine kA ?_ _)); refine kR ?_ NB398_412.out _; (with_reducible repeat (first | refine kN ?_ _ | refine kD ?_ | refine kA ?_ _)); refine kR ?_ NB398_412.out _; (with_reducible repeat (first | refine kN ?_ _ | refine kD ?_ | refine kA ?_ _)); exact BK398.out) hg (Kd.R_ne HO_10.out BK398.out (by decide))); have n4_ := Am (blk_grown (g := gb405) (o := .cells #[.int .i64 ((rd_T23 t399 x30_2).f0), .int .i64 ((rd_T23 t399 x30_2).f1)] 23 (0, 0)) (by (with_reducible repeat (first | refine kN ?_ _ | refine kD ?_ | refine kA ?_ _)); refine kR ?_ NB405_412.out _; (with_reducible repeat (first | refine kN ?_ _ | refine kD ?_ | refine kA ?_ _)); refine kR ?_ NB405_412.out _; (with_reducible repeat (first | refine kN ?_ _ | refine kD ?_ | refine kA ?_ _)); exact BK405.out) hg (Kd.R_away HO_10.out (fun _ hk => hk.2.1))); have n5_ := Am (blk_grown (g := gb412) (o := .cells #[.int .i64 t409, .int .i64 t410] 23 (0, 0)) (by (with_reducible repeat (first | refine kN ?_ _ | refine kD ?_ | refine kA ?_ _)); refine kP (cs := #[.int .i64 t409, .int .i64 0]) ?_ 1 _ rfl; (with_reducible repeat (first | refine kN ?_ _ | refine kD ?_ | refine kA ?_ _)); refine kP (cs := #[.int .i64 0, .int .i64 0]) ?_ 0 _ rfl; (with_reducible repeat (first | refine kN ?_ _ | refine kD ?_ | refine kA ?_ _)); exact BK412.out) hg (Kd.R_away HO_10.out (fun _ hk => hk.2.2))); have n6_ := Am (hb); have n7_ := Am (ho); clear HO_28; clear BK396; clear BK397; clear BK398; clear BK405; clear BK412; clear HB; clear HO_10; have HO_28 := n0_; have BK396 := n1_; have BK397 := n2_; have BK398 := n3_; have BK405 := n4_; have BK412 := n5_; have HB := n6_; have HO415 := n7_; clear n0_ n1_ n2_ n3_ n4_ n5_ n6_ n7_; clear ho hb hg hat))
           go_roundg k2
           case measure => have := HJ4.out; have := HK2.out; omega
           case rel =>
            refine ⟨(y413), (wrap64 (x30_2 + 1)), (by first | rfl | (simp; done) | (simp [*]; done)), H', ⟨by have := HJ4.out; have := HK2.out; omega⟩, ⟨by (with_reducible repeat (first | apply Kd.R_alloc | apply Kd.R_drewN | apply Kd.R_drew)); exact Kd.R_mono HO415.out (fun _ hk => hk.1)⟩, ⟨by (with_reducible repeat (first | apply Kd.R_alloc | apply Kd.R_drewN | apply Kd.R_drew)); exact Kd.R_mono HO_28.out (fun _ hk => hk.2)⟩, ⟨?_⟩, ⟨?_⟩, ⟨?_⟩, ⟨by repeat (first | (with_reducible first | exact HB.out | apply bA | apply bN | apply bD | refine bX ?_ (by assumption)) | exact HB.out)⟩⟩
            all_goals ((with_reducible repeat (first | refine kN ?_ _ | refine kD ?_ | refine kA ?_ _)); exact Aside0.out (by assumption))
         rw [if_neg c30] at H
         exact absurd H (by simp)
        rw [if_neg c29] at H
        have c29b0 : (t409 == 0) = false := beq_eq_false_iff_ne.mpr c29
        have c29b1 : (t409 != 0) = true := bne_iff_ne.mpr c29
        focus
         have H' := Am H
         clear H
         have p404 : 0 ≤ (x30_2 : Int) := of_decide_eq_true (by first | (with_reducible assumption) | assumption)
         have q404 : x30_2 < (t399.length : Int) := of_decide_eq_true (by first | (with_reducible assumption) | assumption)
         obtain ⟨ad404, e404, hx404_0, hx404_1⟩ := at_T23 (Kd.R_reads' HO_28.out).2.2 x30_2 p404 q404
         cases e404
         replace p404 := eq_true p404
         replace q404 := eq_true q404
         try go_wp2_with (first | ((with_reducible refine gate_dst (N := 12) rfl ?_); refine bE 12 #[.int .i64 0, .int .i64 0] 23 ?_; intro gb405 hg w51 hbox hb; have n0_ := Am (Kd.R_below (Kd.R_elderB (kW HO_10) gb405 (Nat.le_of_eq hg.symm)) hb); have n1_ := Am (Kd.R_below (Kd.R_elderB (kW HO_28) gb405 (Nat.le_of_eq hg.symm)) hb); have hp0 := pA BK396 hb; have hv := vK HB hb; have n5_ := Am (bT hv hb); have n6_ := Am (hbox); have GW405 := kG hg hv; have GE405 := kG hg hv; have hp1 := pK BK396 hb; obtain ⟨NB396_405, NB405_396⟩ := kXY hg hp1 BK396; obtain ⟨NB397_405, NB405_397⟩ := kXY hg hp1 BK397; obtain ⟨NB398_405, NB405_398⟩ := kXY hg hp1 BK398; clear HO_10; clear HO_28; clear HB; have HO_10 := n0_; have HO_28 := n1_; replace BK396 := hp0 BK396; replace BK397 := hp0 BK397; replace BK398 := hp0 BK398; have HB := n5_; have BK405 := n6_; clear n0_ n1_ n5_ n6_ hp0 hp1 hv; clear hb hbox hg; have u52 := kO NB405_396; have u53 := kO NB405_397; have u54 := kO NB405_398; have z55 := c2 BK405))
         have n0_ : Aside0 (Kd.R k23 23 ((w51.setCell ⟨gb405, 0, none⟩ (.int .i64 ((rd_T23 t399 x30_2).f0))).setCell ⟨gb405, 1, none⟩ (.int .i64 ((rd_T23 t399 x30_2).f1))) w.heap.size (fun k_ => some k_ ≠ (.slice (some ad404) t399.length co22 : Value).ownBlock ∧ k_ ≠ gb405) u10 x10_2) := ⟨by (with_reducible repeat (first | apply Kd.R_alloc | apply Kd.R_drewN | apply Kd.R_drew)); exact Kd.R_mono (Kd.R_far (p := ⟨gb405, 1, none⟩) (Kd.R_far (p := ⟨gb405, 0, none⟩) (Kd.R_mono HO_10.out (fun k_ hk => (⟨hk, hk.2⟩ : _ ∧ k_ ≠ gb405))) (fun _ hk => hk.2) (.int .i64 ((rd_T23 t399 x30_2).f0))) (fun _ hk => hk.2) (.int .i64 ((rd_T23 t399 x30_2).f1))) (fun _ hk => ⟨hk.1.1, hk.1.2⟩)⟩
         have n1_ : Aside0 (Kd.R k23 23 ((w51.setCell ⟨gb405, 0, none⟩ (.int .i64 ((rd_T23 t399 x30_2).f0))).setCell ⟨gb405, 1, none⟩ (.int .i64 ((rd_T23 t399 x30_2).f1))) w.heap.size (fun k_ => some k_ ≠ (u10 : Value).ownBlock ∧ k_ ≠ gb405) (.slice (some ad404) t399.length co22) t399) := ⟨by (with_reducible repeat (first | apply Kd.R_alloc | apply Kd.R_drewN | apply Kd.R_drew)); exact Kd.R_mono (Kd.R_far (p := ⟨gb405, 1, none⟩) (Kd.R_far (p := ⟨gb405, 0, none⟩) (Kd.R_mono HO_28.out (fun k_ hk => (⟨hk, hk.2⟩ : _ ∧ k_ ≠ gb405))) (fun _ hk => hk.2) (.int .i64 ((rd_T23 t399 x30_2).f0))) (fun _ hk => hk.2) (.int .i64 ((rd_T23 t399 x30_2).f1))) (fun _ hk => ⟨hk.1.1, hk.1.2⟩)⟩
         have hq := hqR (W := ((w51.setCell ⟨gb405, 0, none⟩ (.int .i64 ((rd_T23 t399 x30_2).f0))).setCell ⟨gb405, 1, none⟩ (.int .i64 ((rd_T23 t399 x30_2).f1)))) gb405 BK396.out (fun _ _ q_ h_ => by (with_reducible repeat (first | refine kN ?_ _ | refine kD ?_ | refine kA ?_ _ | refine kZ ?_ q_ _)); exact h_)
         have n2_ := Am (hq NB396_405.out BK396.out)
         have n3_ := Am (hq NB397_405.out BK397.out)
         have n4_ := Am (hq NB398_405.out BK398.out)
         have n5_ : Aside0 (((w51.setCell ⟨gb405, 0, none⟩ (.int .i64 ((rd_T23 t399 x30_2).f0))).setCell ⟨gb405, 1, none⟩ (.int .i64 ((rd_T23 t399 x30_2).f1))).heap[gb405]? = some (.cells #[.int .i64 ((rd_T23 t399 x30_2).f0), .int .i64 ((rd_T23 t399 x30_2).f1)] 23 (0, 0))) := ⟨by (with_reducible repeat (first | refine kN ?_ _ | refine kD ?_ | refine kA ?_ _)); refine kP (cs := #[.int .i64 ((rd_T23 t399 x30_2).f0), .int .i64 0]) ?_ 1 _ rfl; (with_reducible repeat (first | refine kN ?_ _ | refine kD ?_ | refine kA ?_ _)); refine kP (cs := #[.int .i64 0, .int .i64 0]) ?_ 0 _ rfl; (with_reducible repeat (first | refine kN ?_ _ | refine kD ?_ | refine kA ?_ _)); exact BK405.out⟩
         have n6_ : Aside0 (Below w.heap.size w ((w51.setCell ⟨gb405, 0, none⟩ (.int .i64 ((rd_T23 t399 x30_2).f0))).setCell ⟨gb405, 1, none⟩ (.int .i64 ((rd_T23 t399 x30_2).f1)))) := ⟨by repeat (first | (with_reducible first | exact HB.out | apply bA | apply bN | apply bD | refine bX ?_ (by assumption)) | exact HB.out)⟩
         clear hq
         (try clear HO_10)
         (try clear HO_28)
         (try clear BK396)
         (try clear BK397)
         (try clear BK398)
         (try clear BK405)
         (try clear HB)
         generalize ((w51.setCell ⟨gb405, 0, none⟩ (.int .i64 ((rd_T23 t399 x30_2).f0))).setCell ⟨gb405, 1, none⟩ (.int .i64 ((rd_T23 t399 x30_2).f1))) = w56 at n0_ n1_ n2_ n3_ n4_ n5_ n6_ ⊢
         have HO_10 := n0_; have HO_28 := n1_; have BK396 := n2_; have BK397 := n3_; have BK398 := n4_; have BK405 := n5_; have HB := n6_
         clear n0_ n1_ n2_ n3_ n4_ n5_ n6_
         have n0_ := Am (Kd.R_drew HO_10.out)
         have n1_ := Am (Kd.R_drew HO_28.out)
         have n2_ := Am (kD BK396.out)
         have n3_ := Am (kD BK397.out)
         have n4_ := Am (kD BK398.out)
         have n5_ := Am (kD BK405.out)
         have n6_ := Am (bD HB.out)
         clear HO_10 HO_28 BK396 BK397 BK398 BK405 HB
         have HO_10 := n0_; have HO_28 := n1_; have BK396 := n2_; have BK397 := n3_; have BK398 := n4_; have BK405 := n5_; have HB := n6_
         clear n0_ n1_ n2_ n3_ n4_ n5_ n6_
         refine start_ (n := 11) (S := fun w' => w'.cell? ⟨gb396, 0, none⟩ = some (.int .i64 a0_0) ∧ w'.cell? ⟨gb396, 1, none⟩ = some (.int .i64 a0_1) ∧ w'.cell? ⟨gb396, 2, none⟩ = some (.int .i64 a0_2) ∧ w'.cell? ⟨gb398, 0, none⟩ = some (.int .i64 a2_0) ∧ w'.cell? ⟨gb398, 1, none⟩ = some (.int .i64 a2_1) ∧ w'.cell? ⟨gb398, 2, none⟩ = some (.int .i64 a2_2) ∧ w'.cell? ⟨gb405, 0, none⟩ = some (.int .i64 ((rd_T23 t399 x30_2).f0)) ∧ w'.cell? ⟨gb405, 1, none⟩ = some (.int .i64 ((rd_T23 t399 x30_2).f1))) (ds := []) (pT 11 0) (by kernel_rfl) rfl rfl ⟨c30 BK396.out, c31 BK396.out, c32 BK396.out, c30 BK398.out, c31 BK398.out, c32 BK398.out, c20 BK405.out, c21 BK405.out⟩ (fun hHeld => ?_); refine with_tabW spec_ThreeMeet.tab8 spec_ThreeMeet.bits8 (fun HT_ HW_ => ?_)
         generalize w56.drew = w57 at HO_10 HO_28 BK396 BK397 BK398 BK405 HB hHeld ⊢
         iterate 2
          refine tI (v := ?_) (a' := ?_) rfl (take_ofW HT_.out HW_.out (by kernel_rfl)) (fun _ _ _ h => h) (Or.inl ⟨by rfl, ?_⟩) hHeld ?_ ?_
          rotate_left
          ·rintro w' ⟨s0, s1, s2, s3, s4, s5, s6, s7⟩
           go_simp
           with_reducible rfl
          rotate_left
          ·show Act.put _ (some _) _ = _
           simp only [Act.put, List.setIfInBounds_toArray, List.set_cons_zero, List.set_cons_succ, i64_w, i32_w]
           rfl
         refine take_ (i := 3) (N := some 38) (v := ?_) (a' := ?_) #[true, true, false, true, false, false, false, false, false, false, false] rfl rfl (take_ofW HT_.out HW_.out (by kernel_rfl)) (fun _ _ _ h => h) (Or.inl ⟨by rfl, ?_⟩) hHeld ?_ ?_
         rotate_left
         ·rintro w' ⟨s0, s1, s2, s3, s4, s5, s6, s7⟩
          go_simp
          with_reducible rfl
         rotate_left
         ·simp only [Act.put, List.setIfInBounds_toArray, List.set_cons_zero, List.set_cons_succ, i64_w, i32_w]
          rfl
         refine join_ (σ := Nat) 2 (pT 11 9) (fun s_ => [(37, .agg #[.int .i64 t406, .int .i64 t407, .int .i64 t408]), (39, .tuple #[.agg #[.int .i64 t409, .int .i64 t410], .bool true]), (13, .pointer (some ⟨s_, 0, none⟩)), (34, .tuple #[.agg #[.int .i64 t409, .int .i64 t410], .bool true]), (40, .agg #[.int .i64 t409, .int .i64 t410]), (41, .bool true)]) (fun s_ w' => (w'.cell? ⟨gb396, 0, none⟩ = some (.int .i64 a0_0) ∧ w'.cell? ⟨gb396, 1, none⟩ = some (.int .i64 a0_1) ∧ w'.cell? ⟨gb396, 2, none⟩ = some (.int .i64 a0_2) ∧ w'.cell? ⟨gb398, 0, none⟩ = some (.int .i64 a2_0) ∧ w'.cell? ⟨gb398, 1, none⟩ = some (.int .i64 a2_1) ∧ w'.cell? ⟨gb398, 2, none⟩ = some (.int .i64 a2_2) ∧ w'.cell? ⟨gb405, 0, none⟩ = some (.int .i64 ((rd_T23 t399 x30_2).f0)) ∧ w'.cell? ⟨gb405, 1, none⟩ = some (.int .i64 ((rd_T23 t399 x30_2).f1))) ∧ (Kd.R k23 23 w' w.heap.size (fun k_ => some k_ ≠ (.slice (some ad404) t399.length co22 : Value).ownBlock ∧ k_ ≠ gb405 ∧ k_ ≠ s_) u10 x10_2) ∧ (Kd.R k23 23 w' w.heap.size (fun k_ => some k_ ≠ (u10 : Value).ownBlock ∧ k_ ≠ gb405 ∧ k_ ≠ s_) (.slice (some ad404) t399.length co22) t399) ∧ (w'.heap[gb396]? = some (.cells #[.int .i64 a0_0, .int .i64 a0_1, .int .i64 a0_2] 25 (0, 0))) ∧ (w'.heap[gb397]? = some (.cells #[.int .i64 a1_0, .int .i64 a1_1, .int .i64 a1_2] 25 (0, 0))) ∧ (w'.heap[gb398]? = some (.cells #[.int .i64 a2_0, .int .i64 a2_1, .int .i64 a2_2] 25 (0, 0))) ∧ (w'.heap[gb405]? = some (.cells #[.int .i64 ((rd_T23 t399 x30_2).f0), .int .i64 ((rd_T23 t399 x30_2).f1)] 23 (0, 0))) ∧ (w'.heap[s_]? = some (.cells #[.int .i64 0, .int .i64 0] 23 (0, 0))) ∧ (w.heap.size ≤ s_) ∧ (w.heap.size ≤ s_) ∧ (gb396 ≠ s_) ∧ (s_ ≠ gb396) ∧ (gb397 ≠ s_) ∧ (s_ ≠ gb397) ∧ (gb398 ≠ s_) ∧ (s_ ≠ gb398) ∧ (gb405 ≠ s_) ∧ (s_ ≠ gb405) ∧ (Below w.heap.size w w')) ?_ ?_
         rotate_left
         ·intro hCont
          refine two_ (i := 2) (j := 8) (Ni := some 37) (Nj := some 13) (pT 11 4) #[true, true, false, true, false, false, false, false, true, false, false] rfl rfl rfl rfl (two_of HT_.out (by kernel_rfl)) (by decide) (by decide) (fun K hK => ?_) (fun K hK => ?_)
          ·skip
           refine goes_ Try.func28 (by kernel_rfl) rfl #[.agg #[.int .i64 a0_0, .int .i64 a0_1, .int .i64 a0_2], .agg #[.int .i64 a2_0, .int .i64 a2_1, .int .i64 a2_2]] (by rfl) rfl rfl (by (try simp only [List.map_toArray, List.map_cons, List.map_nil]); first | done | rfl | (simp only [List.length_drop, List.length_take]; rfl)) ?_
           with_reducible refine (spec_meRelative.calls k2 a0_0 a0_1 a0_2 a2_0 a2_1 a2_2 t406 t407 t408 _ A26.out).mono ?_
           rintro e w58 ⟨rfl, hb⟩
           refine ⟨_, rfl, ?_⟩
           have n0_ := Am (Kd.R_below (kW HO_10) hb)
           have n1_ := Am (Kd.R_below (kW HO_28) hb)
           have hp0 := pA BK396 hb
           have hv := vK HB hb
           have n6_ := Am (bT hv hb)
           clear HO_10 HO_28 HB
           have HO_10 := n0_; have HO_28 := n1_
           replace BK396 := hp0 BK396; replace BK397 := hp0 BK397; replace BK398 := hp0 BK398; replace BK405 := hp0 BK405
           have HB := n6_
           clear n0_ n1_ n6_ hp0 hv
           (try clear hb)
           refine hK.out _ _ ⟨c30 BK396.out, c31 BK396.out, c32 BK396.out, c30 BK398.out, c31 BK398.out, c32 BK398.out, c20 BK405.out, c21 BK405.out⟩ (fun hHeld => ?_)
           clear hK K
           refine norm_ (a' := ?_) ?_ ?_
           rotate_left
           ·show Act.put _ (some 37) _ = _
            simp only [Act.put, List.setIfInBounds_toArray, List.set_cons_zero, List.set_cons_succ, i64_w, i32_w]
            rfl
           refine two_ (i := 4) (j := 8) (Ni := some 39) (Nj := some 13) (pT 11 5) #[true, true, true, true, false, false, false, false, true, false, false] rfl rfl rfl rfl (two_of HT_.out (by kernel_rfl)) (by decide) (by decide) (fun K hK => ?_) (fun K hK => ?_)
           ·skip
            refine goes_ Try.func36 (by kernel_rfl) rfl #[.agg #[.int .i64 t406, .int .i64 t407, .int .i64 t408], .agg #[.int .i64 ((rd_T23 t399 x30_2).f0), .int .i64 ((rd_T23 t399 x30_2).f1)]] (by rfl) rfl rfl (by (try simp only [List.map_toArray, List.map_cons, List.map_nil]); first | done | rfl | (simp only [List.length_drop, List.length_take]; rfl)) ?_
            with_reducible refine (spec_meAt.calls k2 t406 t407 t408 ((rd_T23 t399 x30_2).f0) ((rd_T23 t399 x30_2).f1) t409 t410 true _ A27.out).mono ?_
            rintro e w59 ⟨rfl, hb⟩
            refine ⟨_, rfl, ?_⟩
            have n0_ := Am (Kd.R_below (kW HO_10) hb)
            have n1_ := Am (Kd.R_below (kW HO_28) hb)
            have hp0 := pA BK396 hb
            have hv := vK HB hb
            have n6_ := Am (bT hv hb)
            clear HO_10 HO_28 HB
            have HO_10 := n0_; have HO_28 := n1_
            replace BK396 := hp0 BK396; replace BK397 := hp0 BK397; replace BK398 := hp0 BK398; replace BK405 := hp0 BK405
            have HB := n6_
            clear n0_ n1_ n6_ hp0 hv
            (try clear hb)
            refine hK.out _ _ ⟨c30 BK396.out, c31 BK396.out, c32 BK396.out, c30 BK398.out, c31 BK398.out, c32 BK398.out, c20 BK405.out, c21 BK405.out⟩ (fun hHeld => ?_)
            clear hK K
            refine norm_ (a' := ?_) ?_ ?_
            rotate_left
            ·show Act.put _ (some 39) _ = _
             simp only [Act.put, List.setIfInBounds_toArray, List.set_cons_zero, List.set_cons_succ, i64_w, i32_w]
             rfl
            iterate 3
             refine pI (v := ?_) (a' := ?_) rfl (any_of HT_.out (by kernel_rfl)) (fun _ _ _ h => h) (Or.inl ⟨by rfl, ?_⟩) ?_ ?_
             rotate_left
             ·intro w'
              go_simp
              with_reducible rfl
             rotate_left
             ·show Act.put _ (some _) _ = _
              simp only [Act.put, List.setIfInBounds_toArray, List.set_cons_zero, List.set_cons_succ, i64_w, i32_w]
              rfl
            refine one_ (i := 8) (N := some 13) (pT 11 9) rfl rfl (one_of HT_.out (by kernel_rfl)) (by decide) (fun K hK => ?_)
            refine box_step ?hg (N := 13) ?hd (cs := #[.int .i64 0, .int .i64 0]) (t := 23) ?hr ?_; (case hd => rfl); (case hg => rfl); (case hr => first | (go_simp; done) | (go_simp; rfl))
            intro gb412 hg w60 hbox hb
            have n0_ := Am (Kd.R_below (Kd.R_elderB (kW HO_10) gb412 (Nat.le_of_eq hg.symm)) hb)
            have n1_ := Am (Kd.R_below (Kd.R_elderB (kW HO_28) gb412 (Nat.le_of_eq hg.symm)) hb)
            have hp0 := pA BK396 hb
            have hv := vK HB hb
            have n6_ := Am (bT hv hb)
            have n7_ := Am (hbox)
            have GW412 := kG hg hv
            have GE412 := kG hg hv
            have hp1 := pK BK396 hb
            obtain ⟨NB396_412, NB412_396⟩ := kXY hg hp1 BK396
            obtain ⟨NB397_412, NB412_397⟩ := kXY hg hp1 BK397
            obtain ⟨NB398_412, NB412_398⟩ := kXY hg hp1 BK398
            obtain ⟨NB405_412, NB412_405⟩ := kXY hg hp1 BK405
            clear HO_10 HO_28 HB
            have HO_10 := n0_; have HO_28 := n1_
            replace BK396 := hp0 BK396; replace BK397 := hp0 BK397; replace BK398 := hp0 BK398; replace BK405 := hp0 BK405
            have HB := n6_; have BK412 := n7_
            clear n6_ n7_ hp0 hp1 hv hb hbox hg
            refine hK.out _ _ ⟨c30 BK396.out, c31 BK396.out, c32 BK396.out, c30 BK398.out, c31 BK398.out, c32 BK398.out, c20 BK405.out, c21 BK405.out⟩ (fun hHeld => ?_)
            clear hK K
            refine norm_ (a' := ?_) ?_ ?_
            rotate_left
            ·show Act.put _ (some 13) _ = _
             simp only [Act.put, List.setIfInBounds_toArray, List.set_cons_zero, List.set_cons_succ, i64_w, i32_w]
             rfl
            exact norm_ (by simp only [putAll, Act.put, List.setIfInBounds_toArray, List.set_cons_zero, List.set_cons_succ]) (hCont (gb412) _ ⟨hHeld, (by (with_reducible repeat (first | apply Kd.R_alloc | apply Kd.R_drewN | apply Kd.R_drew)); exact Kd.R_mono HO_10.out (fun _ hk => ⟨hk.1.1, ⟨hk.1.2, hk.2⟩⟩)), (by (with_reducible repeat (first | apply Kd.R_alloc | apply Kd.R_drewN | apply Kd.R_drew)); exact Kd.R_mono HO_28.out (fun _ hk => ⟨hk.1.1, ⟨hk.1.2, hk.2⟩⟩)), (kU BK396), (kU BK397), (kU BK398), (kU BK405), (kU BK412), GW412.out, GE412.out, NB396_412.out, NB412_396.out, NB397_412.out, NB412_397.out, NB398_412.out, NB412_398.out, NB405_412.out, NB412_405.out, (by repeat (first | (with_reducible first | exact HB.out | apply bA | apply bN | apply bD | refine bX ?_ (by assumption)) | exact HB.out))⟩)
           skip
           refine box_step ?hg (N := 13) ?hd (cs := #[.int .i64 0, .int .i64 0]) (t := 23) ?hr ?_; (case hd => rfl); (case hg => rfl); (case hr => first | (go_simp; done) | (go_simp; rfl))
           intro gb412 hg w59 hbox hb
           have n0_ := Am (Kd.R_below (Kd.R_elderB (kW HO_10) gb412 (Nat.le_of_eq hg.symm)) hb)
           have n1_ := Am (Kd.R_below (Kd.R_elderB (kW HO_28) gb412 (Nat.le_of_eq hg.symm)) hb)
           have hp0 := pA BK396 hb
           have hv := vK HB hb
           have n6_ := Am (bT hv hb)
           have n7_ := Am (hbox)
           have GW412 := kG hg hv
           have GE412 := kG hg hv
           have hp1 := pK BK396 hb
           obtain ⟨NB396_412, NB412_396⟩ := kXY hg hp1 BK396
           obtain ⟨NB397_412, NB412_397⟩ := kXY hg hp1 BK397
           obtain ⟨NB398_412, NB412_398⟩ := kXY hg hp1 BK398
           obtain ⟨NB405_412, NB412_405⟩ := kXY hg hp1 BK405
           clear HO_10 HO_28 HB
           have HO_10 := n0_; have HO_28 := n1_
           replace BK396 := hp0 BK396; replace BK397 := hp0 BK397; replace BK398 := hp0 BK398; replace BK405 := hp0 BK405
           have HB := n6_; have BK412 := n7_
           clear n6_ n7_ hp0 hp1 hv hb hbox hg
           refine hK.out _ _ ⟨c30 BK396.out, c31 BK396.out, c32 BK396.out, c30 BK398.out, c31 BK398.out, c32 BK398.out, c20 BK405.out, c21 BK405.out⟩ (fun hHeld => ?_)
           clear hK K
           refine norm_ (a' := ?_) ?_ ?_
           rotate_left
           ·show Act.put _ (some 13) _ = _
            simp only [Act.put, List.setIfInBounds_toArray, List.set_cons_zero, List.set_cons_succ, i64_w, i32_w]
            rfl
           refine one_ (i := 4) (N := some 39) #[true, true, true, true, true, false, false, false, true, false, false] rfl rfl (one_of HT_.out (by kernel_rfl)) (by decide) (fun K hK => ?_)
           refine goes_ Try.func36 (by kernel_rfl) rfl #[.agg #[.int .i64 t406, .int .i64 t407, .int .i64 t408], .agg #[.int .i64 ((rd_T23 t399 x30_2).f0), .int .i64 ((rd_T23 t399 x30_2).f1)]] (by rfl) rfl rfl (by (try simp only [List.map_toArray, List.map_cons, List.map_nil]); first | done | rfl | (simp only [List.length_drop, List.length_take]; rfl)) ?_
           with_reducible refine (spec_meAt.calls k2 t406 t407 t408 ((rd_T23 t399 x30_2).f0) ((rd_T23 t399 x30_2).f1) t409 t410 true _ A27.out).mono ?_
           rintro e w60 ⟨rfl, hb⟩
           refine ⟨_, rfl, ?_⟩
           have n0_ := Am (Kd.R_below (kW HO_10) hb)
           have n1_ := Am (Kd.R_below (kW HO_28) hb)
           have hp0 := pA BK396 hb
           have hv := vK HB hb
           have n7_ := Am (bT hv hb)
           clear HO_10 HO_28 HB
           have HO_10 := n0_; have HO_28 := n1_
           replace BK396 := hp0 BK396; replace BK397 := hp0 BK397; replace BK398 := hp0 BK398; replace BK405 := hp0 BK405; replace BK412 := hp0 BK412
           have HB := n7_
           clear n0_ n1_ n7_ hp0 hv
           (try clear hb)
           refine hK.out _ _ ⟨c30 BK396.out, c31 BK396.out, c32 BK396.out, c30 BK398.out, c31 BK398.out, c32 BK398.out, c20 BK405.out, c21 BK405.out⟩ (fun hHeld => ?_)
           clear hK K
           refine norm_ (a' := ?_) ?_ ?_
           rotate_left
           ·show Act.put _ (some 39) _ = _
            simp only [Act.put, List.setIfInBounds_toArray, List.set_cons_zero, List.set_cons_succ, i64_w, i32_w]
            rfl
           refine pure_ (i := 5) (N := some 34) (v := ?_) (a' := ?_) #[true, true, true, true, true, true, false, false, true, false, false] rfl rfl (any_of HT_.out (by kernel_rfl)) (fun _ _ _ h => h) (Or.inl ⟨by rfl, ?_⟩) ?_ ?_
           rotate_left
           ·intro w'
            go_simp
            with_reducible rfl
           rotate_left
           ·simp only [Act.put, List.setIfInBounds_toArray, List.set_cons_zero, List.set_cons_succ, i64_w, i32_w]
            rfl
           refine pure_ (i := 6) (N := some 40) (v := ?_) (a' := ?_) #[true, true, true, true, true, true, true, false, true, false, false] rfl rfl (any_of HT_.out (by kernel_rfl)) (fun _ _ _ h => h) (Or.inl ⟨by rfl, ?_⟩) ?_ ?_
           rotate_left
           ·intro w'
            go_simp
            with_reducible rfl
           rotate_left
           ·simp only [Act.put, List.setIfInBounds_toArray, List.set_cons_zero, List.set_cons_succ, i64_w, i32_w]
            rfl
           refine pure_ (i := 7) (N := some 41) (v := ?_) (a' := ?_) (pT 11 9) rfl rfl (any_of HT_.out (by kernel_rfl)) (fun _ _ _ h => h) (Or.inl ⟨by rfl, ?_⟩) ?_ ?_
           rotate_left
           ·intro w'
            go_simp
            with_reducible rfl
           rotate_left
           ·simp only [Act.put, List.setIfInBounds_toArray, List.set_cons_zero, List.set_cons_succ, i64_w, i32_w]
            rfl
           exact norm_ (by simp only [putAll, Act.put, List.setIfInBounds_toArray, List.set_cons_zero, List.set_cons_succ]) (hCont (gb412) _ ⟨hHeld, (by (with_reducible repeat (first | apply Kd.R_alloc | apply Kd.R_drewN | apply Kd.R_drew)); exact Kd.R_mono HO_10.out (fun _ hk => ⟨hk.1.1, ⟨hk.1.2, hk.2⟩⟩)), (by (with_reducible repeat (first | apply Kd.R_alloc | apply Kd.R_drewN | apply Kd.R_drew)); exact Kd.R_mono HO_28.out (fun _ hk => ⟨hk.1.1, ⟨hk.1.2, hk.2⟩⟩)), (kU BK396), (kU BK397), (kU BK398), (kU BK405), (kU BK412), GW412.out, GE412.out, NB396_412.out, NB412_396.out, NB397_412.out, NB412_397.out, NB398_412.out, NB412_398.out, NB405_412.out, NB412_405.out, (by repeat (first | (with_reducible first | exact HB.out | apply bA | apply bN | apply bD | refine bX ?_ (by assumption)) | exact HB.out))⟩)
          skip
          refine box_step ?hg (N := 13) ?hd (cs := #[.int .i64 0, .int .i64 0]) (t := 23) ?hr ?_; (case hd => rfl); (case hg => rfl); (case hr => first | (go_simp; done) | (go_simp; rfl))
          intro gb412 hg w58 hbox hb
          have n0_ := Am (Kd.R_below (Kd.R_elderB (kW HO_10) gb412 (Nat.le_of_eq hg.symm)) hb)
          have n1_ := Am (Kd.R_below (Kd.R_elderB (kW HO_28) gb412 (Nat.le_of_eq hg.symm)) hb)
          have hp0 := pA BK396 hb
          have hv := vK HB hb
          have n6_ := Am (bT hv hb)
          have n7_ := Am (hbox)
          have GW412 := kG hg hv
          have GE412 := kG hg hv
          have hp1 := pK BK396 hb
          obtain ⟨NB396_412, NB412_396⟩ := kXY hg hp1 BK396
          obtain ⟨NB397_412, NB412_397⟩ := kXY hg hp1 BK397
          obtain ⟨NB398_412, NB412_398⟩ := kXY hg hp1 BK398
          obtain ⟨NB405_412, NB412_405⟩ := kXY hg hp1 BK405
          clear HO_10 HO_28 HB
          have HO_10 := n0_; have HO_28 := n1_
          replace BK396 := hp0 BK396; replace BK397 := hp0 BK397; replace BK398 := hp0 BK398; replace BK405 := hp0 BK405
          have HB := n6_; have BK412 := n7_
          clear n6_ n7_ hp0 hp1 hv hb hbox hg
          refine hK.out _ _ ⟨c30 BK396.out, c31 BK396.out, c32 BK396.out, c30 BK398.out, c31 BK398.out, c32 BK398.out, c20 BK405.out, c21 BK405.out⟩ (fun hHeld => ?_)
          clear hK K
          refine norm_ (a' := ?_) ?_ ?_
          rotate_left
          ·show Act.put _ (some 13) _ = _
           simp only [Act.put, List.setIfInBounds_toArray, List.set_cons_zero, List.set_cons_succ, i64_w, i32_w]
           rfl
          refine one_ (i := 2) (N := some 37) #[true, true, true, true, false, false, false, false, true, false, false] rfl rfl (one_of HT_.out (by kernel_rfl)) (by decide) (fun K hK => ?_)
          refine goes_ Try.func28 (by kernel_rfl) rfl #[.agg #[.int .i64 a0_0, .int .i64 a0_1, .int .i64 a0_2], .agg #[.int .i64 a2_0, .int .i64 a2_1, .int .i64 a2_2]] (by rfl) rfl rfl (by (try simp only [List.map_toArray, List.map_cons, List.map_nil]); first | done | rfl | (simp only [List.length_drop, List.length_take]; rfl)) ?_
          with_reducible refine (spec_meRelative.calls k2 a0_0 a0_1 a0_2 a2_0 a2_1 a2_2 t406 t407 t408 _ A26.out).mono ?_
          rintro e w59 ⟨rfl, hb⟩
          refine ⟨_, rfl, ?_⟩
          have n0_ := Am (Kd.R_below (kW HO_10) hb)
          have n1_ := Am (Kd.R_below (kW HO_28) hb)
          have hp0 := pA BK396 hb
          have hv := vK HB hb
          have n7_ := Am (bT hv hb)
          clear HO_10 HO_28 HB
          have HO_10 := n0_; have HO_28 := n1_
          replace BK396 := hp0 BK396; replace BK397 := hp0 BK397; replace BK398 := hp0 BK398; replace BK405 := hp0 BK405; replace BK412 := hp0 BK412
          have HB := n7_
          clear n0_ n1_ n7_ hp0 hv
          (try clear hb)
          refine hK.out _ _ ⟨c30 BK396.out, c31 BK396.out, c32 BK396.out, c30 BK398.out, c31 BK398.out, c32 BK398.out, c20 BK405.out, c21 BK405.out⟩ (fun hHeld => ?_)
          clear hK K
          refine norm_ (a' := ?_) ?_ ?_
          rotate_left
          ·show Act.put _ (some 37) _ = _
           simp only [Act.put, List.setIfInBounds_toArray, List.set_cons_zero, List.set_cons_succ, i64_w, i32_w]
           rfl
          refine one_ (i := 4) (N := some 39) #[true, true, true, true, true, false, false, false, true, false, false] rfl rfl (one_of HT_.out (by kernel_rfl)) (by decide) (fun K hK => ?_)
          refine goes_ Try.func36 (by kernel_rfl) rfl #[.agg #[.int .i64 t406, .int .i64 t407, .int .i64 t408], .agg #[.int .i64 ((rd_T23 t399 x30_2).f0), .int .i64 ((rd_T23 t399 x30_2).f1)]] (by rfl) rfl rfl (by (try simp only [List.map_toArray, List.map_cons, List.map_nil]); first | done | rfl | (simp only [List.length_drop, List.length_take]; rfl)) ?_
          with_reducible refine (spec_meAt.calls k2 t406 t407 t408 ((rd_T23 t399 x30_2).f0) ((rd_T23 t399 x30_2).f1) t409 t410 true _ A27.out).mono ?_
          rintro e w60 ⟨rfl, hb⟩
          refine ⟨_, rfl, ?_⟩
          have n0_ := Am (Kd.R_below (kW HO_10) hb)
          have n1_ := Am (Kd.R_below (kW HO_28) hb)
          have hp0 := pA BK396 hb
          have hv := vK HB hb
          have n7_ := Am (bT hv hb)
          clear HO_10 HO_28 HB
          have HO_10 := n0_; have HO_28 := n1_
          replace BK396 := hp0 BK396; replace BK397 := hp0 BK397; replace BK398 := hp0 BK398; replace BK405 := hp0 BK405; replace BK412 := hp0 BK412
          have HB := n7_
          clear n0_ n1_ n7_ hp0 hv
          (try clear hb)
          refine hK.out _ _ ⟨c30 BK396.out, c31 BK396.out, c32 BK396.out, c30 BK398.out, c31 BK398.out, c32 BK398.out, c20 BK405.out, c21 BK405.out⟩ (fun hHeld => ?_)
          clear hK K
          refine norm_ (a' := ?_) ?_ ?_
          rotate_left
          ·show Act.put _ (some 39) _ = _
           simp only [Act.put, List.setIfInBounds_toArray, List.set_cons_zero, List.set_cons_succ, i64_w, i32_w]
           rfl
          refine pure_ (i := 5) (N := some 34) (v := ?_) (a' := ?_) #[true, true, true, true, true, true, false, false, true, false, false] rfl rfl (any_of HT_.out (by kernel_rfl)) (fun _ _ _ h => h) (Or.inl ⟨by rfl, ?_⟩) ?_ ?_
          rotate_left
          ·intro w'
           go_simp
           with_reducible rfl
          rotate_left
          ·simp only [Act.put, List.setIfInBounds_toArray, List.set_cons_zero, List.set_cons_succ, i64_w, i32_w]
           rfl
          refine pure_ (i := 6) (N := some 40) (v := ?_) (a' := ?_) #[true, true, true, true, true, true, true, false, true, false, false] rfl rfl (any_of HT_.out (by kernel_rfl)) (fun _ _ _ h => h) (Or.inl ⟨by rfl, ?_⟩) ?_ ?_
          rotate_left
          ·intro w'
           go_simp
           with_reducible rfl
          rotate_left
          ·simp only [Act.put, List.setIfInBounds_toArray, List.set_cons_zero, List.set_cons_succ, i64_w, i32_w]
           rfl
          refine pure_ (i := 7) (N := some 41) (v := ?_) (a' := ?_) (pT 11 9) rfl rfl (any_of HT_.out (by kernel_rfl)) (fun _ _ _ h => h) (Or.inl ⟨by rfl, ?_⟩) ?_ ?_
          rotate_left
          ·intro w'
           go_simp
           with_reducible rfl
          rotate_left
          ·simp only [Act.put, List.setIfInBounds_toArray, List.set_cons_zero, List.set_cons_succ, i64_w, i32_w]
           rfl
          exact norm_ (by simp only [putAll, Act.put, List.setIfInBounds_toArray, List.set_cons_zero, List.set_cons_succ]) (hCont (gb412) _ ⟨hHeld, (by (with_reducible repeat (first | apply Kd.R_alloc | apply Kd.R_drewN | apply Kd.R_drew)); exact Kd.R_mono HO_10.out (fun _ hk => ⟨hk.1.1, ⟨hk.1.2, hk.2⟩⟩)), (by (with_reducible repeat (first | apply Kd.R_alloc | apply Kd.R_drewN | apply Kd.R_drew)); exact Kd.R_mono HO_28.out (fun _ hk => ⟨hk.1.1, ⟨hk.1.2, hk.2⟩⟩)), (kU BK396), (kU BK397), (kU BK398), (kU BK405), (kU BK412), GW412.out, GE412.out, NB396_412.out, NB412_396.out, NB397_412.out, NB412_397.out, NB398_412.out, NB412_398.out, NB405_412.out, NB412_405.out, (by repeat (first | (with_reducible first | exact HB.out | apply bA | apply bN | apply bD | refine bX ?_ (by assumption)) | exact HB.out))⟩)
         rintro gb412 w61 ⟨hS_, h0_, h1_, h2_, h3_, h4_, h5_, h6_, h7_, h8_, h9_, h10_, h11_, h12_, h13_, h14_, h15_, h16_, h17_⟩
         have n0_ : Aside0 (Kd.R k23 23 w61 w.heap.size (fun k_ => some k_ ≠ (.slice (some ad404) t399.length co22 : Value).ownBlock ∧ k_ ≠ gb405 ∧ k_ ≠ gb412) u10 x10_2) := ⟨h0_⟩
         have n1_ : Aside0 (Kd.R k23 23 w61 w.heap.size (fun k_ => some k_ ≠ (u10 : Value).ownBlock ∧ k_ ≠ gb405 ∧ k_ ≠ gb412) (.slice (some ad404) t399.length co22) t399) := ⟨h1_⟩
         have n2_ : Aside0 (w61.heap[gb396]? = some (.cells #[.int .i64 a0_0, .int .i64 a0_1, .int .i64 a0_2] 25 (0, 0))) := ⟨h2_⟩
         have n3_ : Aside0 (w61.heap[gb397]? = some (.cells #[.int .i64 a1_0, .int .i64 a1_1, .int .i64 a1_2] 25 (0, 0))) := ⟨h3_⟩
         have n4_ : Aside0 (w61.heap[gb398]? = some (.cells #[.int .i64 a2_0, .int .i64 a2_1, .int .i64 a2_2] 25 (0, 0))) := ⟨h4_⟩
         have n5_ : Aside0 (w61.heap[gb405]? = some (.cells #[.int .i64 ((rd_T23 t399 x30_2).f0), .int .i64 ((rd_T23 t399 x30_2).f1)] 23 (0, 0))) := ⟨h5_⟩
         have n6_ : Aside0 (w61.heap[gb412]? = some (.cells #[.int .i64 0, .int .i64 0] 23 (0, 0))) := ⟨h6_⟩
         have n7_ : Aside0 (w.heap.size ≤ gb412) := ⟨h7_⟩
         have n8_ : Aside0 (w.heap.size ≤ gb412) := ⟨h8_⟩
         have n9_ : Aside0 (gb396 ≠ gb412) := ⟨h9_⟩
         have n10_ : Aside0 (gb412 ≠ gb396) := ⟨h10_⟩
         have n11_ : Aside0 (gb397 ≠ gb412) := ⟨h11_⟩
         have n12_ : Aside0 (gb412 ≠ gb397) := ⟨h12_⟩
         have n13_ : Aside0 (gb398 ≠ gb412) := ⟨h13_⟩
         have n14_ : Aside0 (gb412 ≠ gb398) := ⟨h14_⟩
         have n15_ : Aside0 (gb405 ≠ gb412) := ⟨h15_⟩
         have n16_ : Aside0 (gb412 ≠ gb405) := ⟨h16_⟩
         have n17_ : Aside0 (Below w.heap.size w w61) := ⟨h17_⟩
         clear HO_10 HO_28 BK396 BK397 BK398 BK405 HB h0_ h1_ h2_ h3_ h4_ h5_ h6_ h7_ h8_ h9_ h10_ h11_ h12_ h13_ h14_ h15_ h16_ h17_
         have HO_10 := n0_; have HO_28 := n1_; have BK396 := n2_; have BK397 := n3_; have BK398 := n4_; have BK405 := n5_; have BK412 := n6_; have GW412 := n7_; have GE412 := n8_; have NB396_412 := n9_; have NB412_396 := n10_; have NB397_412 := n11_; have NB412_397 := n12_; have NB398_412 := n13_; have NB412_398 := n14_; have NB405_412 := n15_; have NB412_405 := n16_; have HB := n17_
         clear n0_ n1_ n2_ n3_ n4_ n5_ n6_ n7_ n8_ n9_ n10_ n11_ n12_ n13_ n14_ n15_ n16_ n17_
         have hHeld : w61.cell? ⟨gb396, 0, none⟩ = some (.int .i64 a0_0) ∧ w61.cell? ⟨gb396, 1, none⟩ = some (.int .i64 a0_1) ∧ w61.cell? ⟨gb396, 2, none⟩ = some (.int .i64 a0_2) ∧ w61.cell? ⟨gb398, 0, none⟩ = some (.int .i64 a2_0) ∧ w61.cell? ⟨gb398, 1, none⟩ = some (.int .i64 a2_1) ∧ w61.cell? ⟨gb398, 2, none⟩ = some (.int .i64 a2_2) ∧ w61.cell? ⟨gb405, 0, none⟩ = some (.int .i64 ((rd_T23 t399 x30_2).f0)) ∧ w61.cell? ⟨gb405, 1, none⟩ = some (.int .i64 ((rd_T23 t399 x30_2).f1)) := hS_
         refine norm_ (a' := ?_) ?_ ?_
         rotate_left
         ·simp only [putAll, Act.put, List.setIfInBounds_toArray, List.set_cons_zero, List.set_cons_succ]
          rfl
         refine one_ (i := 9) (N := none) (pT 11 10) rfl rfl (one_of HT_.out (by kernel_rfl)) (by decide) (fun K hK => ?_)
         have hs62 : w61.cell? ⟨gb412, 0, none⟩ = some (.int .i64 0) := c20 BK412.out
         have hfs62 := kF BK412.out 0
         have hns62_0 := NB396_412.out; have hns62_1 := NB397_412.out; have hns62_2 := NB398_412.out; have hns62_3 := NB405_412.out; have hms62_0 := NB412_396.out; have hms62_1 := NB412_397.out; have hms62_2 := NB412_398.out; have hms62_3 := NB412_405.out
         have hs63 : w61.cell? ⟨gb412, 1, none⟩ = some (.int .i64 0) := c21 BK412.out
         have hfs63 := kF BK412.out 1
         have hns63_0 := NB396_412.out; have hns63_1 := NB397_412.out; have hns63_2 := NB398_412.out; have hns63_3 := NB405_412.out; have hms63_0 := NB412_396.out; have hms63_1 := NB412_397.out; have hms63_2 := NB412_398.out; have hms63_3 := NB412_405.out
         refine skip_ (w1 := ?_) (by rfl) rfl ?_ ?_
         rotate_left
         ·go_simp
          rfl
         refine hK.out _ _ ⟨((cell_far (p := ⟨gb412, _, none⟩) NB396_412.out _).trans (((cell_far (p := ⟨gb412, _, none⟩) NB396_412.out _).trans (hHeld.1)))), ((cell_far (p := ⟨gb412, _, none⟩) NB396_412.out _).trans (((cell_far (p := ⟨gb412, _, none⟩) NB396_412.out _).trans (hHeld.2.1)))), ((cell_far (p := ⟨gb412, _, none⟩) NB396_412.out _).trans (((cell_far (p := ⟨gb412, _, none⟩) NB396_412.out _).trans (hHeld.2.2.1)))), ((cell_far (p := ⟨gb412, _, none⟩) NB398_412.out _).trans (((cell_far (p := ⟨gb412, _, none⟩) NB398_412.out _).trans (hHeld.2.2.2.1)))), ((cell_far (p := ⟨gb412, _, none⟩) NB398_412.out _).trans (((cell_far (p := ⟨gb412, _, none⟩) NB398_412.out _).trans (hHeld.2.2.2.2.1)))), ((cell_far (p := ⟨gb412, _, none⟩) NB398_412.out _).trans (((cell_far (p := ⟨gb412, _, none⟩) NB398_412.out _).trans (hHeld.2.2.2.2.2.1)))), ((cell_far (p := ⟨gb412, _, none⟩) NB405_412.out _).trans (((cell_far (p := ⟨gb412, _, none⟩) NB405_412.out _).trans (hHeld.2.2.2.2.2.2.1)))), ((cell_far (p := ⟨gb412, _, none⟩) NB405_412.out _).trans (((cell_far (p := ⟨gb412, _, none⟩) NB405_412.out _).trans (hHeld.2.2.2.2.2.2.2))))⟩ (fun hHeld => ?_)
         clear hK K
         refine pI (v := ?_) (a' := ?_) rfl (any_of HT_.out (by kernel_rfl)) (fun _ _ _ h => h) (Or.inl ⟨by rfl, ?_⟩) ?_ ?_
         rotate_left
         ·intro w'
          go_simp
          with_reducible rfl
         rotate_left
         ·show Act.put _ (some _) _ = _
          simp only [Act.put, List.setIfInBounds_toArray, List.set_cons_zero, List.set_cons_succ, i64_w, i32_w]
          rfl
         refine done_ (done_of HT_.out (by kernel_rfl)) ?_
         have u64 := kO NB412_396; have u65 := kO NB412_397; have u66 := kO NB412_398; have u67 := kO NB412_405
         have z68 := c2 BK412
         try go_wp2
         go_roundg k2
         case measure => have := HJ4.out; have := HK2.out; omega
         case rel => exact ⟨(x10_2), (wrap64 (x30_2 + 1)), (by first | rfl | (simp; done) | (simp [*]; done)), H', ⟨by have := HJ4.out; have := HK2.out; omega⟩, ⟨by (with_reducible repeat (first | apply Kd.R_alloc | apply Kd.R_drewN | apply Kd.R_drew)); exact Kd.R_mono (Kd.R_far (p := ⟨gb412, 1, none⟩) (Kd.R_far (p := ⟨gb412, 0, none⟩) (Kd.R_mono HO_10.out (fun k_ hk => (⟨hk, hk.2.2⟩ : _ ∧ k_ ≠ gb412))) (fun _ hk => hk.2) (.int .i64 t409)) (fun _ hk => hk.2) (.int .i64 t410)) (fun _ hk => hk.1.1)⟩, ⟨by (with_reducible repeat (first | apply Kd.R_alloc | apply Kd.R_drewN | apply Kd.R_drew)); exact Kd.R_mono (Kd.R_far (p := ⟨gb412, 1, none⟩) (Kd.R_far (p := ⟨gb412, 0, none⟩) (Kd.R_mono HO_28.out (fun k_ hk => (⟨hk, hk.2.2⟩ : _ ∧ k_ ≠ gb412))) (fun _ hk => hk.2) (.int .i64 t409)) (fun _ hk => hk.2) (.int .i64 t410)) (fun _ hk => hk.1.1)⟩, ⟨by (with_reducible repeat (first | refine kN ?_ _ | refine kD ?_ | refine kA ?_ _)); refine kR ?_ NB396_412.out _; (with_reducible repeat (first | refine kN ?_ _ | refine kD ?_ | refine kA ?_ _)); refine kR ?_ NB396_412.out _; (with_reducible repeat (first | refine kN ?_ _ | refine kD ?_ | refine kA ?_ _)); exact BK396.out⟩, ⟨by (with_reducible repeat (first | refine kN ?_ _ | refine kD ?_ | refine kA ?_ _)); refine kR ?_ NB397_412.out _; (with_reducible repeat (first | refine kN ?_ _ | refine kD ?_ | refine kA ?_ _)); refine kR ?_ NB397_412.out _; (with_reducible repeat (first | refine kN ?_ _ | refine kD ?_ | refine kA ?_ _)); exact BK397.out⟩, ⟨by (with_reducible repeat (first | refine kN ?_ _ | refine kD ?_ | refine kA ?_ _)); refine kR ?_ NB398_412.out _; (with_reducible repeat (first | refine kN ?_ _ | refine kD ?_ | refine kA ?_ _)); refine kR ?_ NB398_412.out _; (with_reducible repeat (first | refine kN ?_ _ | refine kD ?_ | refine kA ?_ _)); exact BK398.out⟩, ⟨by repeat (first | (with_reducible first | exact HB.out | apply bA | apply bN | apply bD | refine bX ?_ (by assumption)) | exact HB.out)⟩⟩
       replace c28 := Bool.eq_false_iff.mpr c28
       subst c28
       have H1 : (spec_ThreeMeet.l0 k2 x10_2 t399 (t399.length : Int) (wrap64 (x30_2 + 1)) a0_0 a0_1 a0_2 a2_0 a2_1 a2_2) = some (r1, r2) := by rw [if_neg (show ¬ (false = true) by decide)] at H; exact H
       clear H
       have H := H1
       clear H1
       focus
        have H' := Am H
        clear H
        have p404 : 0 ≤ (x30_2 : Int) := of_decide_eq_true (by first | (with_reducible assumption) | assumption)
        have q404 : x30_2 < (t399.length : Int) := of_decide_eq_true (by first | (with_reducible assumption) | assumption)
        obtain ⟨ad404, e404, hx404_0, hx404_1⟩ := at_T23 (Kd.R_reads' HO_28.out).2.2 x30_2 p404 q404
        cases e404
        replace p404 := eq_true p404
        replace q404 := eq_true q404
        try go_wp2_with (first | ((with_reducible refine gate_dst (N := 12) rfl ?_); refine bE 12 #[.int .i64 0, .int .i64 0] 23 ?_; intro gb405 hg w69 hbox hb; have n0_ := Am (Kd.R_below (Kd.R_elderB (kW HO_10) gb405 (Nat.le_of_eq hg.symm)) hb); have n1_ := Am (Kd.R_below (Kd.R_elderB (kW HO_28) gb405 (Nat.le_of_eq hg.symm)) hb); have hp0 := pA BK396 hb; have hv := vK HB hb; have n5_ := Am (bT hv hb); have n6_ := Am (hbox); have GW405 := kG hg hv; have GE405 := kG hg hv; have hp1 := pK BK396 hb; obtain ⟨NB396_405, NB405_396⟩ := kXY hg hp1 BK396; obtain ⟨NB397_405, NB405_397⟩ := kXY hg hp1 BK397; obtain ⟨NB398_405, NB405_398⟩ := kXY hg hp1 BK398; clear HO_10; clear HO_28; clear HB; have HO_10 := n0_; have HO_28 := n1_; replace BK396 := hp0 BK396; replace BK397 := hp0 BK397; replace BK398 := hp0 BK398; have HB := n5_; have BK405 := n6_; clear n0_ n1_ n5_ n6_ hp0 hp1 hv; clear hb hbox hg; have u70 := kO NB405_396; have u71 := kO NB405_397; have u72 := kO NB405_398; have z73 := c2 BK405))
        have n0_ : Aside0 (Kd.R k23 23 ((w69.setCell ⟨gb405, 0, none⟩ (.int .i64 ((rd_T23 t399 x30_2).f0))).setCell ⟨gb405, 1, none⟩ (.int .i64 ((rd_T23 t399 x30_2).f1))) w.heap.size (fun k_ => some k_ ≠ (.slice (some ad404) t399.length co22 : Value).ownBlock ∧ k_ ≠ gb405) u10 x10_2) := ⟨by (with_reducible repeat (first | apply Kd.R_alloc | apply Kd.R_drewN | apply Kd.R_drew)); exact Kd.R_mono (Kd.R_far (p := ⟨gb405, 1, none⟩) (Kd.R_far (p := ⟨gb405, 0, none⟩) (Kd.R_mono HO_10.out (fun k_ hk => (⟨hk, hk.2⟩ : _ ∧ k_ ≠ gb405))) (fun _ hk => hk.2) (.int .i64 ((rd_T23 t399 x30_2).f0))) (fun _ hk => hk.2) (.int .i64 ((rd_T23 t399 x30_2).f1))) (fun _ hk => ⟨hk.1.1, hk.1.2⟩)⟩
        have n1_ : Aside0 (Kd.R k23 23 ((w69.setCell ⟨gb405, 0, none⟩ (.int .i64 ((rd_T23 t399 x30_2).f0))).setCell ⟨gb405, 1, none⟩ (.int .i64 ((rd_T23 t399 x30_2).f1))) w.heap.size (fun k_ => some k_ ≠ (u10 : Value).ownBlock ∧ k_ ≠ gb405) (.slice (some ad404) t399.length co22) t399) := ⟨by (with_reducible repeat (first | apply Kd.R_alloc | apply Kd.R_drewN | apply Kd.R_drew)); exact Kd.R_mono (Kd.R_far (p := ⟨gb405, 1, none⟩) (Kd.R_far (p := ⟨gb405, 0, none⟩) (Kd.R_mono HO_28.out (fun k_ hk => (⟨hk, hk.2⟩ : _ ∧ k_ ≠ gb405))) (fun _ hk => hk.2) (.int .i64 ((rd_T23 t399 x30_2).f0))) (fun _ hk => hk.2) (.int .i64 ((rd_T23 t399 x30_2).f1))) (fun _ hk => ⟨hk.1.1, hk.1.2⟩)⟩
        have hq := hqR (W := ((w69.setCell ⟨gb405, 0, none⟩ (.int .i64 ((rd_T23 t399 x30_2).f0))).setCell ⟨gb405, 1, none⟩ (.int .i64 ((rd_T23 t399 x30_2).f1)))) gb405 BK396.out (fun _ _ q_ h_ => by (with_reducible repeat (first | refine kN ?_ _ | refine kD ?_ | refine kA ?_ _ | refine kZ ?_ q_ _)); exact h_)
        have n2_ := Am (hq NB396_405.out BK396.out)
        have n3_ := Am (hq NB397_405.out BK397.out)
        have n4_ := Am (hq NB398_405.out BK398.out)
        have n5_ : Aside0 (((w69.setCell ⟨gb405, 0, none⟩ (.int .i64 ((rd_T23 t399 x30_2).f0))).setCell ⟨gb405, 1, none⟩ (.int .i64 ((rd_T23 t399 x30_2).f1))).heap[gb405]? = some (.cells #[.int .i64 ((rd_T23 t399 x30_2).f0), .int .i64 ((rd_T23 t399 x30_2).f1)] 23 (0, 0))) := ⟨by (with_reducible repeat (first | refine kN ?_ _ | refine kD ?_ | refine kA ?_ _)); refine kP (cs := #[.int .i64 ((rd_T23 t399 x30_2).f0), .int .i64 0]) ?_ 1 _ rfl; (with_reducible repeat (first | refine kN ?_ _ | refine kD ?_ | refine kA ?_ _)); refine kP (cs := #[.int .i64 0, .int .i64 0]) ?_ 0 _ rfl; (with_reducible repeat (first | refine kN ?_ _ | refine kD ?_ | refine kA ?_ _)); exact BK405.out⟩
        have n6_ : Aside0 (Below w.heap.size w ((w69.setCell ⟨gb405, 0, none⟩ (.int .i64 ((rd_T23 t399 x30_2).f0))).setCell ⟨gb405, 1, none⟩ (.int .i64 ((rd_T23 t399 x30_2).f1)))) := ⟨by repeat (first | (with_reducible first | exact HB.out | apply bA | apply bN | apply bD | refine bX ?_ (by assumption)) | exact HB.out)⟩
        clear hq
        (try clear HO_10)
        (try clear HO_28)
        (try clear BK396)
        (try clear BK397)
        (try clear BK398)
        (try clear BK405)
        (try clear HB)
        generalize ((w69.setCell ⟨gb405, 0, none⟩ (.int .i64 ((rd_T23 t399 x30_2).f0))).setCell ⟨gb405, 1, none⟩ (.int .i64 ((rd_T23 t399 x30_2).f1))) = w74 at n0_ n1_ n2_ n3_ n4_ n5_ n6_ ⊢
        have HO_10 := n0_; have HO_28 := n1_; have BK396 := n2_; have BK397 := n3_; have BK398 := n4_; have BK405 := n5_; have HB := n6_
        clear n0_ n1_ n2_ n3_ n4_ n5_ n6_
        have n0_ := Am (Kd.R_drew HO_10.out)
        have n1_ := Am (Kd.R_drew HO_28.out)
        have n2_ := Am (kD BK396.out)
        have n3_ := Am (kD BK397.out)
        have n4_ := Am (kD BK398.out)
        have n5_ := Am (kD BK405.out)
        have n6_ := Am (bD HB.out)
        clear HO_10 HO_28 BK396 BK397 BK398 BK405 HB
        have HO_10 := n0_; have HO_28 := n1_; have BK396 := n2_; have BK397 := n3_; have BK398 := n4_; have BK405 := n5_; have HB := n6_
        clear n0_ n1_ n2_ n3_ n4_ n5_ n6_
        refine start_ (n := 11) (S := fun w' => w'.cell? ⟨gb396, 0, none⟩ = some (.int .i64 a0_0) ∧ w'.cell? ⟨gb396, 1, none⟩ = some (.int .i64 a0_1) ∧ w'.cell? ⟨gb396, 2, none⟩ = some (.int .i64 a0_2) ∧ w'.cell? ⟨gb398, 0, none⟩ = some (.int .i64 a2_0) ∧ w'.cell? ⟨gb398, 1, none⟩ = some (.int .i64 a2_1) ∧ w'.cell? ⟨gb398, 2, none⟩ = some (.int .i64 a2_2) ∧ w'.cell? ⟨gb405, 0, none⟩ = some (.int .i64 ((rd_T23 t399 x30_2).f0)) ∧ w'.cell? ⟨gb405, 1, none⟩ = some (.int .i64 ((rd_T23 t399 x30_2).f1))) (ds := []) (pT 11 0) (by kernel_rfl) rfl rfl ⟨c30 BK396.out, c31 BK396.out, c32 BK396.out, c30 BK398.out, c31 BK398.out, c32 BK398.out, c20 BK405.out, c21 BK405.out⟩ (fun hHeld => ?_); refine with_tabW spec_ThreeMeet.tab8 spec_ThreeMeet.bits8 (fun HT_ HW_ => ?_)
        generalize w74.drew = w75 at HO_10 HO_28 BK396 BK397 BK398 BK405 HB hHeld ⊢
        iterate 2
         refine tI (v := ?_) (a' := ?_) rfl (take_ofW HT_.out HW_.out (by kernel_rfl)) (fun _ _ _ h => h) (Or.inl ⟨by rfl, ?_⟩) hHeld ?_ ?_
         rotate_left
         ·rintro w' ⟨s0, s1, s2, s3, s4, s5, s6, s7⟩
          go_simp
          with_reducible rfl
         rotate_left
         ·show Act.put _ (some _) _ = _
          simp only [Act.put, List.setIfInBounds_toArray, List.set_cons_zero, List.set_cons_succ, i64_w, i32_w]
          rfl
        refine take_ (i := 3) (N := some 38) (v := ?_) (a' := ?_) #[true, true, false, true, false, false, false, false, false, false, false] rfl rfl (take_ofW HT_.out HW_.out (by kernel_rfl)) (fun _ _ _ h => h) (Or.inl ⟨by rfl, ?_⟩) hHeld ?_ ?_
        rotate_left
        ·rintro w' ⟨s0, s1, s2, s3, s4, s5, s6, s7⟩
         go_simp
         with_reducible rfl
        rotate_left
        ·simp only [Act.put, List.setIfInBounds_toArray, List.set_cons_zero, List.set_cons_succ, i64_w, i32_w]
         rfl
        refine join_ (σ := Nat) 2 (pT 11 9) (fun s_ => [(37, .agg #[.int .i64 t406, .int .i64 t407, .int .i64 t408]), (39, .tuple #[.agg #[.int .i64 t409, .int .i64 t410], .bool false]), (13, .pointer (some ⟨s_, 0, none⟩)), (34, .tuple #[.agg #[.int .i64 t409, .int .i64 t410], .bool false]), (40, .agg #[.int .i64 t409, .int .i64 t410]), (41, .bool false)]) (fun s_ w' => (w'.cell? ⟨gb396, 0, none⟩ = some (.int .i64 a0_0) ∧ w'.cell? ⟨gb396, 1, none⟩ = some (.int .i64 a0_1) ∧ w'.cell? ⟨gb396, 2, none⟩ = some (.int .i64 a0_2) ∧ w'.cell? ⟨gb398, 0, none⟩ = some (.int .i64 a2_0) ∧ w'.cell? ⟨gb398, 1, none⟩ = some (.int .i64 a2_1) ∧ w'.cell? ⟨gb398, 2, none⟩ = some (.int .i64 a2_2) ∧ w'.cell? ⟨gb405, 0, none⟩ = some (.int .i64 ((rd_T23 t399 x30_2).f0)) ∧ w'.cell? ⟨gb405, 1, none⟩ = some (.int .i64 ((rd_T23 t399 x30_2).f1))) ∧ (Kd.R k23 23 w' w.heap.size (fun k_ => some k_ ≠ (.slice (some ad404) t399.length co22 : Value).ownBlock ∧ k_ ≠ gb405 ∧ k_ ≠ s_) u10 x10_2) ∧ (Kd.R k23 23 w' w.heap.size (fun k_ => some k_ ≠ (u10 : Value).ownBlock ∧ k_ ≠ gb405 ∧ k_ ≠ s_) (.slice (some ad404) t399.length co22) t399) ∧ (w'.heap[gb396]? = some (.cells #[.int .i64 a0_0, .int .i64 a0_1, .int .i64 a0_2] 25 (0, 0))) ∧ (w'.heap[gb397]? = some (.cells #[.int .i64 a1_0, .int .i64 a1_1, .int .i64 a1_2] 25 (0, 0))) ∧ (w'.heap[gb398]? = some (.cells #[.int .i64 a2_0, .int .i64 a2_1, .int .i64 a2_2] 25 (0, 0))) ∧ (w'.heap[gb405]? = some (.cells #[.int .i64 ((rd_T23 t399 x30_2).f0), .int .i64 ((rd_T23 t399 x30_2).f1)] 23 (0, 0))) ∧ (w'.heap[s_]? = some (.cells #[.int .i64 0, .int .i64 0] 23 (0, 0))) ∧ (w.heap.size ≤ s_) ∧ (w.heap.size ≤ s_) ∧ (gb396 ≠ s_) ∧ (s_ ≠ gb396) ∧ (gb397 ≠ s_) ∧ (s_ ≠ gb397) ∧ (gb398 ≠ s_) ∧ (s_ ≠ gb398) ∧ (gb405 ≠ s_) ∧ (s_ ≠ gb405) ∧ (Below w.heap.size w w')) ?_ ?_
        rotate_left
        ·intro hCont
         refine two_ (i := 2) (j := 8) (Ni := some 37) (Nj := some 13) (pT 11 4) #[true, true, false, true, false, false, false, false, true, false, false] rfl rfl rfl rfl (two_of HT_.out (by kernel_rfl)) (by decide) (by decide) (fun K hK => ?_) (fun K hK => ?_)
         ·skip
          refine goes_ Try.func28 (by kernel_rfl) rfl #[.agg #[.int .i64 a0_0, .int .i64 a0_1, .int .i64 a0_2], .agg #[.int .i64 a2_0, .int .i64 a2_1, .int .i64 a2_2]] (by rfl) rfl rfl (by (try simp only [List.map_toArray, List.map_cons, List.map_nil]); first | done | rfl | (simp only [List.length_drop, List.length_take]; rfl)) ?_
          with_reducible refine (spec_meRelative.calls k2 a0_0 a0_1 a0_2 a2_0 a2_1 a2_2 t406 t407 t408 _ A26.out).mono ?_
          rintro e w76 ⟨rfl, hb⟩
          refine ⟨_, rfl, ?_⟩
          have n0_ := Am (Kd.R_below (kW HO_10) hb)
          have n1_ := Am (Kd.R_below (kW HO_28) hb)
          have hp0 := pA BK396 hb
          have hv := vK HB hb
          have n6_ := Am (bT hv hb)
          clear HO_10 HO_28 HB
          have HO_10 := n0_; have HO_28 := n1_
          replace BK396 := hp0 BK396; replace BK397 := hp0 BK397; replace BK398 := hp0 BK398; replace BK405 := hp0 BK405
          have HB := n6_
          clear n0_ n1_ n6_ hp0 hv
          (try clear hb)
          refine hK.out _ _ ⟨c30 BK396.out, c31 BK396.out, c32 BK396.out, c30 BK398.out, c31 BK398.out, c32 BK398.out, c20 BK405.out, c21 BK405.out⟩ (fun hHeld => ?_)
          clear hK K
          refine norm_ (a' := ?_) ?_ ?_
          rotate_left
          ·show Act.put _ (some 37) _ = _
           simp only [Act.put, List.setIfInBounds_toArray, List.set_cons_zero, List.set_cons_succ, i64_w, i32_w]
           rfl
          refine two_ (i := 4) (j := 8) (Ni := some 39) (Nj := some 13) (pT 11 5) #[true, true, true, true, false, false, false, false, true, false, false] rfl rfl rfl rfl (two_of HT_.out (by kernel_rfl)) (by decide) (by decide) (fun K hK => ?_) (fun K hK => ?_)
          ·skip
           refine goes_ Try.func36 (by kernel_rfl) rfl #[.agg #[.int .i64 t406, .int .i64 t407, .int .i64 t408], .agg #[.int .i64 ((rd_T23 t399 x30_2).f0), .int .i64 ((rd_T23 t399 x30_2).f1)]] (by rfl) rfl rfl (by (try simp only [List.map_toArray, List.map_cons, List.map_nil]); first | done | rfl | (simp only [List.length_drop, List.length_take]; rfl)) ?_
           with_reducible refine (spec_meAt.calls k2 t406 t407 t408 ((rd_T23 t399 x30_2).f0) ((rd_T23 t399 x30_2).f1) t409 t410 false _ A27.out).mono ?_
           rintro e w77 ⟨rfl, hb⟩
           refine ⟨_, rfl, ?_⟩
           have n0_ := Am (Kd.R_below (kW HO_10) hb)
           have n1_ := Am (Kd.R_below (kW HO_28) hb)
           have hp0 := pA BK396 hb
           have hv := vK HB hb
           have n6_ := Am (bT hv hb)
           clear HO_10 HO_28 HB
           have HO_10 := n0_; have HO_28 := n1_
           replace BK396 := hp0 BK396; replace BK397 := hp0 BK397; replace BK398 := hp0 BK398; replace BK405 := hp0 BK405
           have HB := n6_
           clear n0_ n1_ n6_ hp0 hv
           (try clear hb)
           refine hK.out _ _ ⟨c30 BK396.out, c31 BK396.out, c32 BK396.out, c30 BK398.out, c31 BK398.out, c32 BK398.out, c20 BK405.out, c21 BK405.out⟩ (fun hHeld => ?_)
           clear hK K
           refine norm_ (a' := ?_) ?_ ?_
           rotate_left
           ·show Act.put _ (some 39) _ = _
            simp only [Act.put, List.setIfInBounds_toArray, List.set_cons_zero, List.set_cons_succ, i64_w, i32_w]
            rfl
           iterate 3
            refine pI (v := ?_) (a' := ?_) rfl (any_of HT_.out (by kernel_rfl)) (fun _ _ _ h => h) (Or.inl ⟨by rfl, ?_⟩) ?_ ?_
            rotate_left
            ·intro w'
             go_simp
             with_reducible rfl
            rotate_left
            ·show Act.put _ (some _) _ = _
             simp only [Act.put, List.setIfInBounds_toArray, List.set_cons_zero, List.set_cons_succ, i64_w, i32_w]
             rfl
           refine one_ (i := 8) (N := some 13) (pT 11 9) rfl rfl (one_of HT_.out (by kernel_rfl)) (by decide) (fun K hK => ?_)
           refine box_step ?hg (N := 13) ?hd (cs := #[.int .i64 0, .int .i64 0]) (t := 23) ?hr ?_; (case hd => rfl); (case hg => rfl); (case hr => first | (go_simp; done) | (go_simp; rfl))
           intro gb412 hg w78 hbox hb
           have n0_ := Am (Kd.R_below (Kd.R_elderB (kW HO_10) gb412 (Nat.le_of_eq hg.symm)) hb)
           have n1_ := Am (Kd.R_below (Kd.R_elderB (kW HO_28) gb412 (Nat.le_of_eq hg.symm)) hb)
           have hp0 := pA BK396 hb
           have hv := vK HB hb
           have n6_ := Am (bT hv hb)
           have n7_ := Am (hbox)
           have GW412 := kG hg hv
           have GE412 := kG hg hv
           have hp1 := pK BK396 hb
           obtain ⟨NB396_412, NB412_396⟩ := kXY hg hp1 BK396
           obtain ⟨NB397_412, NB412_397⟩ := kXY hg hp1 BK397
           obtain ⟨NB398_412, NB412_398⟩ := kXY hg hp1 BK398
           obtain ⟨NB405_412, NB412_405⟩ := kXY hg hp1 BK405
           clear HO_10 HO_28 HB
           have HO_10 := n0_; have HO_28 := n1_
           replace BK396 := hp0 BK396; replace BK397 := hp0 BK397; replace BK398 := hp0 BK398; replace BK405 := hp0 BK405
           have HB := n6_; have BK412 := n7_
           clear n6_ n7_ hp0 hp1 hv hb hbox hg
           refine hK.out _ _ ⟨c30 BK396.out, c31 BK396.out, c32 BK396.out, c30 BK398.out, c31 BK398.out, c32 BK398.out, c20 BK405.out, c21 BK405.out⟩ (fun hHeld => ?_)
           clear hK K
           refine norm_ (a' := ?_) ?_ ?_
           rotate_left
           ·show Act.put _ (some 13) _ = _
            simp only [Act.put, List.setIfInBounds_toArray, List.set_cons_zero, List.set_cons_succ, i64_w, i32_w]
            rfl
           exact norm_ (by simp only [putAll, Act.put, List.setIfInBounds_toArray, List.set_cons_zero, List.set_cons_succ]) (hCont (gb412) _ ⟨hHeld, (by (with_reducible repeat (first | apply Kd.R_alloc | apply Kd.R_drewN | apply Kd.R_drew)); exact Kd.R_mono HO_10.out (fun _ hk => ⟨hk.1.1, ⟨hk.1.2, hk.2⟩⟩)), (by (with_reducible repeat (first | apply Kd.R_alloc | apply Kd.R_drewN | apply Kd.R_drew)); exact Kd.R_mono HO_28.out (fun _ hk => ⟨hk.1.1, ⟨hk.1.2, hk.2⟩⟩)), (kU BK396), (kU BK397), (kU BK398), (kU BK405), (kU BK412), GW412.out, GE412.out, NB396_412.out, NB412_396.out, NB397_412.out, NB412_397.out, NB398_412.out, NB412_398.out, NB405_412.out, NB412_405.out, (by repeat (first | (with_reducible first | exact HB.out | apply bA | apply bN | apply bD | refine bX ?_ (by assumption)) | exact HB.out))⟩)
          skip
          refine box_step ?hg (N := 13) ?hd (cs := #[.int .i64 0, .int .i64 0]) (t := 23) ?hr ?_; (case hd => rfl); (case hg => rfl); (case hr => first | (go_simp; done) | (go_simp; rfl))
          intro gb412 hg w77 hbox hb
          have n0_ := Am (Kd.R_below (Kd.R_elderB (kW HO_10) gb412 (Nat.le_of_eq hg.symm)) hb)
          have n1_ := Am (Kd.R_below (Kd.R_elderB (kW HO_28) gb412 (Nat.le_of_eq hg.symm)) hb)
          have hp0 := pA BK396 hb
          have hv := vK HB hb
          have n6_ := Am (bT hv hb)
          have n7_ := Am (hbox)
          have GW412 := kG hg hv
          have GE412 := kG hg hv
          have hp1 := pK BK396 hb
          obtain ⟨NB396_412, NB412_396⟩ := kXY hg hp1 BK396
          obtain ⟨NB397_412, NB412_397⟩ := kXY hg hp1 BK397
          obtain ⟨NB398_412, NB412_398⟩ := kXY hg hp1 BK398
          obtain ⟨NB405_412, NB412_405⟩ := kXY hg hp1 BK405
          clear HO_10 HO_28 HB
          have HO_10 := n0_; have HO_28 := n1_
          replace BK396 := hp0 BK396; replace BK397 := hp0 BK397; replace BK398 := hp0 BK398; replace BK405 := hp0 BK405
          have HB := n6_; have BK412 := n7_
          clear n6_ n7_ hp0 hp1 hv hb hbox hg
          refine hK.out _ _ ⟨c30 BK396.out, c31 BK396.out, c32 BK396.out, c30 BK398.out, c31 BK398.out, c32 BK398.out, c20 BK405.out, c21 BK405.out⟩ (fun hHeld => ?_)
          clear hK K
          refine norm_ (a' := ?_) ?_ ?_
          rotate_left
          ·show Act.put _ (some 13) _ = _
           simp only [Act.put, List.setIfInBounds_toArray, List.set_cons_zero, List.set_cons_succ, i64_w, i32_w]
           rfl
          refine one_ (i := 4) (N := some 39) #[true, true, true, true, true, false, false, false, true, false, false] rfl rfl (one_of HT_.out (by kernel_rfl)) (by decide) (fun K hK => ?_)
          refine goes_ Try.func36 (by kernel_rfl) rfl #[.agg #[.int .i64 t406, .int .i64 t407, .int .i64 t408], .agg #[.int .i64 ((rd_T23 t399 x30_2).f0), .int .i64 ((rd_T23 t399 x30_2).f1)]] (by rfl) rfl rfl (by (try simp only [List.map_toArray, List.map_cons, List.map_nil]); first | done | rfl | (simp only [List.length_drop, List.length_take]; rfl)) ?_
          with_reducible refine (spec_meAt.calls k2 t406 t407 t408 ((rd_T23 t399 x30_2).f0) ((rd_T23 t399 x30_2).f1) t409 t410 false _ A27.out).mono ?_
          rintro e w78 ⟨rfl, hb⟩
          refine ⟨_, rfl, ?_⟩
          have n0_ := Am (Kd.R_below (kW HO_10) hb)
          have n1_ := Am (Kd.R_below (kW HO_28) hb)
          have hp0 := pA BK396 hb
          have hv := vK HB hb
          have n7_ := Am (bT hv hb)
          clear HO_10 HO_28 HB
          have HO_10 := n0_; have HO_28 := n1_
          replace BK396 := hp0 BK396; replace BK397 := hp0 BK397; replace BK398 := hp0 BK398; replace BK405 := hp0 BK405; replace BK412 := hp0 BK412
          have HB := n7_
          clear n0_ n1_ n7_ hp0 hv
          (try clear hb)
          refine hK.out _ _ ⟨c30 BK396.out, c31 BK396.out, c32 BK396.out, c30 BK398.out, c31 BK398.out, c32 BK398.out, c20 BK405.out, c21 BK405.out⟩ (fun hHeld => ?_)
          clear hK K
          refine norm_ (a' := ?_) ?_ ?_
          rotate_left
          ·show Act.put _ (some 39) _ = _
           simp only [Act.put, List.setIfInBounds_toArray, List.set_cons_zero, List.set_cons_succ, i64_w, i32_w]
           rfl
          refine pure_ (i := 5) (N := some 34) (v := ?_) (a' := ?_) #[true, true, true, true, true, true, false, false, true, false, false] rfl rfl (any_of HT_.out (by kernel_rfl)) (fun _ _ _ h => h) (Or.inl ⟨by rfl, ?_⟩) ?_ ?_
          rotate_left
          ·intro w'
           go_simp
           with_reducible rfl
          rotate_left
          ·simp only [Act.put, List.setIfInBounds_toArray, List.set_cons_zero, List.set_cons_succ, i64_w, i32_w]
           rfl
          refine pure_ (i := 6) (N := some 40) (v := ?_) (a' := ?_) #[true, true, true, true, true, true, true, false, true, false, false] rfl rfl (any_of HT_.out (by kernel_rfl)) (fun _ _ _ h => h) (Or.inl ⟨by rfl, ?_⟩) ?_ ?_
          rotate_left
          ·intro w'
           go_simp
           with_reducible rfl
          rotate_left
          ·simp only [Act.put, List.setIfInBounds_toArray, List.set_cons_zero, List.set_cons_succ, i64_w, i32_w]
           rfl
          refine pure_ (i := 7) (N := some 41) (v := ?_) (a' := ?_) (pT 11 9) rfl rfl (any_of HT_.out (by kernel_rfl)) (fun _ _ _ h => h) (Or.inl ⟨by rfl, ?_⟩) ?_ ?_
          rotate_left
          ·intro w'
           go_simp
           with_reducible rfl
          rotate_left
          ·simp only [Act.put, List.setIfInBounds_toArray, List.set_cons_zero, List.set_cons_succ, i64_w, i32_w]
           rfl
          exact norm_ (by simp only [putAll, Act.put, List.setIfInBounds_toArray, List.set_cons_zero, List.set_cons_succ]) (hCont (gb412) _ ⟨hHeld, (by (with_reducible repeat (first | apply Kd.R_alloc | apply Kd.R_drewN | apply Kd.R_drew)); exact Kd.R_mono HO_10.out (fun _ hk => ⟨hk.1.1, ⟨hk.1.2, hk.2⟩⟩)), (by (with_reducible repeat (first | apply Kd.R_alloc | apply Kd.R_drewN | apply Kd.R_drew)); exact Kd.R_mono HO_28.out (fun _ hk => ⟨hk.1.1, ⟨hk.1.2, hk.2⟩⟩)), (kU BK396), (kU BK397), (kU BK398), (kU BK405), (kU BK412), GW412.out, GE412.out, NB396_412.out, NB412_396.out, NB397_412.out, NB412_397.out, NB398_412.out, NB412_398.out, NB405_412.out, NB412_405.out, (by repeat (first | (with_reducible first | exact HB.out | apply bA | apply bN | apply bD | refine bX ?_ (by assumption)) | exact HB.out))⟩)
         skip
         refine box_step ?hg (N := 13) ?hd (cs := #[.int .i64 0, .int .i64 0]) (t := 23) ?hr ?_; (case hd => rfl); (case hg => rfl); (case hr => first | (go_simp; done) | (go_simp; rfl))
         intro gb412 hg w76 hbox hb
         have n0_ := Am (Kd.R_below (Kd.R_elderB (kW HO_10) gb412 (Nat.le_of_eq hg.symm)) hb)
         have n1_ := Am (Kd.R_below (Kd.R_elderB (kW HO_28) gb412 (Nat.le_of_eq hg.symm)) hb)
         have hp0 := pA BK396 hb
         have hv := vK HB hb
         have n6_ := Am (bT hv hb)
         have n7_ := Am (hbox)
         have GW412 := kG hg hv
         have GE412 := kG hg hv
         have hp1 := pK BK396 hb
         obtain ⟨NB396_412, NB412_396⟩ := kXY hg hp1 BK396
         obtain ⟨NB397_412, NB412_397⟩ := kXY hg hp1 BK397
         obtain ⟨NB398_412, NB412_398⟩ := kXY hg hp1 BK398
         obtain ⟨NB405_412, NB412_405⟩ := kXY hg hp1 BK405
         clear HO_10 HO_28 HB
         have HO_10 := n0_; have HO_28 := n1_
         replace BK396 := hp0 BK396; replace BK397 := hp0 BK397; replace BK398 := hp0 BK398; replace BK405 := hp0 BK405
         have HB := n6_; have BK412 := n7_
         clear n6_ n7_ hp0 hp1 hv hb hbox hg
         refine hK.out _ _ ⟨c30 BK396.out, c31 BK396.out, c32 BK396.out, c30 BK398.out, c31 BK398.out, c32 BK398.out, c20 BK405.out, c21 BK405.out⟩ (fun hHeld => ?_)
         clear hK K
         refine norm_ (a' := ?_) ?_ ?_
         rotate_left
         ·show Act.put _ (some 13) _ = _
          simp only [Act.put, List.setIfInBounds_toArray, List.set_cons_zero, List.set_cons_succ, i64_w, i32_w]
          rfl
         refine one_ (i := 2) (N := some 37) #[true, true, true, true, false, false, false, false, true, false, false] rfl rfl (one_of HT_.out (by kernel_rfl)) (by decide) (fun K hK => ?_)
         refine goes_ Try.func28 (by kernel_rfl) rfl #[.agg #[.int .i64 a0_0, .int .i64 a0_1, .int .i64 a0_2], .agg #[.int .i64 a2_0, .int .i64 a2_1, .int .i64 a2_2]] (by rfl) rfl rfl (by (try simp only [List.map_toArray, List.map_cons, List.map_nil]); first | done | rfl | (simp only [List.length_drop, List.length_take]; rfl)) ?_
         with_reducible refine (spec_meRelative.calls k2 a0_0 a0_1 a0_2 a2_0 a2_1 a2_2 t406 t407 t408 _ A26.out).mono ?_
         rintro e w77 ⟨rfl, hb⟩
         refine ⟨_, rfl, ?_⟩
         have n0_ := Am (Kd.R_below (kW HO_10) hb)
         have n1_ := Am (Kd.R_below (kW HO_28) hb)
         have hp0 := pA BK396 hb
         have hv := vK HB hb
         have n7_ := Am (bT hv hb)
         clear HO_10 HO_28 HB
         have HO_10 := n0_; have HO_28 := n1_
         replace BK396 := hp0 BK396; replace BK397 := hp0 BK397; replace BK398 := hp0 BK398; replace BK405 := hp0 BK405; replace BK412 := hp0 BK412
         have HB := n7_
         clear n0_ n1_ n7_ hp0 hv
         (try clear hb)
         refine hK.out _ _ ⟨c30 BK396.out, c31 BK396.out, c32 BK396.out, c30 BK398.out, c31 BK398.out, c32 BK398.out, c20 BK405.out, c21 BK405.out⟩ (fun hHeld => ?_)
         clear hK K
         refine norm_ (a' := ?_) ?_ ?_
         rotate_left
         ·show Act.put _ (some 37) _ = _
          simp only [Act.put, List.setIfInBounds_toArray, List.set_cons_zero, List.set_cons_succ, i64_w, i32_w]
          rfl
         refine one_ (i := 4) (N := some 39) #[true, true, true, true, true, false, false, false, true, false, false] rfl rfl (one_of HT_.out (by kernel_rfl)) (by decide) (fun K hK => ?_)
         refine goes_ Try.func36 (by kernel_rfl) rfl #[.agg #[.int .i64 t406, .int .i64 t407, .int .i64 t408], .agg #[.int .i64 ((rd_T23 t399 x30_2).f0), .int .i64 ((rd_T23 t399 x30_2).f1)]] (by rfl) rfl rfl (by (try simp only [List.map_toArray, List.map_cons, List.map_nil]); first | done | rfl | (simp only [List.length_drop, List.length_take]; rfl)) ?_
         with_reducible refine (spec_meAt.calls k2 t406 t407 t408 ((rd_T23 t399 x30_2).f0) ((rd_T23 t399 x30_2).f1) t409 t410 false _ A27.out).mono ?_
         rintro e w78 ⟨rfl, hb⟩
         refine ⟨_, rfl, ?_⟩
         have n0_ := Am (Kd.R_below (kW HO_10) hb)
         have n1_ := Am (Kd.R_below (kW HO_28) hb)
         have hp0 := pA BK396 hb
         have hv := vK HB hb
         have n7_ := Am (bT hv hb)
         clear HO_10 HO_28 HB
         have HO_10 := n0_; have HO_28 := n1_
         replace BK396 := hp0 BK396; replace BK397 := hp0 BK397; replace BK398 := hp0 BK398; replace BK405 := hp0 BK405; replace BK412 := hp0 BK412
         have HB := n7_
         clear n0_ n1_ n7_ hp0 hv
         (try clear hb)
         refine hK.out _ _ ⟨c30 BK396.out, c31 BK396.out, c32 BK396.out, c30 BK398.out, c31 BK398.out, c32 BK398.out, c20 BK405.out, c21 BK405.out⟩ (fun hHeld => ?_)
         clear hK K
         refine norm_ (a' := ?_) ?_ ?_
         rotate_left
         ·show Act.put _ (some 39) _ = _
          simp only [Act.put, List.setIfInBounds_toArray, List.set_cons_zero, List.set_cons_succ, i64_w, i32_w]
          rfl
         refine pure_ (i := 5) (N := some 34) (v := ?_) (a' := ?_) #[true, true, true, true, true, true, false, false, true, false, false] rfl rfl (any_of HT_.out (by kernel_rfl)) (fun _ _ _ h => h) (Or.inl ⟨by rfl, ?_⟩) ?_ ?_
         rotate_left
         ·intro w'
          go_simp
          with_reducible rfl
         rotate_left
         ·simp only [Act.put, List.setIfInBounds_toArray, List.set_cons_zero, List.set_cons_succ, i64_w, i32_w]
          rfl
         refine pure_ (i := 6) (N := some 40) (v := ?_) (a' := ?_) #[true, true, true, true, true, true, true, false, true, false, false] rfl rfl (any_of HT_.out (by kernel_rfl)) (fun _ _ _ h => h) (Or.inl ⟨by rfl, ?_⟩) ?_ ?_
         rotate_left
         ·intro w'
          go_simp
          with_reducible rfl
         rotate_left
         ·simp only [Act.put, List.setIfInBounds_toArray, List.set_cons_zero, List.set_cons_succ, i64_w, i32_w]
          rfl
         refine pure_ (i := 7) (N := some 41) (v := ?_) (a' := ?_) (pT 11 9) rfl rfl (any_of HT_.out (by kernel_rfl)) (fun _ _ _ h => h) (Or.inl ⟨by rfl, ?_⟩) ?_ ?_
         rotate_left
         ·intro w'
          go_simp
          with_reducible rfl
         rotate_left
         ·simp only [Act.put, List.setIfInBounds_toArray, List.set_cons_zero, List.set_cons_succ, i64_w, i32_w]
          rfl
         exact norm_ (by simp only [putAll, Act.put, List.setIfInBounds_toArray, List.set_cons_zero, List.set_cons_succ]) (hCont (gb412) _ ⟨hHeld, (by (with_reducible repeat (first | apply Kd.R_alloc | apply Kd.R_drewN | apply Kd.R_drew)); exact Kd.R_mono HO_10.out (fun _ hk => ⟨hk.1.1, ⟨hk.1.2, hk.2⟩⟩)), (by (with_reducible repeat (first | apply Kd.R_alloc | apply Kd.R_drewN | apply Kd.R_drew)); exact Kd.R_mono HO_28.out (fun _ hk => ⟨hk.1.1, ⟨hk.1.2, hk.2⟩⟩)), (kU BK396), (kU BK397), (kU BK398), (kU BK405), (kU BK412), GW412.out, GE412.out, NB396_412.out, NB412_396.out, NB397_412.out, NB412_397.out, NB398_412.out, NB412_398.out, NB405_412.out, NB412_405.out, (by repeat (first | (with_reducible first | exact HB.out | apply bA | apply bN | apply bD | refine bX ?_ (by assumption)) | exact HB.out))⟩)
        rintro gb412 w79 ⟨hS_, h0_, h1_, h2_, h3_, h4_, h5_, h6_, h7_, h8_, h9_, h10_, h11_, h12_, h13_, h14_, h15_, h16_, h17_⟩
        have n0_ : Aside0 (Kd.R k23 23 w79 w.heap.size (fun k_ => some k_ ≠ (.slice (some ad404) t399.length co22 : Value).ownBlock ∧ k_ ≠ gb405 ∧ k_ ≠ gb412) u10 x10_2) := ⟨h0_⟩
        have n1_ : Aside0 (Kd.R k23 23 w79 w.heap.size (fun k_ => some k_ ≠ (u10 : Value).ownBlock ∧ k_ ≠ gb405 ∧ k_ ≠ gb412) (.slice (some ad404) t399.length co22) t399) := ⟨h1_⟩
        have n2_ : Aside0 (w79.heap[gb396]? = some (.cells #[.int .i64 a0_0, .int .i64 a0_1, .int .i64 a0_2] 25 (0, 0))) := ⟨h2_⟩
        have n3_ : Aside0 (w79.heap[gb397]? = some (.cells #[.int .i64 a1_0, .int .i64 a1_1, .int .i64 a1_2] 25 (0, 0))) := ⟨h3_⟩
        have n4_ : Aside0 (w79.heap[gb398]? = some (.cells #[.int .i64 a2_0, .int .i64 a2_1, .int .i64 a2_2] 25 (0, 0))) := ⟨h4_⟩
        have n5_ : Aside0 (w79.heap[gb405]? = some (.cells #[.int .i64 ((rd_T23 t399 x30_2).f0), .int .i64 ((rd_T23 t399 x30_2).f1)] 23 (0, 0))) := ⟨h5_⟩
        have n6_ : Aside0 (w79.heap[gb412]? = some (.cells #[.int .i64 0, .int .i64 0] 23 (0, 0))) := ⟨h6_⟩
        have n7_ : Aside0 (w.heap.size ≤ gb412) := ⟨h7_⟩
        have n8_ : Aside0 (w.heap.size ≤ gb412) := ⟨h8_⟩
        have n9_ : Aside0 (gb396 ≠ gb412) := ⟨h9_⟩
        have n10_ : Aside0 (gb412 ≠ gb396) := ⟨h10_⟩
        have n11_ : Aside0 (gb397 ≠ gb412) := ⟨h11_⟩
        have n12_ : Aside0 (gb412 ≠ gb397) := ⟨h12_⟩
        have n13_ : Aside0 (gb398 ≠ gb412) := ⟨h13_⟩
        have n14_ : Aside0 (gb412 ≠ gb398) := ⟨h14_⟩
        have n15_ : Aside0 (gb405 ≠ gb412) := ⟨h15_⟩
        have n16_ : Aside0 (gb412 ≠ gb405) := ⟨h16_⟩
        have n17_ : Aside0 (Below w.heap.size w w79) := ⟨h17_⟩
        clear HO_10 HO_28 BK396 BK397 BK398 BK405 HB h0_ h1_ h2_ h3_ h4_ h5_ h6_ h7_ h8_ h9_ h10_ h11_ h12_ h13_ h14_ h15_ h16_ h17_
        have HO_10 := n0_; have HO_28 := n1_; have BK396 := n2_; have BK397 := n3_; have BK398 := n4_; have BK405 := n5_; have BK412 := n6_; have GW412 := n7_; have GE412 := n8_; have NB396_412 := n9_; have NB412_396 := n10_; have NB397_412 := n11_; have NB412_397 := n12_; have NB398_412 := n13_; have NB412_398 := n14_; have NB405_412 := n15_; have NB412_405 := n16_; have HB := n17_
        clear n0_ n1_ n2_ n3_ n4_ n5_ n6_ n7_ n8_ n9_ n10_ n11_ n12_ n13_ n14_ n15_ n16_ n17_
        have hHeld : w79.cell? ⟨gb396, 0, none⟩ = some (.int .i64 a0_0) ∧ w79.cell? ⟨gb396, 1, none⟩ = some (.int .i64 a0_1) ∧ w79.cell? ⟨gb396, 2, none⟩ = some (.int .i64 a0_2) ∧ w79.cell? ⟨gb398, 0, none⟩ = some (.int .i64 a2_0) ∧ w79.cell? ⟨gb398, 1, none⟩ = some (.int .i64 a2_1) ∧ w79.cell? ⟨gb398, 2, none⟩ = some (.int .i64 a2_2) ∧ w79.cell? ⟨gb405, 0, none⟩ = some (.int .i64 ((rd_T23 t399 x30_2).f0)) ∧ w79.cell? ⟨gb405, 1, none⟩ = some (.int .i64 ((rd_T23 t399 x30_2).f1)) := hS_
        refine norm_ (a' := ?_) ?_ ?_
        rotate_left
        ·simp only [putAll, Act.put, List.setIfInBounds_toArray, List.set_cons_zero, List.set_cons_succ]
         rfl
        refine one_ (i := 9) (N := none) (pT 11 10) rfl rfl (one_of HT_.out (by kernel_rfl)) (by decide) (fun K hK => ?_)
        have hs80 : w79.cell? ⟨gb412, 0, none⟩ = some (.int .i64 0) := c20 BK412.out
        have hfs80 := kF BK412.out 0
        have hns80_0 := NB396_412.out; have hns80_1 := NB397_412.out; have hns80_2 := NB398_412.out; have hns80_3 := NB405_412.out; have hms80_0 := NB412_396.out; have hms80_1 := NB412_397.out; have hms80_2 := NB412_398.out; have hms80_3 := NB412_405.out
        have hs81 : w79.cell? ⟨gb412, 1, none⟩ = some (.int .i64 0) := c21 BK412.out
        have hfs81 := kF BK412.out 1
        have hns81_0 := NB396_412.out; have hns81_1 := NB397_412.out; have hns81_2 := NB398_412.out; have hns81_3 := NB405_412.out; have hms81_0 := NB412_396.out; have hms81_1 := NB412_397.out; have hms81_2 := NB412_398.out; have hms81_3 := NB412_405.out
        refine skip_ (w1 := ?_) (by rfl) rfl ?_ ?_
        rotate_left
        ·go_simp
         rfl
        refine hK.out _ _ ⟨((cell_far (p := ⟨gb412, _, none⟩) NB396_412.out _).trans (((cell_far (p := ⟨gb412, _, none⟩) NB396_412.out _).trans (hHeld.1)))), ((cell_far (p := ⟨gb412, _, none⟩) NB396_412.out _).trans (((cell_far (p := ⟨gb412, _, none⟩) NB396_412.out _).trans (hHeld.2.1)))), ((cell_far (p := ⟨gb412, _, none⟩) NB396_412.out _).trans (((cell_far (p := ⟨gb412, _, none⟩) NB396_412.out _).trans (hHeld.2.2.1)))), ((cell_far (p := ⟨gb412, _, none⟩) NB398_412.out _).trans (((cell_far (p := ⟨gb412, _, none⟩) NB398_412.out _).trans (hHeld.2.2.2.1)))), ((cell_far (p := ⟨gb412, _, none⟩) NB398_412.out _).trans (((cell_far (p := ⟨gb412, _, none⟩) NB398_412.out _).trans (hHeld.2.2.2.2.1)))), ((cell_far (p := ⟨gb412, _, none⟩) NB398_412.out _).trans (((cell_far (p := ⟨gb412, _, none⟩) NB398_412.out _).trans (hHeld.2.2.2.2.2.1)))), ((cell_far (p := ⟨gb412, _, none⟩) NB405_412.out _).trans (((cell_far (p := ⟨gb412, _, none⟩) NB405_412.out _).trans (hHeld.2.2.2.2.2.2.1)))), ((cell_far (p := ⟨gb412, _, none⟩) NB405_412.out _).trans (((cell_far (p := ⟨gb412, _, none⟩) NB405_412.out _).trans (hHeld.2.2.2.2.2.2.2))))⟩ (fun hHeld => ?_)
        clear hK K
        refine pI (v := ?_) (a' := ?_) rfl (any_of HT_.out (by kernel_rfl)) (fun _ _ _ h => h) (Or.inl ⟨by rfl, ?_⟩) ?_ ?_
        rotate_left
        ·intro w'
         go_simp
         with_reducible rfl
        rotate_left
        ·show Act.put _ (some _) _ = _
         simp only [Act.put, List.setIfInBounds_toArray, List.set_cons_zero, List.set_cons_succ, i64_w, i32_w]
         rfl
        refine done_ (done_of HT_.out (by kernel_rfl)) ?_
        try go_wp2
        go_roundg k2
        case measure => have := HJ4.out; have := HK2.out; omega
        case rel => exact ⟨(x10_2), (wrap64 (x30_2 + 1)), (by first | rfl | (simp; done) | (simp [*]; done)), H', ⟨by have := HJ4.out; have := HK2.out; omega⟩, ⟨by (with_reducible repeat (first | apply Kd.R_alloc | apply Kd.R_drewN | apply Kd.R_drew)); exact Kd.R_mono (Kd.R_far (p := ⟨gb412, 1, none⟩) (Kd.R_far (p := ⟨gb412, 0, none⟩) (Kd.R_mono HO_10.out (fun k_ hk => (⟨hk, hk.2.2⟩ : _ ∧ k_ ≠ gb412))) (fun _ hk => hk.2) (.int .i64 t409)) (fun _ hk => hk.2) (.int .i64 t410)) (fun _ hk => hk.1.1)⟩, ⟨by (with_reducible repeat (first | apply Kd.R_alloc | apply Kd.R_drewN | apply Kd.R_drew)); exact Kd.R_mono (Kd.R_far (p := ⟨gb412, 1, none⟩) (Kd.R_far (p := ⟨gb412, 0, none⟩) (Kd.R_mono HO_28.out (fun k_ hk => (⟨hk, hk.2.2⟩ : _ ∧ k_ ≠ gb412))) (fun _ hk => hk.2) (.int .i64 t409)) (fun _ hk => hk.2) (.int .i64 t410)) (fun _ hk => hk.1.1)⟩, ⟨by (with_reducible repeat (first | refine kN ?_ _ | refine kD ?_ | refine kA ?_ _)); refine kR ?_ NB396_412.out _; (with_reducible repeat (first | refine kN ?_ _ | refine kD ?_ | refine kA ?_ _)); refine kR ?_ NB396_412.out _; (with_reducible repeat (first | refine kN ?_ _ | refine kD ?_ | refine kA ?_ _)); exact BK396.out⟩, ⟨by (with_reducible repeat (first | refine kN ?_ _ | refine kD ?_ | refine kA ?_ _)); refine kR ?_ NB397_412.out _; (with_reducible repeat (first | refine kN ?_ _ | refine kD ?_ | refine kA ?_ _)); refine kR ?_ NB397_412.out _; (with_reducible repeat (first | refine kN ?_ _ | refine kD ?_ | refine kA ?_ _)); exact BK397.out⟩, ⟨by (with_reducible repeat (first | refine kN ?_ _ | refine kD ?_ | refine kA ?_ _)); refine kR ?_ NB398_412.out _; (with_reducible repeat (first | refine kN ?_ _ | refine kD ?_ | refine kA ?_ _)); refine kR ?_ NB398_412.out _; (with_reducible repeat (first | refine kN ?_ _ | refine kD ?_ | refine kA ?_ _)); exact BK398.out⟩, ⟨by repeat (first | (with_reducible first | exact HB.out | apply bA | apply bN | apply bD | refine bX ?_ (by assumption)) | exact HB.out)⟩⟩
      rw [if_neg c25] at H
      exact absurd H (by simp)
     rw [if_neg c24] at H
     exact absurd H (by simp)
    rw [if_neg c23] at H
    have c23b0 : decide (x30_2 < (t399.length : Int)) = false := decide_eq_false c23
    clear c23
    focus
     simp only [Option.some.injEq, Prod.mk.injEq] at H
     obtain ⟨rfl, rfl⟩ := H
     go_wp2
     go_ret2
     exact ⟨_, by first | rfl | (simp [errW_none, errW_some] <;> rfl) | (simp [*, errW_none, errW_some] <;> rfl), by (with_reducible repeat (first | apply Kd.R_alloc | apply Kd.R_drewN | apply Kd.R_drew)); exact Kd.R_mono HO_10.out (fun _ hk => trivial), by repeat (first | (with_reducible first | exact HB.out | apply bA | apply bN | apply bD | refine bX ?_ (by assumption)) | exact HB.out)⟩
end Go.Proofs.Ytcoembcafgelkaa.PFnHandsAheadOfAll
