-- WRITTEN BY A PROGRAM OF THIS SESSION (wip/tools): its own text, not the kit's printed one.
import Derived.Test.YtioggbokjfdoaaaPFnExactThreeMeetx0
import Derived.Test.YtioggbokjfdoaaaPFnExactThreeMeetx2
import Derived.Test.YtioggbokjfdoaaaPFnExactThreeMeetx3
namespace Go.Proofs.Ytioggbokjfdoaaa.PFnExactThreeMeet
open Go.RowKit Go.Proofs.YtioggbokjfdoaaaW.PrintWords Go.Proofs.YtioggbokjfdoaaaW.PrintLast Go.Proofs.YtioggbokjfdoaaaW.PrintMore
attribute [local go_sem] max2_int min2_int max_two min_two max_three min_three max_four min_four   -- for this text's walks alone
set_option linter.unusedVariables false
set_option linter.unusedSimpArgs false

/-! ### spec_ThreeMeet: function 15 -/
mutual
def spec_ThreeMeet.j0 : Nat → List (S26) → Bool → Int → Int → Int → Int → Int → Int → Option ((List (S26)) × Bool)
 | 0, _, _, _, _, _, _, _, _ => none
 | k + 1, x8, x27, x181000, x181001, x181002, x183000, x183001, x183002 => if x27 = true then (some (([] : List (S26)), false)) else (spec_ThreeMeet.l0 k ([] : List (S26)) x8 (x8.length : Int) 0 x181000 x181001 x181002 x183000 x183001 x183002)
def spec_ThreeMeet.l0 : Nat → List (S26) → List (S26) → Int → Int → Int → Int → Int → Int → Int → Int → Option ((List (S26)) × Bool)
 | 0, _, _, _, _, _, _, _, _, _, _ => none
 | k + 1, x10, x28, x29, x30, x181000, x181001, x181002, x183000, x183001, x183002 => if x30 < x29 then (if 0 ≤ x30 then (if x30 < (x28.length : Int) then ((spec_meRelative.f k x181000 x181001 x181002 x183000 x183001 x183002).bind fun bt190 => ((spec_meAt.f k bt190.1 bt190.2.1 bt190.2.2 ((rd_T26 x28 x30).f0) ((rd_T26 x28 x30).f1)).bind fun bt193 => (if bt193.2.2 = true then (if bt193.1 = 0 then (if x10.length < 8796093022208 then (spec_ThreeMeet.l0 k (x10 ++ [(⟨(rd_T26 x28 x30).f0, (rd_T26 x28 x30).f1⟩ : S26)]) x28 x29 (wrap64 (x30 + 1)) x181000 x181001 x181002 x183000 x183001 x183002) else (none)) else (spec_ThreeMeet.l0 k x10 x28 x29 (wrap64 (x30 + 1)) x181000 x181001 x181002 x183000 x183001 x183002)) else (spec_ThreeMeet.l0 k x10 x28 x29 (wrap64 (x30 + 1)) x181000 x181001 x181002 x183000 x183001 x183002)))) else (none)) else (none)) else (some (x10, true))
end
def spec_ThreeMeet.f (k : Nat) (a0_0 : Int) (a0_1 : Int) (a0_2 : Int) (a1_0 : Int) (a1_1 : Int) (a1_2 : Int) (a2_0 : Int) (a2_1 : Int) (a2_2 : Int) : Option ((List (S26)) × Bool) := (spec_MeetTimes.f k a0_0 a0_1 a0_2 a1_0 a1_1 a1_2).bind fun bt183 => (if bt183.2 = true then ((spec_meGood.f k a2_0 a2_1 a2_2).bind fun t187 => (spec_ThreeMeet.j0 k bt183.1 (!t187) a0_0 a0_1 a0_2 a2_0 a2_1 a2_2)) else (spec_ThreeMeet.j0 k bt183.1 true a0_0 a0_1 a0_2 a2_0 a2_1 a2_2))
theorem spec_ThreeMeet.mono_l : ∀ k, (∀ y0 y1 y2 y3 y4 y5 y6 y7, LeO (spec_ThreeMeet.j0 k y0 y1 y2 y3 y4 y5 y6 y7) (spec_ThreeMeet.j0 (k + 1) y0 y1 y2 y3 y4 y5 y6 y7)) ∧ (∀ y0 y1 y2 y3 y4 y5 y6 y7 y8 y9, LeO (spec_ThreeMeet.l0 k y0 y1 y2 y3 y4 y5 y6 y7 y8 y9) (spec_ThreeMeet.l0 (k + 1) y0 y1 y2 y3 y4 y5 y6 y7 y8 y9))
 | 0 => ⟨fun _ _ _ _ _ _ _ _ r h => by simp [spec_ThreeMeet.j0] at h, fun _ _ _ _ _ _ _ _ _ _ r h => by simp [spec_ThreeMeet.l0] at h⟩
 | k + 1 => by
  obtain ⟨ih0, ih1⟩ := spec_ThreeMeet.mono_l k
  refine ⟨?_, ?_⟩
  ·intro y0 y1 y2 y3 y4 y5 y6 y7
   unfold spec_ThreeMeet.j0
   repeat' first
   | (with_reducible exact ih0 _ _ _ _ _ _ _ _)
   | (with_reducible exact ih1 _ _ _ _ _ _ _ _ _ _)
   | (with_reducible exact spec_MeetTimes.mono _ _ _ _ _ _ _)
   | (with_reducible exact spec_meAt.mono _ _ _ _ _ _)
   | (with_reducible exact spec_meGood.mono _ _ _ _)
   | (with_reducible exact spec_meRelative.mono _ _ _ _ _ _ _)
   | (with_reducible exact LeO.refl _)
   | (with_reducible exact LeO.none _)
   | (with_reducible refine LeO.ite ?_ ?_)
   | (with_reducible refine LeO.bind ?_ (fun _ => ?_))
   | exact ih0 _ _ _ _ _ _ _ _
   | exact ih1 _ _ _ _ _ _ _ _ _ _
   | exact spec_MeetTimes.mono _ _ _ _ _ _ _
   | exact spec_meAt.mono _ _ _ _ _ _
   | exact spec_meGood.mono _ _ _ _
   | exact spec_meRelative.mono _ _ _ _ _ _ _
   | exact LeO.none _
   | refine LeO.ite ?_ ?_
   | refine LeO.bind ?_ (fun _ => ?_)
  ·intro y0 y1 y2 y3 y4 y5 y6 y7 y8 y9
   unfold spec_ThreeMeet.l0
   repeat' first
   | (with_reducible exact ih0 _ _ _ _ _ _ _ _)
   | (with_reducible exact ih1 _ _ _ _ _ _ _ _ _ _)
   | (with_reducible exact spec_MeetTimes.mono _ _ _ _ _ _ _)
   | (with_reducible exact spec_meAt.mono _ _ _ _ _ _)
   | (with_reducible exact spec_meGood.mono _ _ _ _)
   | (with_reducible exact spec_meRelative.mono _ _ _ _ _ _ _)
   | (with_reducible exact LeO.refl _)
   | (with_reducible exact LeO.none _)
   | (with_reducible refine LeO.ite ?_ ?_)
   | (with_reducible refine LeO.bind ?_ (fun _ => ?_))
   | exact ih0 _ _ _ _ _ _ _ _
   | exact ih1 _ _ _ _ _ _ _ _ _ _
   | exact spec_MeetTimes.mono _ _ _ _ _ _ _
   | exact spec_meAt.mono _ _ _ _ _ _
   | exact spec_meGood.mono _ _ _ _
   | exact spec_meRelative.mono _ _ _ _ _ _ _
   | exact LeO.none _
   | refine LeO.ite ?_ ?_
   | refine LeO.bind ?_ (fun _ => ?_)
theorem spec_ThreeMeet.mono : ∀ a0 a1 a2 a3 a4 a5 a6 a7 a8 k, LeO (spec_ThreeMeet.f k a0 a1 a2 a3 a4 a5 a6 a7 a8) (spec_ThreeMeet.f (k + 1) a0 a1 a2 a3 a4 a5 a6 a7 a8) := by
 intro a0 a1 a2 a3 a4 a5 a6 a7 a8 k
 obtain ⟨ih0, ih1⟩ := spec_ThreeMeet.mono_l k
 unfold spec_ThreeMeet.f
 repeat' first
   | (with_reducible exact ih0 _ _ _ _ _ _ _ _)
   | (with_reducible exact ih1 _ _ _ _ _ _ _ _ _ _)
   | (with_reducible exact spec_MeetTimes.mono _ _ _ _ _ _ _)
   | (with_reducible exact spec_meAt.mono _ _ _ _ _ _)
   | (with_reducible exact spec_meGood.mono _ _ _ _)
   | (with_reducible exact spec_meRelative.mono _ _ _ _ _ _ _)
   | (with_reducible exact LeO.refl _)
   | (with_reducible exact LeO.none _)
   | (with_reducible refine LeO.ite ?_ ?_)
   | (with_reducible refine LeO.bind ?_ (fun _ => ?_))
   | exact ih0 _ _ _ _ _ _ _ _
   | exact ih1 _ _ _ _ _ _ _ _ _ _
   | exact spec_MeetTimes.mono _ _ _ _ _ _ _
   | exact spec_meAt.mono _ _ _ _ _ _
   | exact spec_meGood.mono _ _ _ _
   | exact spec_meRelative.mono _ _ _ _ _ _ _
   | exact LeO.none _
   | refine LeO.ite ?_ ?_
   | refine LeO.bind ?_ (fun _ => ?_)
def spec_ThreeMeet.T8 : Bool × List (List Nat × List Nat) := (true, [([], []), ([], []), ([0, 1], [0, 1]), ([], []), ([2, 3, 2], [2, 3]), ([4], [4]), ([5], [5]), ([5], [5]), ([], []), ([8, 6, 4, 0, 1, 2, 3, 4, 5, 6, 8], [6, 8]), ([7, 9, 0, 1, 2, 3, 4, 5, 6, 7, 8, 9], [7])])
def spec_ThreeMeet.B8 : List Nat := [0, 0, 3, 0, 15, 31, 63, 63, 0, 383, 1023]
theorem spec_ThreeMeet.tab8 : rtab .any (opsOf Try.f15 8) = spec_ThreeMeet.T8 := by kernel_rfl
theorem spec_ThreeMeet.bits8 : waitsOk spec_ThreeMeet.T8.2 spec_ThreeMeet.B8 = true := by kernel_rfl
set_option maxHeartbeats 8000000 in
set_option maxRecDepth 100000 in
theorem spec_ThreeMeet.calls (k : Nat) (a0_0 : Int) (a0_1 : Int) (a0_2 : Int) (a1_0 : Int) (a1_1 : Int) (a1_2 : Int) (a2_0 : Int) (a2_1 : Int) (a2_2 : Int) (r1 : List (S26)) (r2 : Bool) (w : World) (h : spec_ThreeMeet.f k a0_0 a0_1 a0_2 a1_0 a1_1 a1_2 a2_0 a2_1 a2_2 = some (r1, r2)) :
  Calls Try.prog 15 #[.agg #[.int .i64 a0_0, .int .i64 a0_1, .int .i64 a0_2], .agg #[.int .i64 a1_0, .int .i64 a1_1, .int .i64 a1_2], .agg #[.int .i64 a2_0, .int .i64 a2_1, .int .i64 a2_2]] w fun e w' => ∃ v0_ : Value, e = .returned (.tuple #[v0_, .bool r2]) ∧ Kd.R k26 26 w' w.heap.size (fun _ => True) v0_ r1 ∧ Below w.heap.size w w' := by
 have hu30 := Try.underlying30; have hu26 := Try.underlying26
 have HB := Am (Below.refl w.heap.size w)
 have H : ((spec_MeetTimes.f k a0_0 a0_1 a0_2 a1_0 a1_1 a1_2).bind fun bt183 => (if bt183.2 = true then ((spec_meGood.f k a2_0 a2_1 a2_2).bind fun t187 => (spec_ThreeMeet.j0 k bt183.1 (!t187) a0_0 a0_1 a0_2 a2_0 a2_1 a2_2)) else (spec_ThreeMeet.j0 k bt183.1 true a0_0 a0_1 a0_2 a2_0 a2_1 a2_2))) = some (r1, r2) := h
 clear h
 replace H := Option.bind_eq_some_iff.mp H
 obtain ⟨⟨t183, t186⟩, A40, H⟩ := H
 try dsimp only at H
 have A4 := Am A40
 clear A40
 have HC5 := Am H
 clear H
 go_enter Try.func15, Try.ntmps15
 go_upto_region 2 with (first | ((with_reducible refine gate_dst (N := 3) rfl ?_); refine box_event ?hg (N := 3) ?hd (cs := #[.int .i64 a0_0, .int .i64 a0_1, .int .i64 a0_2]) (t := 30) ?hr ?_; (case hd => rfl); (case hg => rfl); (case hr => first | (go_simp; done) | (go_simp; rfl)); intro gb180 hg w6 hbox hb; have hv := hvK (w := w) hb (by repeat (first | (with_reducible first | exact HB.out | apply bA | apply bN | apply bD) | exact HB.out)); have n0_ := Am (bT hv hb); have n1_ := Am (hbox); have GW180 := kG hg hv; have GE180 := kG hg hv; clear HB; have HB := n0_; have BK180 := n1_; clear n0_ n1_ hv; clear hb hbox hg) | ((with_reducible refine gate_dst (N := 4) rfl ?_); refine box_event ?hg (N := 4) ?hd (cs := #[.int .i64 a1_0, .int .i64 a1_1, .int .i64 a1_2]) (t := 30) ?hr ?_; (case hd => rfl); (case hg => rfl); (case hr => first | (go_simp; done) | (go_simp; rfl)); intro gb181 hg w7 hbox hb; have hp0 := hpA BK180.out hb (fun _ _ h_ => by (with_reducible repeat (first | refine kN ?_ _ | refine kD ?_ | refine kA ?_ _)); exact h_); have hv := hvK (w := w) hb (by repeat (first | (with_reducible first | exact HB.out | apply bA | apply bN | apply bD | refine bX ?_ (by assumption)) | exact HB.out)); have n1_ := Am (bT hv hb); have n2_ := Am (hbox); have GW181 := kG hg hv; have GE181 := kG hg hv; have hp1 := hpK BK180.out hb (fun _ _ h_ => by (with_reducible repeat (first | refine kN ?_ _ | refine kD ?_ | refine kA ?_ _)); exact h_); have NB180_181 := kX hg (hp1 BK180.out); have NB181_180 := kY hg (hp1 BK180.out); clear HB; replace BK180 := hp0 BK180; have HB := n1_; have BK181 := n2_; clear n1_ n2_ hp0 hp1 hv; clear hb hbox hg) | ((with_reducible refine gate_dst (N := 5) rfl ?_); refine box_event ?hg (N := 5) ?hd (cs := #[.int .i64 a2_0, .int .i64 a2_1, .int .i64 a2_2]) (t := 30) ?hr ?_; (case hd => rfl); (case hg => rfl); (case hr => first | (go_simp; done) | (go_simp; rfl)); intro gb182 hg w8 hbox hb; have hp0 := hpA BK180.out hb (fun _ _ h_ => by (with_reducible repeat (first | refine kN ?_ _ | refine kD ?_ | refine kA ?_ _)); exact h_); have hv := hvK (w := w) hb (by repeat (first | (with_reducible first | exact HB.out | apply bA | apply bN | apply bD | refine bX ?_ (by assumption)) | exact HB.out)); have n2_ := Am (bT hv hb); have n3_ := Am (hbox); have GW182 := kG hg hv; have GE182 := kG hg hv; have hp1 := hpK BK180.out hb (fun _ _ h_ => by (with_reducible repeat (first | refine kN ?_ _ | refine kD ?_ | refine kA ?_ _)); exact h_); have NB180_182 := kX hg (hp1 BK180.out); have NB182_180 := kY hg (hp1 BK180.out); have NB181_182 := kX hg (hp1 BK181.out); have NB182_181 := kY hg (hp1 BK181.out); clear HB; replace BK180 := hp0 BK180; replace BK181 := hp0 BK181; have HB := n2_; have BK182 := n3_; clear n2_ n3_ hp0 hp1 hv; clear hb hbox hg; have hnb9 := NB180_181.out; have hnc9 := NB181_180.out; have hnb10 := NB180_182.out; have hnc10 := NB182_180.out; have hcz11_0 := c30 BK180.out; have hcz11_1 := c31 BK180.out; have hcz11_2 := c32 BK180.out; have hfz11_0 := kF BK180.out 0; have hfz11_1 := kF BK180.out 1; have hfz11_2 := kF BK180.out 2; have hnb12 := NB181_182.out; have hnc12 := NB182_181.out; have hcz13_0 := c30 BK181.out; have hcz13_1 := c31 BK181.out; have hcz13_2 := c32 BK181.out; have hfz13_0 := kF BK181.out 0; have hfz13_1 := kF BK181.out 1; have hfz13_2 := kF BK181.out 2) | ((with_reducible refine gate_callee (f := 56) rfl ?_); refine goesL_ (some 18) rfl rfl Try.func56 (by kernel_rfl) rfl #[.agg #[.int .i64 a0_0, .int .i64 a0_1, .int .i64 a0_2], .agg #[.int .i64 a1_0, .int .i64 a1_1, .int .i64 a1_2]] rfl (by (try simp only [List.map_toArray, List.map_cons, List.map_nil]); first | done | rfl | (simp only [List.length_drop, List.length_take]; rfl)) ?_; (with_reducible refine (spec_MeetTimes.calls k a0_0 a0_1 a0_2 a1_0 a1_1 a1_2 t183 t186 _ A4.out).mono ?_); rintro e w14 ⟨v184, rfl, ho0, hb⟩; refine ⟨_, rfl, ?_⟩; have n0_ := Am (Kd.R_lower ho0 (bZ (by repeat (first | (with_reducible first | exact HB.out | apply bA | apply bN | apply bD | refine bX ?_ (by assumption)) | exact HB.out)))); have hp0 := hpA BK180.out hb (fun _ _ h_ => by (with_reducible repeat (first | refine kN ?_ _ | refine kD ?_ | refine kA ?_ _)); exact h_); have hv := hvK (w := w) hb (by repeat (first | (with_reducible first | exact HB.out | apply bA | apply bN | apply bD | refine bX ?_ (by assumption)) | exact HB.out)); have n4_ := Am (bT hv hb); clear HB; have HO185 := n0_; replace BK180 := hp0 BK180; replace BK181 := hp0 BK181; replace BK182 := hp0 BK182; have HB := n4_; clear n0_ n4_ hp0 hv; (try clear hb); (try clear ho0)))
 (try simp only [Act.put, List.setIfInBounds_toArray, List.set_cons_zero, List.set_cons_succ])
 go_cut [27] (fun v27 wc => ∃ (kq : Nat) (x27_4 : Bool), v27 = .bool x27_4 ∧ Aside0 (spec_ThreeMeet.j0 kq t183 x27_4 a0_0 a0_1 a0_2 a2_0 a2_1 a2_2 = some (r1, r2)) ∧ Aside0 (kq ≤ k) ∧ Aside0 (Kd.R k26 26 wc w.heap.size (fun _ => True) v184 t183) ∧ Aside0 (wc.heap[gb180]? = some (.cells #[.int .i64 a0_0, .int .i64 a0_1, .int .i64 a0_2] 30 (0, 0))) ∧ Aside0 (wc.heap[gb181]? = some (.cells #[.int .i64 a1_0, .int .i64 a1_1, .int .i64 a1_2] 30 (0, 0))) ∧ Aside0 (wc.heap[gb182]? = some (.cells #[.int .i64 a2_0, .int .i64 a2_1, .int .i64 a2_2] 30 (0, 0))) ∧ Aside0 (Below w.heap.size w wc))
 case first =>
  have H := HC5.out
  clear HC5
  by_cases c15 : t186 = true
  ·subst c15
   have H1 : ((spec_meGood.f k a2_0 a2_1 a2_2).bind fun t187 => (spec_ThreeMeet.j0 k t183 (!t187) a0_0 a0_1 a0_2 a2_0 a2_1 a2_2)) = some (r1, r2) := by rw [if_pos rfl] at H; exact H
   clear H
   have H := H1
   clear H1
   replace H := Option.bind_eq_some_iff.mp H
   obtain ⟨t187, A160, H⟩ := H
   try dsimp only at H
   have A16 := Am A160
   clear A160
   have H' := Am H
   clear H
   have hnb17 := NB182_180.out; have hnc17 := NB180_182.out; have hnb18 := NB182_181.out; have hnc18 := NB181_182.out
   have hcz19_0 := c30 BK182.out
   have hcz19_1 := c31 BK182.out
   have hcz19_2 := c32 BK182.out
   have hfz19_0 := kF BK182.out 0
   have hfz19_1 := kF BK182.out 1
   have hfz19_2 := kF BK182.out 2
   go_wp2_with (first | (go_at_call 63; (with_reducible refine (spec_meGood.calls k a2_0 a2_1 a2_2 t187 _ A16.out).mono ?_); rintro e w20 ⟨rfl, hb⟩; have n0_ := Am (Kd.R_below (by (with_reducible repeat (first | apply Kd.R_alloc | apply Kd.R_drewN | apply Kd.R_drew)); exact HO185.out) hb); have hp0 := hpA BK180.out hb (fun _ _ h_ => by (with_reducible repeat (first | refine kN ?_ _ | refine kD ?_ | refine kA ?_ _)); exact h_); have hv := hvK (w := w) hb (by repeat (first | (with_reducible first | exact HB.out | apply bA | apply bN | apply bD | refine bX ?_ (by assumption)) | exact HB.out)); have n4_ := Am (bT hv hb); clear HO185; clear HB; have HO185 := n0_; replace BK180 := hp0 BK180; replace BK181 := hp0 BK181; replace BK182 := hp0 BK182; have HB := n4_; clear n0_ n4_ hp0 hv; (try clear hb)))
   go_meet
   case rel =>
    refine ⟨_, (!t187), (by first | rfl | (simp; done) | (simp [*]; done)), H', ⟨by first | omega | exact Nat.le_refl _⟩, ⟨by (with_reducible repeat (first | apply Kd.R_alloc | apply Kd.R_drewN | apply Kd.R_drew)); exact HO185.out⟩, ⟨?_⟩, ⟨?_⟩, ⟨?_⟩, ⟨by repeat (first | (with_reducible first | exact HB.out | apply bA | apply bN | apply bD | refine bX ?_ (by assumption)) | exact HB.out)⟩⟩
    all_goals ((with_reducible repeat (first | refine kN ?_ _ | refine kD ?_ | refine kA ?_ _)); exact Aside0.out (by assumption))
  replace c15 := Bool.eq_false_iff.mpr c15
  subst c15
  have H1 : (spec_ThreeMeet.j0 k t183 true a0_0 a0_1 a0_2 a2_0 a2_1 a2_2) = some (r1, r2) := by rw [if_neg (show ¬ (false = true) by decide)] at H; exact H
  clear H
  have H := H1
  clear H1
  have H' := Am H
  clear H
  go_wp2
  go_meet
  case rel =>
   refine ⟨_, (true), (by first | rfl | (simp; done) | (simp [*]; done)), H', ⟨by first | omega | exact Nat.le_refl _⟩, ⟨by (with_reducible repeat (first | apply Kd.R_alloc | apply Kd.R_drewN | apply Kd.R_drew)); exact HO185.out⟩, ⟨?_⟩, ⟨?_⟩, ⟨?_⟩, ⟨by repeat (first | (with_reducible first | exact HB.out | apply bA | apply bN | apply bD | refine bX ?_ (by assumption)) | exact HB.out)⟩⟩
   all_goals ((with_reducible repeat (first | refine kN ?_ _ | refine kD ?_ | refine kA ?_ _)); exact Aside0.out (by assumption))
 clear HC5
 (try clear hcz11_0); (try clear hcz11_1); (try clear hcz11_2); (try clear hcz13_0); (try clear hcz13_1); (try clear hcz13_2); (try clear hfz11_0); (try clear hfz11_1); (try clear hfz11_2); (try clear hfz13_0); (try clear hfz13_1); (try clear hfz13_2)
 obtain ⟨kq, x27_4, rfl, HA, HJ4, HO_8, BK180, BK181, BK182, HB⟩ := hcut
 cases kq with
 | zero => exact absurd HA.out (by simp [spec_ThreeMeet.j0])
 | succ kj4 =>
  have H := HA.out
  clear HA
  simp only [spec_ThreeMeet.j0] at H
  by_cases c21 : x27_4 = true
  ·subst c21
   have H1 : (some (([] : List (S26)), false)) = some (r1, r2) := by rw [if_pos rfl] at H; exact H
   clear H
   have H := H1
   clear H1
   simp only [Option.some.injEq, Prod.mk.injEq] at H
   obtain ⟨rfl, rfl⟩ := H
   go_wp2
   go_ret2
   exact ⟨_, by first | rfl | (simp [errW_none, errW_some] <;> rfl) | (simp [*, errW_none, errW_some] <;> rfl), by first | exact Kd.R_nil _ _ _ _ _ | exact Kd.N_nil _ _ _ _ _ | exact Kd.V_nil _ _ _ _ _ | exact Kd.Q_nil _ _ _ _ _ | exact Kd.S_nil _ _ _ _ _, by repeat (first | (with_reducible first | exact HB.out | apply bA | apply bN | apply bD | refine bX ?_ (by assumption)) | exact HB.out)⟩
  replace c21 := Bool.eq_false_iff.mpr c21
  subst c21
  have H1 : (spec_ThreeMeet.l0 kj4 ([] : List (S26)) t183 (t183.length : Int) 0 a0_0 a0_1 a0_2 a2_0 a2_1 a2_2) = some (r1, r2) := by rw [if_neg (show ¬ (false = true) by decide)] at H; exact H
  clear H
  have H := H1
  clear H1
  have H' := Am H
  clear H
  obtain ⟨Ao22, co22, eo22⟩ := Kd.R_slice HO_8.out
  subst eo22
  go_wp2
  go_loopg [10, 30] kj4 (fun kq v10 v30 w' => ∃ (x10_2 : List (S26)) (x30_2 : Int), v30 = .int .i64 x30_2 ∧ Aside0 (spec_ThreeMeet.l0 kq x10_2 t183 (t183.length : Int) x30_2 a0_0 a0_1 a0_2 a2_0 a2_1 a2_2 = some (r1, r2)) ∧ Aside0 (kq ≤ kj4) ∧ Aside0 (Kd.R k26 26 w' w.heap.size (fun k_ => some k_ ≠ ((.slice Ao22 t183.length co22) : Value).ownBlock) v10 x10_2) ∧ Aside0 (Kd.R k26 26 w' w.heap.size (fun k_ => some k_ ≠ (v10 : Value).ownBlock) (.slice Ao22 t183.length co22) t183) ∧ Aside0 (w'.heap[gb180]? = some (.cells #[.int .i64 a0_0, .int .i64 a0_1, .int .i64 a0_2] 30 (0, 0))) ∧ Aside0 (w'.heap[gb181]? = some (.cells #[.int .i64 a1_0, .int .i64 a1_1, .int .i64 a1_2] 30 (0, 0))) ∧ Aside0 (w'.heap[gb182]? = some (.cells #[.int .i64 a2_0, .int .i64 a2_1, .int .i64 a2_2] 30 (0, 0))) ∧ Aside0 (Below w.heap.size w w'))
  case atStart => exact ⟨(([] : List (S26))), (0), (by first | rfl | (simp; done) | (simp [*]; done)), H', ⟨Nat.le_refl _⟩, ⟨by first | exact Kd.R_nil _ _ _ _ _ | exact Kd.N_nil _ _ _ _ _ | exact Kd.V_nil _ _ _ _ _ | exact Kd.Q_nil _ _ _ _ _ | exact Kd.S_nil _ _ _ _ _⟩, ⟨by (with_reducible repeat (first | apply Kd.R_alloc | apply Kd.R_drewN | apply Kd.R_drew)); exact Kd.R_mono HO_8.out (fun _ hk => (by simp [Value.ownBlock]))⟩, ⟨by (with_reducible repeat (first | refine kN ?_ _ | refine kD ?_ | refine kA ?_ _)); exact BK180.out⟩, ⟨by (with_reducible repeat (first | refine kN ?_ _ | refine kD ?_ | refine kA ?_ _)); exact BK181.out⟩, ⟨by (with_reducible repeat (first | refine kN ?_ _ | refine kD ?_ | refine kA ?_ _)); exact BK182.out⟩, ⟨by repeat (first | (with_reducible first | exact HB.out | apply bA | apply bN | apply bD | refine bX ?_ (by assumption)) | exact HB.out)⟩⟩
  case round =>
   clear H'
   (try clear c21); (try clear hcz11_0); (try clear hcz11_1); (try clear hcz11_2); (try clear hcz13_0); (try clear hcz13_1); (try clear hcz13_2); (try clear hfz11_0); (try clear hfz11_1); (try clear hfz11_2); (try clear hfz13_0); (try clear hfz13_1); (try clear hfz13_2)
   obtain ⟨x10_2, x30_2, rfl, HA, HK2, HO_10, HO_28, BK180, BK181, BK182, HB⟩ := hrel
   cases gk with
   | zero => exact absurd HA.out (by simp [spec_ThreeMeet.l0])
   | succ k2 =>
    have H := HA.out
    clear HA
    simp only [spec_ThreeMeet.l0] at H
    by_cases c23 : x30_2 < (t183.length : Int)
    ·rw [if_pos c23] at H
     have c23b0 : decide (x30_2 < (t183.length : Int)) = true := decide_eq_true c23
     clear c23
     by_cases c24 : 0 ≤ x30_2
     ·rw [if_pos c24] at H
      have c24b0 : decide (0 ≤ x30_2) = true := decide_eq_true c24
      clear c24
      by_cases c25 : x30_2 < (t183.length : Int)
      ·rw [if_pos c25] at H
       have c25b0 : decide (x30_2 < (t183.length : Int)) = true := decide_eq_true c25
       clear c25
       replace H := Option.bind_eq_some_iff.mp H
       obtain ⟨⟨t190, t191, t192⟩, A260, H⟩ := H
       try dsimp only at H
       have A26 := Am A260
       clear A260
       replace H := Option.bind_eq_some_iff.mp H
       obtain ⟨⟨t193, t194, t195⟩, A270, H⟩ := H
       try dsimp only at H
       have A27 := Am A270
       clear A270
       by_cases c28 : t195 = true
       ·subst c28
        have H1 : (if t193 = 0 then (if x10_2.length < 8796093022208 then (spec_ThreeMeet.l0 k2 (x10_2 ++ [(⟨(rd_T26 t183 x30_2).f0, (rd_T26 t183 x30_2).f1⟩ : S26)]) t183 (t183.length : Int) (wrap64 (x30_2 + 1)) a0_0 a0_1 a0_2 a2_0 a2_1 a2_2) else (none)) else (spec_ThreeMeet.l0 k2 x10_2 t183 (t183.length : Int) (wrap64 (x30_2 + 1)) a0_0 a0_1 a0_2 a2_0 a2_1 a2_2)) = some (r1, r2) := by rw [if_pos rfl] at H; exact H
        clear H
        have H := H1
        clear H1
        by_cases c29 : t193 = 0
        ·rw [if_pos c29] at H
         have c29b0 : (t193 == 0) = true := beq_iff_eq.mpr c29
         have c29b1 : (t193 != 0) = false := bne_eq_false_iff_eq.mpr c29
         clear c29
         by_cases c30 : x10_2.length < 8796093022208
         ·rw [if_pos c30] at H
          have LMc30 := Am c30
          clear c30
          obtain ⟨y197, hy197⟩ : ∃ y_ : List (S26), y_ = (x10_2 ++ [(⟨(rd_T26 t183 x30_2).f0, (rd_T26 t183 x30_2).f1⟩ : S26)]) := ⟨_, rfl⟩
          replace H : (spec_ThreeMeet.l0 k2 y197 t183 (t183.length : Int) (wrap64 (x30_2 + 1)) a0_0 a0_1 a0_2 a2_0 a2_1 a2_2) = some (r1, r2) := by first | (rw [hy197]; with_reducible exact H) | (have H2_ := (Option.bind_some _ _).symm.trans H; rw [hy197]; with_reducible exact H2_) | (have H2_ := (Option.bind_some _ _).symm.trans H; with_reducible exact H2_) | with_reducible exact H | (rw [hy197]; exact H) | exact H
          have Ny197 := Am hy197
          clear hy197
          have H' := Am H
          clear H
          have p188 : 0 ≤ (x30_2 : Int) := of_decide_eq_true (by first | (with_reducible assumption) | assumption)
          have q188 : x30_2 < (t183.length : Int) := of_decide_eq_true (by first | (with_reducible assumption) | assumption)
          obtain ⟨ad188, e188, hx188_0, hx188_1⟩ := at_T26 (Kd.R_reads' HO_28.out).2.2 x30_2 p188 q188
          cases e188
          replace p188 := eq_true p188
          replace q188 := eq_true q188
          try go_wp2_with (first | ((with_reducible refine gate_dst (N := 12) rfl ?_); refine box_event ?hg (N := 12) ?hd (cs := #[.int .i64 0, .int .i64 0]) (t := 26) ?hr ?_; (case hd => rfl); (case hg => rfl); (case hr => first | (go_simp; done) | (go_simp; rfl)); intro gb189 hg w31 hbox hb; have n0_ := Am (Kd.R_below (Kd.R_elderB (by (with_reducible repeat (first | apply Kd.R_alloc | apply Kd.R_drewN | apply Kd.R_drew)); exact HO_10.out) gb189 (Nat.le_of_eq hg.symm)) hb); have n1_ := Am (Kd.R_below (Kd.R_elderB (by (with_reducible repeat (first | apply Kd.R_alloc | apply Kd.R_drewN | apply Kd.R_drew)); exact HO_28.out) gb189 (Nat.le_of_eq hg.symm)) hb); have hp0 := hpA BK180.out hb (fun _ _ h_ => by (with_reducible repeat (first | refine kN ?_ _ | refine kD ?_ | refine kA ?_ _)); exact h_); have hv := hvK (w := w) hb (by repeat (first | (with_reducible first | exact HB.out | apply bA | apply bN | apply bD | refine bX ?_ (by assumption)) | exact HB.out)); have n5_ := Am (bT hv hb); have n6_ := Am (hbox); have GW189 := kG hg hv; have GE189 := kG hg hv; have hp1 := hpK BK180.out hb (fun _ _ h_ => by (with_reducible repeat (first | refine kN ?_ _ | refine kD ?_ | refine kA ?_ _)); exact h_); have NB180_189 := kX hg (hp1 BK180.out); have NB189_180 := kY hg (hp1 BK180.out); have NB181_189 := kX hg (hp1 BK181.out); have NB189_181 := kY hg (hp1 BK181.out); have NB182_189 := kX hg (hp1 BK182.out); have NB189_182 := kY hg (hp1 BK182.out); clear HO_10; clear HO_28; clear HB; have HO_10 := n0_; have HO_28 := n1_; replace BK180 := hp0 BK180; replace BK181 := hp0 BK181; replace BK182 := hp0 BK182; have HB := n5_; have BK189 := n6_; clear n0_ n1_ n5_ n6_ hp0 hp1 hv; clear hb hbox hg; have hnb32 := NB189_180.out; have hnc32 := NB180_189.out; have hnb33 := NB189_181.out; have hnc33 := NB181_189.out; have hnb34 := NB189_182.out; have hnc34 := NB182_189.out; have hcz35_0 := c20 BK189.out; have hcz35_1 := c21 BK189.out; have hfz35_0 := kF BK189.out 0; have hfz35_1 := kF BK189.out 1))
          have n0_ : Aside0 (Kd.R k26 26 ((w31.setCell ⟨gb189, 0, none⟩ (.int .i64 ((rd_T26 t183 x30_2).f0))).setCell ⟨gb189, 1, none⟩ (.int .i64 ((rd_T26 t183 x30_2).f1))) w.heap.size (fun k_ => some k_ ≠ (.slice (some ad188) t183.length co22 : Value).ownBlock ∧ k_ ≠ gb189) u10 x10_2) := ⟨by (with_reducible repeat (first | apply Kd.R_alloc | apply Kd.R_drewN | apply Kd.R_drew)); exact Kd.R_mono (Kd.R_far (p := ⟨gb189, 1, none⟩) (Kd.R_far (p := ⟨gb189, 0, none⟩) (Kd.R_mono HO_10.out (fun k_ hk => (⟨hk, hk.2⟩ : _ ∧ k_ ≠ gb189))) (fun _ hk => hk.2) (.int .i64 ((rd_T26 t183 x30_2).f0))) (fun _ hk => hk.2) (.int .i64 ((rd_T26 t183 x30_2).f1))) (fun _ hk => ⟨hk.1.1, hk.1.2⟩)⟩
          have n1_ : Aside0 (Kd.R k26 26 ((w31.setCell ⟨gb189, 0, none⟩ (.int .i64 ((rd_T26 t183 x30_2).f0))).setCell ⟨gb189, 1, none⟩ (.int .i64 ((rd_T26 t183 x30_2).f1))) w.heap.size (fun k_ => some k_ ≠ (u10 : Value).ownBlock ∧ k_ ≠ gb189) (.slice (some ad188) t183.length co22) t183) := ⟨by (with_reducible repeat (first | apply Kd.R_alloc | apply Kd.R_drewN | apply Kd.R_drew)); exact Kd.R_mono (Kd.R_far (p := ⟨gb189, 1, none⟩) (Kd.R_far (p := ⟨gb189, 0, none⟩) (Kd.R_mono HO_28.out (fun k_ hk => (⟨hk, hk.2⟩ : _ ∧ k_ ≠ gb189))) (fun _ hk => hk.2) (.int .i64 ((rd_T26 t183 x30_2).f0))) (fun _ hk => hk.2) (.int .i64 ((rd_T26 t183 x30_2).f1))) (fun _ hk => ⟨hk.1.1, hk.1.2⟩)⟩
          have hq := hqR (W := ((w31.setCell ⟨gb189, 0, none⟩ (.int .i64 ((rd_T26 t183 x30_2).f0))).setCell ⟨gb189, 1, none⟩ (.int .i64 ((rd_T26 t183 x30_2).f1)))) gb189 BK180.out (fun _ _ q_ h_ => by (with_reducible repeat (first | refine kN ?_ _ | refine kD ?_ | refine kA ?_ _ | refine kZ ?_ q_ _)); exact h_)
          have n2_ := Am (hq NB180_189.out BK180.out)
          have n3_ := Am (hq NB181_189.out BK181.out)
          have n4_ := Am (hq NB182_189.out BK182.out)
          have n5_ : Aside0 (((w31.setCell ⟨gb189, 0, none⟩ (.int .i64 ((rd_T26 t183 x30_2).f0))).setCell ⟨gb189, 1, none⟩ (.int .i64 ((rd_T26 t183 x30_2).f1))).heap[gb189]? = some (.cells #[.int .i64 ((rd_T26 t183 x30_2).f0), .int .i64 ((rd_T26 t183 x30_2).f1)] 26 (0, 0))) := ⟨by (with_reducible repeat (first | refine kN ?_ _ | refine kD ?_ | refine kA ?_ _)); refine kP (cs := #[.int .i64 ((rd_T26 t183 x30_2).f0), .int .i64 0]) ?_ 1 _ rfl; (with_reducible repeat (first | refine kN ?_ _ | refine kD ?_ | refine kA ?_ _)); refine kP (cs := #[.int .i64 0, .int .i64 0]) ?_ 0 _ rfl; (with_reducible repeat (first | refine kN ?_ _ | refine kD ?_ | refine kA ?_ _)); exact BK189.out⟩
          have n6_ : Aside0 (Below w.heap.size w ((w31.setCell ⟨gb189, 0, none⟩ (.int .i64 ((rd_T26 t183 x30_2).f0))).setCell ⟨gb189, 1, none⟩ (.int .i64 ((rd_T26 t183 x30_2).f1)))) := ⟨by repeat (first | (with_reducible first | exact HB.out | apply bA | apply bN | apply bD | refine bX ?_ (by assumption)) | exact HB.out)⟩
          clear hq
          (try clear HO_10)
          (try clear HO_28)
          (try clear BK180)
          (try clear BK181)
          (try clear BK182)
          (try clear BK189)
          (try clear HB)
          generalize ((w31.setCell ⟨gb189, 0, none⟩ (.int .i64 ((rd_T26 t183 x30_2).f0))).setCell ⟨gb189, 1, none⟩ (.int .i64 ((rd_T26 t183 x30_2).f1))) = w36 at n0_ n1_ n2_ n3_ n4_ n5_ n6_ ⊢
          have HO_10 := n0_; have HO_28 := n1_; have BK180 := n2_; have BK181 := n3_; have BK182 := n4_; have BK189 := n5_; have HB := n6_
          clear n0_ n1_ n2_ n3_ n4_ n5_ n6_
          have n0_ := Am (Kd.R_drew HO_10.out)
          have n1_ := Am (Kd.R_drew HO_28.out)
          have n2_ := Am (kD BK180.out)
          have n3_ := Am (kD BK181.out)
          have n4_ := Am (kD BK182.out)
          have n5_ := Am (kD BK189.out)
          have n6_ := Am (bD HB.out)
          clear HO_10 HO_28 BK180 BK181 BK182 BK189 HB
          have HO_10 := n0_; have HO_28 := n1_; have BK180 := n2_; have BK181 := n3_; have BK182 := n4_; have BK189 := n5_; have HB := n6_
          clear n0_ n1_ n2_ n3_ n4_ n5_ n6_
          refine start_ (n := 11) (S := fun w' => w'.cell? ⟨gb180, 0, none⟩ = some (.int .i64 a0_0) ∧ w'.cell? ⟨gb180, 1, none⟩ = some (.int .i64 a0_1) ∧ w'.cell? ⟨gb180, 2, none⟩ = some (.int .i64 a0_2) ∧ w'.cell? ⟨gb182, 0, none⟩ = some (.int .i64 a2_0) ∧ w'.cell? ⟨gb182, 1, none⟩ = some (.int .i64 a2_1) ∧ w'.cell? ⟨gb182, 2, none⟩ = some (.int .i64 a2_2) ∧ w'.cell? ⟨gb189, 0, none⟩ = some (.int .i64 ((rd_T26 t183 x30_2).f0)) ∧ w'.cell? ⟨gb189, 1, none⟩ = some (.int .i64 ((rd_T26 t183 x30_2).f1))) (ds := []) (pT 11 0) (by kernel_rfl) rfl rfl ⟨c30 BK180.out, c31 BK180.out, c32 BK180.out, c30 BK182.out, c31 BK182.out, c32 BK182.out, c20 BK189.out, c21 BK189.out⟩ (fun hHeld => ?_); refine with_tabW spec_ThreeMeet.tab8 spec_ThreeMeet.bits8 (fun HT_ HW_ => ?_)
          generalize w36.drew = w37 at HO_10 HO_28 BK180 BK181 BK182 BK189 HB hHeld ⊢
          iterate 2
           refine tI (v := ?_) (a' := ?_) rfl (take_ofW HT_.out HW_.out (by kernel_rfl)) (fun _ _ _ h => h) (Or.inl ⟨by rfl, ?_⟩) hHeld ?_ ?_
           rotate_left
           ·rintro w' ⟨s0, s1, s2, s3, s4, s5, s6, s7⟩
            go_simp
            with_reducible rfl
           rotate_left
           ·show Act.put _ (some _) _ = _
            simp only [Act.put, List.setIfInBounds_toArray, List.set_cons_zero, List.set_cons_succ, i64_w, i32_w]
            rfl
          refine take_ (i := 3) (N := some 38) (v := ?_) (a' := ?_) #[true, true, false, true, false, false, false, false, false, false, false] rfl rfl (take_ofW HT_.out HW_.out (by kernel_rfl)) (fun _ _ _ h => h) (Or.inl ⟨by rfl, ?_⟩) hHeld ?_ ?_
          rotate_left
          ·rintro w' ⟨s0, s1, s2, s3, s4, s5, s6, s7⟩
           go_simp
           with_reducible rfl
          rotate_left
          ·simp only [Act.put, List.setIfInBounds_toArray, List.set_cons_zero, List.set_cons_succ, i64_w, i32_w]
           rfl
          refine join_ (σ := Nat) 2 (pT 11 9) (fun s_ => [(37, .agg #[.int .i64 t190, .int .i64 t191, .int .i64 t192]), (39, .tuple #[.agg #[.int .i64 t193, .int .i64 t194], .bool true]), (13, .pointer (some ⟨s_, 0, none⟩)), (34, .tuple #[.agg #[.int .i64 t193, .int .i64 t194], .bool true]), (40, .agg #[.int .i64 t193, .int .i64 t194]), (41, .bool true)]) (fun s_ w' => (w'.cell? ⟨gb180, 0, none⟩ = some (.int .i64 a0_0) ∧ w'.cell? ⟨gb180, 1, none⟩ = some (.int .i64 a0_1) ∧ w'.cell? ⟨gb180, 2, none⟩ = some (.int .i64 a0_2) ∧ w'.cell? ⟨gb182, 0, none⟩ = some (.int .i64 a2_0) ∧ w'.cell? ⟨gb182, 1, none⟩ = some (.int .i64 a2_1) ∧ w'.cell? ⟨gb182, 2, none⟩ = some (.int .i64 a2_2) ∧ w'.cell? ⟨gb189, 0, none⟩ = some (.int .i64 ((rd_T26 t183 x30_2).f0)) ∧ w'.cell? ⟨gb189, 1, none⟩ = some (.int .i64 ((rd_T26 t183 x30_2).f1))) ∧ (Kd.R k26 26 w' w.heap.size (fun k_ => some k_ ≠ (.slice (some ad188) t183.length co22 : Value).ownBlock ∧ k_ ≠ gb189 ∧ k_ ≠ s_) u10 x10_2) ∧ (Kd.R k26 26 w' w.heap.size (fun k_ => some k_ ≠ (u10 : Value).ownBlock ∧ k_ ≠ gb189 ∧ k_ ≠ s_) (.slice (some ad188) t183.length co22) t183) ∧ (w'.heap[gb180]? = some (.cells #[.int .i64 a0_0, .int .i64 a0_1, .int .i64 a0_2] 30 (0, 0))) ∧ (w'.heap[gb181]? = some (.cells #[.int .i64 a1_0, .int .i64 a1_1, .int .i64 a1_2] 30 (0, 0))) ∧ (w'.heap[gb182]? = some (.cells #[.int .i64 a2_0, .int .i64 a2_1, .int .i64 a2_2] 30 (0, 0))) ∧ (w'.heap[gb189]? = some (.cells #[.int .i64 ((rd_T26 t183 x30_2).f0), .int .i64 ((rd_T26 t183 x30_2).f1)] 26 (0, 0))) ∧ (w'.heap[s_]? = some (.cells #[.int .i64 0, .int .i64 0] 26 (0, 0))) ∧ (w.heap.size ≤ s_) ∧ (w.heap.size ≤ s_) ∧ (gb180 ≠ s_) ∧ (s_ ≠ gb180) ∧ (gb181 ≠ s_) ∧ (s_ ≠ gb181) ∧ (gb182 ≠ s_) ∧ (s_ ≠ gb182) ∧ (gb189 ≠ s_) ∧ (s_ ≠ gb189) ∧ (Below w.heap.size w w')) ?_ ?_
          rotate_left
          ·intro hCont
           refine two_ (i := 2) (j := 8) (Ni := some 37) (Nj := some 13) (pT 11 4) #[true, true, false, true, false, false, false, false, true, false, false] rfl rfl rfl rfl (two_of HT_.out (by kernel_rfl)) (by decide) (by decide) (fun K hK => ?_) (fun K hK => ?_)
           ·skip
            refine goes_ Try.func65 (by kernel_rfl) rfl #[.agg #[.int .i64 a0_0, .int .i64 a0_1, .int .i64 a0_2], .agg #[.int .i64 a2_0, .int .i64 a2_1, .int .i64 a2_2]] (by rfl) rfl rfl (by (try simp only [List.map_toArray, List.map_cons, List.map_nil]); first | done | rfl | (simp only [List.length_drop, List.length_take]; rfl)) ?_
            with_reducible refine (spec_meRelative.calls k2 a0_0 a0_1 a0_2 a2_0 a2_1 a2_2 t190 t191 t192 _ A26.out).mono ?_
            rintro e w38 ⟨rfl, hb⟩
            refine ⟨_, rfl, ?_⟩
            have n0_ := Am (Kd.R_below (by (with_reducible repeat (first | apply Kd.R_alloc | apply Kd.R_drewN | apply Kd.R_drew)); exact HO_10.out) hb)
            have n1_ := Am (Kd.R_below (by (with_reducible repeat (first | apply Kd.R_alloc | apply Kd.R_drewN | apply Kd.R_drew)); exact HO_28.out) hb)
            have hp0 := hpA BK180.out hb (fun _ _ h_ => by (with_reducible repeat (first | refine kN ?_ _ | refine kD ?_ | refine kA ?_ _)); exact h_)
            have hv := hvK (w := w) hb (by repeat (first | (with_reducible first | exact HB.out | apply bA | apply bN | apply bD | refine bX ?_ (by assumption)) | exact HB.out))
            have n6_ := Am (bT hv hb)
            clear HO_10 HO_28 HB
            have HO_10 := n0_; have HO_28 := n1_
            replace BK180 := hp0 BK180; replace BK181 := hp0 BK181; replace BK182 := hp0 BK182; replace BK189 := hp0 BK189
            have HB := n6_
            clear n0_ n1_ n6_ hp0 hv
            (try clear hb)
            refine hK.out _ _ ⟨c30 BK180.out, c31 BK180.out, c32 BK180.out, c30 BK182.out, c31 BK182.out, c32 BK182.out, c20 BK189.out, c21 BK189.out⟩ (fun hHeld => ?_)
            clear hK K
            refine norm_ (a' := ?_) ?_ ?_
            rotate_left
            ·show Act.put _ (some 37) _ = _
             simp only [Act.put, List.setIfInBounds_toArray, List.set_cons_zero, List.set_cons_succ, i64_w, i32_w]
             rfl
            refine two_ (i := 4) (j := 8) (Ni := some 39) (Nj := some 13) (pT 11 5) #[true, true, true, true, false, false, false, false, true, false, false] rfl rfl rfl rfl (two_of HT_.out (by kernel_rfl)) (by decide) (by decide) (fun K hK => ?_) (fun K hK => ?_)
            ·skip
             refine goes_ Try.func64 (by kernel_rfl) rfl #[.agg #[.int .i64 t190, .int .i64 t191, .int .i64 t192], .agg #[.int .i64 ((rd_T26 t183 x30_2).f0), .int .i64 ((rd_T26 t183 x30_2).f1)]] (by rfl) rfl rfl (by (try simp only [List.map_toArray, List.map_cons, List.map_nil]); first | done | rfl | (simp only [List.length_drop, List.length_take]; rfl)) ?_
             with_reducible refine (spec_meAt.calls k2 t190 t191 t192 ((rd_T26 t183 x30_2).f0) ((rd_T26 t183 x30_2).f1) t193 t194 true _ A27.out).mono ?_
             rintro e w39 ⟨rfl, hb⟩
             refine ⟨_, rfl, ?_⟩
             have n0_ := Am (Kd.R_below (by (with_reducible repeat (first | apply Kd.R_alloc | apply Kd.R_drewN | apply Kd.R_drew)); exact HO_10.out) hb)
             have n1_ := Am (Kd.R_below (by (with_reducible repeat (first | apply Kd.R_alloc | apply Kd.R_drewN | apply Kd.R_drew)); exact HO_28.out) hb)
             have hp0 := hpA BK180.out hb (fun _ _ h_ => by (with_reducible repeat (first | refine kN ?_ _ | refine kD ?_ | refine kA ?_ _)); exact h_)
             have hv := hvK (w := w) hb (by repeat (first | (with_reducible first | exact HB.out | apply bA | apply bN | apply bD | refine bX ?_ (by assumption)) | exact HB.out))
             have n6_ := Am (bT hv hb)
             clear HO_10 HO_28 HB
             have HO_10 := n0_; have HO_28 := n1_
             replace BK180 := hp0 BK180; replace BK181 := hp0 BK181; replace BK182 := hp0 BK182; replace BK189 := hp0 BK189
             have HB := n6_
             clear n0_ n1_ n6_ hp0 hv
             (try clear hb)
             refine hK.out _ _ ⟨c30 BK180.out, c31 BK180.out, c32 BK180.out, c30 BK182.out, c31 BK182.out, c32 BK182.out, c20 BK189.out, c21 BK189.out⟩ (fun hHeld => ?_)
             clear hK K
             refine norm_ (a' := ?_) ?_ ?_
             rotate_left
             ·show Act.put _ (some 39) _ = _
              simp only [Act.put, List.setIfInBounds_toArray, List.set_cons_zero, List.set_cons_succ, i64_w, i32_w]
              rfl
             iterate 3
              refine pI (v := ?_) (a' := ?_) rfl (any_of HT_.out (by kernel_rfl)) (fun _ _ _ h => h) (Or.inl ⟨by rfl, ?_⟩) ?_ ?_
              rotate_left
              ·intro w'
               go_simp
               with_reducible rfl
              rotate_left
              ·show Act.put _ (some _) _ = _
               simp only [Act.put, List.setIfInBounds_toArray, List.set_cons_zero, List.set_cons_succ, i64_w, i32_w]
               rfl
             refine one_ (i := 8) (N := some 13) (pT 11 9) rfl rfl (one_of HT_.out (by kernel_rfl)) (by decide) (fun K hK => ?_)
             refine box_step ?hg (N := 13) ?hd (cs := #[.int .i64 0, .int .i64 0]) (t := 26) ?hr ?_; (case hd => rfl); (case hg => rfl); (case hr => first | (go_simp; done) | (go_simp; rfl))
             intro gb196 hg w40 hbox hb
             have n0_ := Am (Kd.R_below (Kd.R_elderB (by (with_reducible repeat (first | apply Kd.R_alloc | apply Kd.R_drewN | apply Kd.R_drew)); exact HO_10.out) gb196 (Nat.le_of_eq hg.symm)) hb)
             have n1_ := Am (Kd.R_below (Kd.R_elderB (by (with_reducible repeat (first | apply Kd.R_alloc | apply Kd.R_drewN | apply Kd.R_drew)); exact HO_28.out) gb196 (Nat.le_of_eq hg.symm)) hb)
             have hp0 := hpA BK180.out hb (fun _ _ h_ => by (with_reducible repeat (first | refine kN ?_ _ | refine kD ?_ | refine kA ?_ _)); exact h_)
             have hv := hvK (w := w) hb (by repeat (first | (with_reducible first | exact HB.out | apply bA | apply bN | apply bD | refine bX ?_ (by assumption)) | exact HB.out))
             have n6_ := Am (bT hv hb)
             have n7_ := Am (hbox)
             have GW196 := kG hg hv
             have GE196 := kG hg hv
             have hp1 := hpK BK180.out hb (fun _ _ h_ => by (with_reducible repeat (first | refine kN ?_ _ | refine kD ?_ | refine kA ?_ _)); exact h_)
             have NB180_196 := kX hg (hp1 BK180.out)
             have NB196_180 := kY hg (hp1 BK180.out)
             have NB181_196 := kX hg (hp1 BK181.out)
             have NB196_181 := kY hg (hp1 BK181.out)
             have NB182_196 := kX hg (hp1 BK182.out)
             have NB196_182 := kY hg (hp1 BK182.out)
             have NB189_196 := kX hg (hp1 BK189.out)
             have NB196_189 := kY hg (hp1 BK189.out)
             clear HO_10 HO_28 HB
             have HO_10 := n0_; have HO_28 := n1_
             replace BK180 := hp0 BK180; replace BK181 := hp0 BK181; replace BK182 := hp0 BK182; replace BK189 := hp0 BK189
             have HB := n6_; have BK196 := n7_
             clear n6_ n7_ hp0 hp1 hv hb hbox hg
             refine hK.out _ _ ⟨c30 BK180.out, c31 BK180.out, c32 BK180.out, c30 BK182.out, c31 BK182.out, c32 BK182.out, c20 BK189.out, c21 BK189.out⟩ (fun hHeld => ?_)
             clear hK K
             refine norm_ (a' := ?_) ?_ ?_
             rotate_left
             ·show Act.put _ (some 13) _ = _
              simp only [Act.put, List.setIfInBounds_toArray, List.set_cons_zero, List.set_cons_succ, i64_w, i32_w]
              rfl
             exact norm_ (by simp only [putAll, Act.put, List.setIfInBounds_toArray, List.set_cons_zero, List.set_cons_succ]) (hCont (gb196) _ ⟨hHeld, (by (with_reducible repeat (first | apply Kd.R_alloc | apply Kd.R_drewN | apply Kd.R_drew)); exact Kd.R_mono HO_10.out (fun _ hk => ⟨hk.1.1, ⟨hk.1.2, hk.2⟩⟩)), (by (with_reducible repeat (first | apply Kd.R_alloc | apply Kd.R_drewN | apply Kd.R_drew)); exact Kd.R_mono HO_28.out (fun _ hk => ⟨hk.1.1, ⟨hk.1.2, hk.2⟩⟩)), (by (with_reducible repeat (first | refine kN ?_ _ | refine kD ?_ | refine kA ?_ _)); exact BK180.out), (by (with_reducible repeat (first | refine kN ?_ _ | refine kD ?_ | refine kA ?_ _)); exact BK181.out), (by (with_reducible repeat (first | refine kN ?_ _ | refine kD ?_ | refine kA ?_ _)); exact BK182.out), (by (with_reducible repeat (first | refine kN ?_ _ | refine kD ?_ | refine kA ?_ _)); exact BK189.out), (by (with_reducible repeat (first | refine kN ?_ _ | refine kD ?_ | refine kA ?_ _)); exact BK196.out), GW196.out, GE196.out, NB180_196.out, NB196_180.out, NB181_196.out, NB196_181.out, NB182_196.out, NB196_182.out, NB189_196.out, NB196_189.out, (by repeat (first | (with_reducible first | exact HB.out | apply bA | apply bN | apply bD | refine bX ?_ (by assumption)) | exact HB.out))⟩)
            skip
            refine box_step ?hg (N := 13) ?hd (cs := #[.int .i64 0, .int .i64 0]) (t := 26) ?hr ?_; (case hd => rfl); (case hg => rfl); (case hr => first | (go_simp; done) | (go_simp; rfl))
            intro gb196 hg w39 hbox hb
            have n0_ := Am (Kd.R_below (Kd.R_elderB (by (with_reducible repeat (first | apply Kd.R_alloc | apply Kd.R_drewN | apply Kd.R_drew)); exact HO_10.out) gb196 (Nat.le_of_eq hg.symm)) hb)
            have n1_ := Am (Kd.R_below (Kd.R_elderB (by (with_reducible repeat (first | apply Kd.R_alloc | apply Kd.R_drewN | apply Kd.R_drew)); exact HO_28.out) gb196 (Nat.le_of_eq hg.symm)) hb)
            have hp0 := hpA BK180.out hb (fun _ _ h_ => by (with_reducible repeat (first | refine kN ?_ _ | refine kD ?_ | refine kA ?_ _)); exact h_)
            have hv := hvK (w := w) hb (by repeat (first | (with_reducible first | exact HB.out | apply bA | apply bN | apply bD | refine bX ?_ (by assumption)) | exact HB.out))
            have n6_ := Am (bT hv hb)
            have n7_ := Am (hbox)
            have GW196 := kG hg hv
            have GE196 := kG hg hv
            have hp1 := hpK BK180.out hb (fun _ _ h_ => by (with_reducible repeat (first | refine kN ?_ _ | refine kD ?_ | refine kA ?_ _)); exact h_)
            have NB180_196 := kX hg (hp1 BK180.out)
            have NB196_180 := kY hg (hp1 BK180.out)
            have NB181_196 := kX hg (hp1 BK181.out)
            have NB196_181 := kY hg (hp1 BK181.out)
            have NB182_196 := kX hg (hp1 BK182.out)
            have NB196_182 := kY hg (hp1 BK182.out)
            have NB189_196 := kX hg (hp1 BK189.out)
            have NB196_189 := kY hg (hp1 BK189.out)
            clear HO_10 HO_28 HB
            have HO_10 := n0_; have HO_28 := n1_
            replace BK180 := hp0 BK180; replace BK181 := hp0 BK181; replace BK182 := hp0 BK182; replace BK189 := hp0 BK189
            have HB := n6_; have BK196 := n7_
            clear n6_ n7_ hp0 hp1 hv hb hbox hg
            refine hK.out _ _ ⟨c30 BK180.out, c31 BK180.out, c32 BK180.out, c30 BK182.out, c31 BK182.out, c32 BK182.out, c20 BK189.out, c21 BK189.out⟩ (fun hHeld => ?_)
            clear hK K
            refine norm_ (a' := ?_) ?_ ?_
            rotate_left
            ·show Act.put _ (some 13) _ = _
             simp only [Act.put, List.setIfInBounds_toArray, List.set_cons_zero, List.set_cons_succ, i64_w, i32_w]
             rfl
            refine one_ (i := 4) (N := some 39) #[true, true, true, true, true, false, false, false, true, false, false] rfl rfl (one_of HT_.out (by kernel_rfl)) (by decide) (fun K hK => ?_)
            refine goes_ Try.func64 (by kernel_rfl) rfl #[.agg #[.int .i64 t190, .int .i64 t191, .int .i64 t192], .agg #[.int .i64 ((rd_T26 t183 x30_2).f0), .int .i64 ((rd_T26 t183 x30_2).f1)]] (by rfl) rfl rfl (by (try simp only [List.map_toArray, List.map_cons, List.map_nil]); first | done | rfl | (simp only [List.length_drop, List.length_take]; rfl)) ?_
            with_reducible refine (spec_meAt.calls k2 t190 t191 t192 ((rd_T26 t183 x30_2).f0) ((rd_T26 t183 x30_2).f1) t193 t194 true _ A27.out).mono ?_
            rintro e w40 ⟨rfl, hb⟩
            refine ⟨_, rfl, ?_⟩
            have n0_ := Am (Kd.R_below (by (with_reducible repeat (first | apply Kd.R_alloc | apply Kd.R_drewN | apply Kd.R_drew)); exact HO_10.out) hb)
            have n1_ := Am (Kd.R_below (by (with_reducible repeat (first | apply Kd.R_alloc | apply Kd.R_drewN | apply Kd.R_drew)); exact HO_28.out) hb)
            have hp0 := hpA BK180.out hb (fun _ _ h_ => by (with_reducible repeat (first | refine kN ?_ _ | refine kD ?_ | refine kA ?_ _)); exact h_)
            have hv := hvK (w := w) hb (by repeat (first | (with_reducible first | exact HB.out | apply bA | apply bN | apply bD | refine bX ?_ (by assumption)) | exact HB.out))
            have n7_ := Am (bT hv hb)
            clear HO_10 HO_28 HB
            have HO_10 := n0_; have HO_28 := n1_
            replace BK180 := hp0 BK180; replace BK181 := hp0 BK181; replace BK182 := hp0 BK182; replace BK189 := hp0 BK189; replace BK196 := hp0 BK196
            have HB := n7_
            clear n0_ n1_ n7_ hp0 hv
            (try clear hb)
            refine hK.out _ _ ⟨c30 BK180.out, c31 BK180.out, c32 BK180.out, c30 BK182.out, c31 BK182.out, c32 BK182.out, c20 BK189.out, c21 BK189.out⟩ (fun hHeld => ?_)
            clear hK K
            refine norm_ (a' := ?_) ?_ ?_
            rotate_left
            ·show Act.put _ (some 39) _ = _
             simp only [Act.put, List.setIfInBounds_toArray, List.set_cons_zero, List.set_cons_succ, i64_w, i32_w]
             rfl
            refine pure_ (i := 5) (N := some 34) (v := ?_) (a' := ?_) #[true, true, true, true, true, true, false, false, true, false, false] rfl rfl (any_of HT_.out (by kernel_rfl)) (fun _ _ _ h => h) (Or.inl ⟨by rfl, ?_⟩) ?_ ?_
            rotate_left
            ·intro w'
             go_simp
             with_reducible rfl
            rotate_left
            ·simp only [Act.put, List.setIfInBounds_toArray, List.set_cons_zero, List.set_cons_succ, i64_w, i32_w]
             rfl
            refine pure_ (i := 6) (N := some 40) (v := ?_) (a' := ?_) #[true, true, true, true, true, true, true, false, true, false, false] rfl rfl (any_of HT_.out (by kernel_rfl)) (fun _ _ _ h => h) (Or.inl ⟨by rfl, ?_⟩) ?_ ?_
            rotate_left
            ·intro w'
             go_simp
             with_reducible rfl
            rotate_left
            ·simp only [Act.put, List.setIfInBounds_toArray, List.set_cons_zero, List.set_cons_succ, i64_w, i32_w]
             rfl
            refine pure_ (i := 7) (N := some 41) (v := ?_) (a' := ?_) (pT 11 9) rfl rfl (any_of HT_.out (by kernel_rfl)) (fun _ _ _ h => h) (Or.inl ⟨by rfl, ?_⟩) ?_ ?_
            rotate_left
            ·intro w'
             go_simp
             with_reducible rfl
            rotate_left
            ·simp only [Act.put, List.setIfInBounds_toArray, List.set_cons_zero, List.set_cons_succ, i64_w, i32_w]
             rfl
            exact norm_ (by simp only [putAll, Act.put, List.setIfInBounds_toArray, List.set_cons_zero, List.set_cons_succ]) (hCont (gb196) _ ⟨hHeld, (by (with_reducible repeat (first | apply Kd.R_alloc | apply Kd.R_drewN | apply Kd.R_drew)); exact Kd.R_mono HO_10.out (fun _ hk => ⟨hk.1.1, ⟨hk.1.2, hk.2⟩⟩)), (by (with_reducible repeat (first | apply Kd.R_alloc | apply Kd.R_drewN | apply Kd.R_drew)); exact Kd.R_mono HO_28.out (fun _ hk => ⟨hk.1.1, ⟨hk.1.2, hk.2⟩⟩)), (by (with_reducible repeat (first | refine kN ?_ _ | refine kD ?_ | refine kA ?_ _)); exact BK180.out), (by (with_reducible repeat (first | refine kN ?_ _ | refine kD ?_ | refine kA ?_ _)); exact BK181.out), (by (with_reducible repeat (first | refine kN ?_ _ | refine kD ?_ | refine kA ?_ _)); exact BK182.out), (by (with_reducible repeat (first | refine kN ?_ _ | refine kD ?_ | refine kA ?_ _)); exact BK189.out), (by (with_reducible repeat (first | refine kN ?_ _ | refine kD ?_ | refine kA ?_ _)); exact BK196.out), GW196.out, GE196.out, NB180_196.out, NB196_180.out, NB181_196.out, NB196_181.out, NB182_196.out, NB196_182.out, NB189_196.out, NB196_189.out, (by repeat (first | (with_reducible first | exact HB.out | apply bA | apply bN | apply bD | refine bX ?_ (by assumption)) | exact HB.out))⟩)
           skip
           refine box_step ?hg (N := 13) ?hd (cs := #[.int .i64 0, .int .i64 0]) (t := 26) ?hr ?_; (case hd => rfl); (case hg => rfl); (case hr => first | (go_simp; done) | (go_simp; rfl))
           intro gb196 hg w38 hbox hb
           have n0_ := Am (Kd.R_below (Kd.R_elderB (by (with_reducible repeat (first | apply Kd.R_alloc | apply Kd.R_drewN | apply Kd.R_drew)); exact HO_10.out) gb196 (Nat.le_of_eq hg.symm)) hb)
           have n1_ := Am (Kd.R_below (Kd.R_elderB (by (with_reducible repeat (first | apply Kd.R_alloc | apply Kd.R_drewN | apply Kd.R_drew)); exact HO_28.out) gb196 (Nat.le_of_eq hg.symm)) hb)
           have hp0 := hpA BK180.out hb (fun _ _ h_ => by (with_reducible repeat (first | refine kN ?_ _ | refine kD ?_ | refine kA ?_ _)); exact h_)
           have hv := hvK (w := w) hb (by repeat (first | (with_reducible first | exact HB.out | apply bA | apply bN | apply bD | refine bX ?_ (by assumption)) | exact HB.out))
           have n6_ := Am (bT hv hb)
           have n7_ := Am (hbox)
           have GW196 := kG hg hv
           have GE196 := kG hg hv
           have hp1 := hpK BK180.out hb (fun _ _ h_ => by (with_reducible repeat (first | refine kN ?_ _ | refine kD ?_ | refine kA ?_ _)); exact h_)
           have NB180_196 := kX hg (hp1 BK180.out)
           have NB196_180 := kY hg (hp1 BK180.out)
           have NB181_196 := kX hg (hp1 BK181.out)
           have NB196_181 := kY hg (hp1 BK181.out)
           have NB182_196 := kX hg (hp1 BK182.out)
           have NB196_182 := kY hg (hp1 BK182.out)
           have NB189_196 := kX hg (hp1 BK189.out)
           have NB196_189 := kY hg (hp1 BK189.out)
           clear HO_10 HO_28 HB
           have HO_10 := n0_; have HO_28 := n1_
           replace BK180 := hp0 BK180; replace BK181 := hp0 BK181; replace BK182 := hp0 BK182; replace BK189 := hp0 BK189
           have HB := n6_; have BK196 := n7_
           clear n6_ n7_ hp0 hp1 hv hb hbox hg
           refine hK.out _ _ ⟨c30 BK180.out, c31 BK180.out, c32 BK180.out, c30 BK182.out, c31 BK182.out, c32 BK182.out, c20 BK189.out, c21 BK189.out⟩ (fun hHeld => ?_)
           clear hK K
           refine norm_ (a' := ?_) ?_ ?_
           rotate_left
           ·show Act.put _ (some 13) _ = _
            simp only [Act.put, List.setIfInBounds_toArray, List.set_cons_zero, List.set_cons_succ, i64_w, i32_w]
            rfl
           refine one_ (i := 2) (N := some 37) #[true, true, true, true, false, false, false, false, true, false, false] rfl rfl (one_of HT_.out (by kernel_rfl)) (by decide) (fun K hK => ?_)
           refine goes_ Try.func65 (by kernel_rfl) rfl #[.agg #[.int .i64 a0_0, .int .i64 a0_1, .int .i64 a0_2], .agg #[.int .i64 a2_0, .int .i64 a2_1, .int .i64 a2_2]] (by rfl) rfl rfl (by (try simp only [List.map_toArray, List.map_cons, List.map_nil]); first | done | rfl | (simp only [List.length_drop, List.length_take]; rfl)) ?_
           with_reducible refine (spec_meRelative.calls k2 a0_0 a0_1 a0_2 a2_0 a2_1 a2_2 t190 t191 t192 _ A26.out).mono ?_
           rintro e w39 ⟨rfl, hb⟩
           refine ⟨_, rfl, ?_⟩
           have n0_ := Am (Kd.R_below (by (with_reducible repeat (first | apply Kd.R_alloc | apply Kd.R_drewN | apply Kd.R_drew)); exact HO_10.out) hb)
           have n1_ := Am (Kd.R_below (by (with_reducible repeat (first | apply Kd.R_alloc | apply Kd.R_drewN | apply Kd.R_drew)); exact HO_28.out) hb)
           have hp0 := hpA BK180.out hb (fun _ _ h_ => by (with_reducible repeat (first | refine kN ?_ _ | refine kD ?_ | refine kA ?_ _)); exact h_)
           have hv := hvK (w := w) hb (by repeat (first | (with_reducible first | exact HB.out | apply bA | apply bN | apply bD | refine bX ?_ (by assumption)) | exact HB.out))
           have n7_ := Am (bT hv hb)
           clear HO_10 HO_28 HB
           have HO_10 := n0_; have HO_28 := n1_
           replace BK180 := hp0 BK180; replace BK181 := hp0 BK181; replace BK182 := hp0 BK182; replace BK189 := hp0 BK189; replace BK196 := hp0 BK196
           have HB := n7_
           clear n0_ n1_ n7_ hp0 hv
           (try clear hb)
           refine hK.out _ _ ⟨c30 BK180.out, c31 BK180.out, c32 BK180.out, c30 BK182.out, c31 BK182.out, c32 BK182.out, c20 BK189.out, c21 BK189.out⟩ (fun hHeld => ?_)
           clear hK K
           refine norm_ (a' := ?_) ?_ ?_
           rotate_left
           ·show Act.put _ (some 37) _ = _
            simp only [Act.put, List.setIfInBounds_toArray, List.set_cons_zero, List.set_cons_succ, i64_w, i32_w]
            rfl
           refine one_ (i := 4) (N := some 39) #[true, true, true, true, true, false, false, false, true, false, false] rfl rfl (one_of HT_.out (by kernel_rfl)) (by decide) (fun K hK => ?_)
           refine goes_ Try.func64 (by kernel_rfl) rfl #[.agg #[.int .i64 t190, .int .i64 t191, .int .i64 t192], .agg #[.int .i64 ((rd_T26 t183 x30_2).f0), .int .i64 ((rd_T26 t183 x30_2).f1)]] (by rfl) rfl rfl (by (try simp only [List.map_toArray, List.map_cons, List.map_nil]); first | done | rfl | (simp only [List.length_drop, List.length_take]; rfl)) ?_
           with_reducible refine (spec_meAt.calls k2 t190 t191 t192 ((rd_T26 t183 x30_2).f0) ((rd_T26 t183 x30_2).f1) t193 t194 true _ A27.out).mono ?_
           rintro e w40 ⟨rfl, hb⟩
           refine ⟨_, rfl, ?_⟩
           have n0_ := Am (Kd.R_below (by (with_reducible repeat (first | apply Kd.R_alloc | apply Kd.R_drewN | apply Kd.R_drew)); exact HO_10.out) hb)
           have n1_ := Am (Kd.R_below (by (with_reducible repeat (first | apply Kd.R_alloc | apply Kd.R_drewN | apply Kd.R_drew)); exact HO_28.out) hb)
           have hp0 := hpA BK180.out hb (fun _ _ h_ => by (with_reducible repeat (first | refine kN ?_ _ | refine kD ?_ | refine kA ?_ _)); exact h_)
           have hv := hvK (w := w) hb (by repeat (first | (with_reducible first | exact HB.out | apply bA | apply bN | apply bD | refine bX ?_ (by assumption)) | exact HB.out))
           have n7_ := Am (bT hv hb)
           clear HO_10 HO_28 HB
           have HO_10 := n0_; have HO_28 := n1_
           replace BK180 := hp0 BK180; replace BK181 := hp0 BK181; replace BK182 := hp0 BK182; replace BK189 := hp0 BK189; replace BK196 := hp0 BK196
           have HB := n7_
           clear n0_ n1_ n7_ hp0 hv
           (try clear hb)
           refine hK.out _ _ ⟨c30 BK180.out, c31 BK180.out, c32 BK180.out, c30 BK182.out, c31 BK182.out, c32 BK182.out, c20 BK189.out, c21 BK189.out⟩ (fun hHeld => ?_)
           clear hK K
           refine norm_ (a' := ?_) ?_ ?_
           rotate_left
           ·show Act.put _ (some 39) _ = _
            simp only [Act.put, List.setIfInBounds_toArray, List.set_cons_zero, List.set_cons_succ, i64_w, i32_w]
            rfl
           refine pure_ (i := 5) (N := some 34) (v := ?_) (a' := ?_) #[true, true, true, true, true, true, false, false, true, false, false] rfl rfl (any_of HT_.out (by kernel_rfl)) (fun _ _ _ h => h) (Or.inl ⟨by rfl, ?_⟩) ?_ ?_
           rotate_left
           ·intro w'
            go_simp
            with_reducible rfl
           rotate_left
           ·simp only [Act.put, List.setIfInBounds_toArray, List.set_cons_zero, List.set_cons_succ, i64_w, i32_w]
            rfl
           refine pure_ (i := 6) (N := some 40) (v := ?_) (a' := ?_) #[true, true, true, true, true, true, true, false, true, false, false] rfl rfl (any_of HT_.out (by kernel_rfl)) (fun _ _ _ h => h) (Or.inl ⟨by rfl, ?_⟩) ?_ ?_
           rotate_left
           ·intro w'
            go_simp
            with_reducible rfl
           rotate_left
           ·simp only [Act.put, List.setIfInBounds_toArray, List.set_cons_zero, List.set_cons_succ, i64_w, i32_w]
            rfl
           refine pure_ (i := 7) (N := some 41) (v := ?_) (a' := ?_) (pT 11 9) rfl rfl (any_of HT_.out (by kernel_rfl)) (fun _ _ _ h => h) (Or.inl ⟨by rfl, ?_⟩) ?_ ?_
           rotate_left
           ·intro w'
            go_simp
            with_reducible rfl
           rotate_left
           ·simp only [Act.put, List.setIfInBounds_toArray, List.set_cons_zero, List.set_cons_succ, i64_w, i32_w]
            rfl
           exact norm_ (by simp only [putAll, Act.put, List.setIfInBounds_toArray, List.set_cons_zero, List.set_cons_succ]) (hCont (gb196) _ ⟨hHeld, (by (with_reducible repeat (first | apply Kd.R_alloc | apply Kd.R_drewN | apply Kd.R_drew)); exact Kd.R_mono HO_10.out (fun _ hk => ⟨hk.1.1, ⟨hk.1.2, hk.2⟩⟩)), (by (with_reducible repeat (first | apply Kd.R_alloc | apply Kd.R_drewN | apply Kd.R_drew)); exact Kd.R_mono HO_28.out (fun _ hk => ⟨hk.1.1, ⟨hk.1.2, hk.2⟩⟩)), (by (with_reducible repeat (first | refine kN ?_ _ | refine kD ?_ | refine kA ?_ _)); exact BK180.out), (by (with_reducible repeat (first | refine kN ?_ _ | refine kD ?_ | refine kA ?_ _)); exact BK181.out), (by (with_reducible repeat (first | refine kN ?_ _ | refine kD ?_ | refine kA ?_ _)); exact BK182.out), (by (with_reducible repeat (first | refine kN ?_ _ | refine kD ?_ | refine kA ?_ _)); exact BK189.out), (by (with_reducible repeat (first | refine kN ?_ _ | refine kD ?_ | refine kA ?_ _)); exact BK196.out), GW196.out, GE196.out, NB180_196.out, NB196_180.out, NB181_196.out, NB196_181.out, NB182_196.out, NB196_182.out, NB189_196.out, NB196_189.out, (by repeat (first | (with_reducible first | exact HB.out | apply bA | apply bN | apply bD | refine bX ?_ (by assumption)) | exact HB.out))⟩)
          rintro gb196 w41 ⟨hS_, h0_, h1_, h2_, h3_, h4_, h5_, h6_, h7_, h8_, h9_, h10_, h11_, h12_, h13_, h14_, h15_, h16_, h17_⟩
          have n0_ : Aside0 (Kd.R k26 26 w41 w.heap.size (fun k_ => some k_ ≠ (.slice (some ad188) t183.length co22 : Value).ownBlock ∧ k_ ≠ gb189 ∧ k_ ≠ gb196) u10 x10_2) := ⟨h0_⟩
          have n1_ : Aside0 (Kd.R k26 26 w41 w.heap.size (fun k_ => some k_ ≠ (u10 : Value).ownBlock ∧ k_ ≠ gb189 ∧ k_ ≠ gb196) (.slice (some ad188) t183.length co22) t183) := ⟨h1_⟩
          have n2_ : Aside0 (w41.heap[gb180]? = some (.cells #[.int .i64 a0_0, .int .i64 a0_1, .int .i64 a0_2] 30 (0, 0))) := ⟨h2_⟩
          have n3_ : Aside0 (w41.heap[gb181]? = some (.cells #[.int .i64 a1_0, .int .i64 a1_1, .int .i64 a1_2] 30 (0, 0))) := ⟨h3_⟩
          have n4_ : Aside0 (w41.heap[gb182]? = some (.cells #[.int .i64 a2_0, .int .i64 a2_1, .int .i64 a2_2] 30 (0, 0))) := ⟨h4_⟩
          have n5_ : Aside0 (w41.heap[gb189]? = some (.cells #[.int .i64 ((rd_T26 t183 x30_2).f0), .int .i64 ((rd_T26 t183 x30_2).f1)] 26 (0, 0))) := ⟨h5_⟩
          have n6_ : Aside0 (w41.heap[gb196]? = some (.cells #[.int .i64 0, .int .i64 0] 26 (0, 0))) := ⟨h6_⟩
          have n7_ : Aside0 (w.heap.size ≤ gb196) := ⟨h7_⟩
          have n8_ : Aside0 (w.heap.size ≤ gb196) := ⟨h8_⟩
          have n9_ : Aside0 (gb180 ≠ gb196) := ⟨h9_⟩
          have n10_ : Aside0 (gb196 ≠ gb180) := ⟨h10_⟩
          have n11_ : Aside0 (gb181 ≠ gb196) := ⟨h11_⟩
          have n12_ : Aside0 (gb196 ≠ gb181) := ⟨h12_⟩
          have n13_ : Aside0 (gb182 ≠ gb196) := ⟨h13_⟩
          have n14_ : Aside0 (gb196 ≠ gb182) := ⟨h14_⟩
          have n15_ : Aside0 (gb189 ≠ gb196) := ⟨h15_⟩
          have n16_ : Aside0 (gb196 ≠ gb189) := ⟨h16_⟩
          have n17_ : Aside0 (Below w.heap.size w w41) := ⟨h17_⟩
          clear HO_10 HO_28 BK180 BK181 BK182 BK189 HB h0_ h1_ h2_ h3_ h4_ h5_ h6_ h7_ h8_ h9_ h10_ h11_ h12_ h13_ h14_ h15_ h16_ h17_
          have HO_10 := n0_; have HO_28 := n1_; have BK180 := n2_; have BK181 := n3_; have BK182 := n4_; have BK189 := n5_; have BK196 := n6_; have GW196 := n7_; have GE196 := n8_; have NB180_196 := n9_; have NB196_180 := n10_; have NB181_196 := n11_; have NB196_181 := n12_; have NB182_196 := n13_; have NB196_182 := n14_; have NB189_196 := n15_; have NB196_189 := n16_; have HB := n17_
          clear n0_ n1_ n2_ n3_ n4_ n5_ n6_ n7_ n8_ n9_ n10_ n11_ n12_ n13_ n14_ n15_ n16_ n17_
          have hHeld : w41.cell? ⟨gb180, 0, none⟩ = some (.int .i64 a0_0) ∧ w41.cell? ⟨gb180, 1, none⟩ = some (.int .i64 a0_1) ∧ w41.cell? ⟨gb180, 2, none⟩ = some (.int .i64 a0_2) ∧ w41.cell? ⟨gb182, 0, none⟩ = some (.int .i64 a2_0) ∧ w41.cell? ⟨gb182, 1, none⟩ = some (.int .i64 a2_1) ∧ w41.cell? ⟨gb182, 2, none⟩ = some (.int .i64 a2_2) ∧ w41.cell? ⟨gb189, 0, none⟩ = some (.int .i64 ((rd_T26 t183 x30_2).f0)) ∧ w41.cell? ⟨gb189, 1, none⟩ = some (.int .i64 ((rd_T26 t183 x30_2).f1)) := hS_
          refine norm_ (a' := ?_) ?_ ?_
          rotate_left
          ·simp only [putAll, Act.put, List.setIfInBounds_toArray, List.set_cons_zero, List.set_cons_succ]
           rfl
          refine one_ (i := 9) (N := none) (pT 11 10) rfl rfl (one_of HT_.out (by kernel_rfl)) (by decide) (fun K hK => ?_)
          have hs42 : w41.cell? ⟨gb196, 0, none⟩ = some (.int .i64 0) := c20 BK196.out
          have hfs42 := kF BK196.out 0
          have hns42_0 := NB180_196.out; have hns42_1 := NB181_196.out; have hns42_2 := NB182_196.out; have hns42_3 := NB189_196.out; have hms42_0 := NB196_180.out; have hms42_1 := NB196_181.out; have hms42_2 := NB196_182.out; have hms42_3 := NB196_189.out
          have hs43 : w41.cell? ⟨gb196, 1, none⟩ = some (.int .i64 0) := c21 BK196.out
          have hfs43 := kF BK196.out 1
          have hns43_0 := NB180_196.out; have hns43_1 := NB181_196.out; have hns43_2 := NB182_196.out; have hns43_3 := NB189_196.out; have hms43_0 := NB196_180.out; have hms43_1 := NB196_181.out; have hms43_2 := NB196_182.out; have hms43_3 := NB196_189.out
          refine skip_ (w1 := ?_) (by rfl) rfl ?_ ?_
          rotate_left
          ·go_simp
           rfl
          refine hK.out _ _ ⟨((cell_far (p := ⟨gb196, _, none⟩) NB180_196.out _).trans (((cell_far (p := ⟨gb196, _, none⟩) NB180_196.out _).trans (hHeld.1)))), ((cell_far (p := ⟨gb196, _, none⟩) NB180_196.out _).trans (((cell_far (p := ⟨gb196, _, none⟩) NB180_196.out _).trans (hHeld.2.1)))), ((cell_far (p := ⟨gb196, _, none⟩) NB180_196.out _).trans (((cell_far (p := ⟨gb196, _, none⟩) NB180_196.out _).trans (hHeld.2.2.1)))), ((cell_far (p := ⟨gb196, _, none⟩) NB182_196.out _).trans (((cell_far (p := ⟨gb196, _, none⟩) NB182_196.out _).trans (hHeld.2.2.2.1)))), ((cell_far (p := ⟨gb196, _, none⟩) NB182_196.out _).trans (((cell_far (p := ⟨gb196, _, none⟩) NB182_196.out _).trans (hHeld.2.2.2.2.1)))), ((cell_far (p := ⟨gb196, _, none⟩) NB182_196.out _).trans (((cell_far (p := ⟨gb196, _, none⟩) NB182_196.out _).trans (hHeld.2.2.2.2.2.1)))), ((cell_far (p := ⟨gb196, _, none⟩) NB189_196.out _).trans (((cell_far (p := ⟨gb196, _, none⟩) NB189_196.out _).trans (hHeld.2.2.2.2.2.2.1)))), ((cell_far (p := ⟨gb196, _, none⟩) NB189_196.out _).trans (((cell_far (p := ⟨gb196, _, none⟩) NB189_196.out _).trans (hHeld.2.2.2.2.2.2.2))))⟩ (fun hHeld => ?_)
          clear hK K
          refine pI (v := ?_) (a' := ?_) rfl (any_of HT_.out (by kernel_rfl)) (fun _ _ _ h => h) (Or.inl ⟨by rfl, ?_⟩) ?_ ?_
          rotate_left
          ·intro w'
           go_simp
           with_reducible rfl
          rotate_left
          ·show Act.put _ (some _) _ = _
           simp only [Act.put, List.setIfInBounds_toArray, List.set_cons_zero, List.set_cons_succ, i64_w, i32_w]
           rfl
          refine done_ (done_of HT_.out (by kernel_rfl)) ?_
          have hnb44 := NB196_180.out; have hnc44 := NB180_196.out; have hnb45 := NB196_181.out; have hnc45 := NB181_196.out; have hnb46 := NB196_182.out; have hnc46 := NB182_196.out; have hnb47 := NB196_189.out; have hnc47 := NB189_196.out
          have hcz48_0 := c20 BK196.out
          have hcz48_1 := c21 BK196.out
          have hfz48_0 := kF BK196.out 0
          have hfz48_1 := kF BK196.out 1
          have hcz49_0 : w41.cell? ⟨gb189, 0, none⟩ = some (.int .i64 ((rd_T26 t183 x30_2).f0)) := c20 BK189.out
          have hcz49_1 : w41.cell? ⟨gb189, 1, none⟩ = some (.int .i64 ((rd_T26 t183 x30_2).f1)) := c21 BK189.out
          have hfz49_0 := kF BK189.out 0
          have hfz49_1 := kF BK189.out 1
          try go_wp2_with (first | ((with_reducible refine gate_builtin (b := .append) (xs := #[.tmp 48, .tmp 50]) rfl ?_); at_builtin; refine Kd.R_append k26 (w0 := w) w.heap.size rfl (.tmp 48) (.tmp 50) 35 26 (.agg #[(.int .i64 0), (.int .i64 0)]) 16 rfl Try.underlying35 info26 rfl (by decide) (by omega) u10 x10_2 (⟨(rd_T26 t183 x30_2).f0, (rd_T26 t183 x30_2).f1⟩ : S26) [.int .i64 ((rd_T26 t183 x30_2).f0), .int .i64 ((rd_T26 t183 x30_2).f1)] (fun k_ => some k_ ≠ (.slice (some ad188) t183.length co22 : Value).ownBlock ∧ k_ ≠ gb189 ∧ k_ ≠ gb196) (fun _ => False) rfl (by first | (go_simp; done) | (go_simp; rfl)) ?aP (fun _ hk => hk.elim) ?aF ?aO ?aB ?aS ?aL ?_; (case aP => exact k26_mkM _ _ _ (⟨(rd_T26 t183 x30_2).f0, (rd_T26 t183 x30_2).f1⟩ : S26)); (case aB => exact (by repeat (first | (with_reducible first | exact HB.out | apply bA | apply bN | apply bD | refine bX ?_ (by assumption)) | exact HB.out))); (case aF => exact (fun k_ hk => ⟨Kd.fresh' (Kd.R_lt (by (with_reducible repeat (first | apply Kd.R_alloc | apply Kd.R_drewN | apply Kd.R_drew)); exact (Kd.R_mono (Kd.R_far (p := ⟨gb196, 1, none⟩) (Kd.R_far (p := ⟨gb196, 0, none⟩) (Kd.R_mono HO_28.out (fun k_ hk => (⟨hk, hk.2.2⟩ : _ ∧ k_ ≠ gb196))) (fun _ hk => hk.2) (.int .i64 t193)) (fun _ hk => hk.2) (.int .i64 t194)) (fun _ h_ => h_.1)))) k_ hk, Kd.freshB (g := gb189) (o := .cells #[.int .i64 ((rd_T26 t183 x30_2).f0), .int .i64 ((rd_T26 t183 x30_2).f1)] 26 (0, 0)) (by (with_reducible repeat (first | refine kN ?_ _ | refine kD ?_ | refine kA ?_ _)); refine kR ?_ NB189_196.out _; (with_reducible repeat (first | refine kN ?_ _ | refine kD ?_ | refine kA ?_ _)); refine kR ?_ NB189_196.out _; (with_reducible repeat (first | refine kN ?_ _ | refine kD ?_ | refine kA ?_ _)); exact BK189.out) k_ hk, Kd.freshB (g := gb196) (o := .cells #[.int .i64 t193, .int .i64 t194] 26 (0, 0)) (by (with_reducible repeat (first | refine kN ?_ _ | refine kD ?_ | refine kA ?_ _)); refine kP (cs := #[.int .i64 t193, .int .i64 0]) ?_ 1 _ rfl; (with_reducible repeat (first | refine kN ?_ _ | refine kD ?_ | refine kA ?_ _)); refine kP (cs := #[.int .i64 0, .int .i64 0]) ?_ 0 _ rfl; (with_reducible repeat (first | refine kN ?_ _ | refine kD ?_ | refine kA ?_ _)); exact BK196.out) k_ hk⟩)); (case aO => exact (by (with_reducible repeat (first | apply Kd.R_alloc | apply Kd.R_drewN | apply Kd.R_drew)); exact Kd.R_mono (Kd.R_far (p := ⟨gb196, 1, none⟩) (Kd.R_far (p := ⟨gb196, 0, none⟩) (Kd.R_mono HO_10.out (fun k_ hk => (⟨hk, hk.2.2⟩ : _ ∧ k_ ≠ gb196))) (fun _ hk => hk.2) (.int .i64 t193)) (fun _ hk => hk.2) (.int .i64 t194)) (fun _ hk => ⟨hk.1.1, ⟨hk.1.2.1, hk.1.2.2⟩⟩))); (case aS => exact (bZ (by repeat (first | (with_reducible first | exact HB.out | apply bA | apply bN | apply bD | refine bX ?_ (by assumption)) | exact HB.out)))); (case aL => have := LMc30.out; omega); intro v198 w50 ho hb hg hat; rw [← Ny197.out] at ho; have n0_ := Am (Kd.R_after (ok := (fun k_ => k_ ≠ gb189 ∧ k_ ≠ gb196)) (by (with_reducible repeat (first | apply Kd.R_alloc | apply Kd.R_drewN | apply Kd.R_drew)); exact Kd.R_mono (Kd.R_far (p := ⟨gb196, 1, none⟩) (Kd.R_far (p := ⟨gb196, 0, none⟩) (Kd.R_mono HO_28.out (fun k_ hk => (⟨hk, hk.2.2⟩ : _ ∧ k_ ≠ gb196))) (fun _ hk => hk.2) (.int .i64 t193)) (fun _ hk => hk.2) (.int .i64 t194)) (fun _ hk => ⟨⟨hk.1.2.1, hk.1.2.2⟩, hk.1.1⟩)) hg hat); have n1_ := Am (blk_grown (g := gb180) (o := .cells #[.int .i64 a0_0, .int .i64 a0_1, .int .i64 a0_2] 30 (0, 0)) (by (with_reducible repeat (first | refine kN ?_ _ | refine kD ?_ | refine kA ?_ _)); refine kR ?_ NB180_196.out _; (with_reducible repeat (first | refine kN ?_ _ | refine kD ?_ | refine kA ?_ _)); refine kR ?_ NB180_196.out _; (with_reducible repeat (first | refine kN ?_ _ | refine kD ?_ | refine kA ?_ _)); exact BK180.out) hg (Kd.R_ne HO_10.out BK180.out (by decide))); have n2_ := Am (blk_grown (g := gb181) (o := .cells #[.int .i64 a1_0, .int .i64 a1_1, .int .i64 a1_2] 30 (0, 0)) (by (with_reducible repeat (first | refine kN ?_ _ | refine kD ?_ | refine kA ?_ _)); refine kR ?_ NB181_196.out _; (with_reducible repeat (first | refine kN ?_ _ | refine kD ?_ | refine kA ?_ _)); refine kR ?_ NB181_196.out _; (with_reducible repeat (first | refine kN ?_ _ | refine kD ?_ | refine kA ?_ _)); exact BK181.out) hg (Kd.R_ne HO_10.out BK181.out (by decide))); have n3_ := Am (blk_grown (g := gb182) (o := .cells #[.int .i64 a2_0, .int .i64 a2_1, .int .i64 a2_2] 30 (0, 0)) (by (with_reducible repeat (first | refine kN ?_ _ | refine kD ?_ | refine kA ?_ _)); refine kR ?_ NB182_196.out _; (with_reducible repeat (first | refine kN ?_ _ | refine kD ?_ | refine kA ?_ _)); refine kR ?_ NB182_196.out _; (with_reducible repeat (first | refine kN ?_ _ | refine kD ?_ | refine kA ?_ _)); exact BK182.out) hg (Kd.R_ne HO_10.out BK182.out (by decide))); have n4_ := Am (blk_grown (g := gb189) (o := .cells #[.int .i64 ((rd_T26 t183 x30_2).f0), .int .i64 ((rd_T26 t183 x30_2).f1)] 26 (0, 0)) (by (with_reducible repeat (first | refine kN ?_ _ | refine kD ?_ | refine kA ?_ _)); refine kR ?_ NB189_196.out _; (with_reducible repeat (first | refine kN ?_ _ | refine kD ?_ | refine kA ?_ _)); refine kR ?_ NB189_196.out _; (with_reducible repeat (first | refine kN ?_ _ | refine kD ?_ | refine kA ?_ _)); exact BK189.out) hg (Kd.R_away HO_10.out (fun _ hk => hk.2.1))); have n5_ := Am (blk_grown (g := gb196) (o := .cells #[.int .i64 t193, .int .i64 t194] 26 (0, 0)) (by (with_reducible repeat (first | refine kN ?_ _ | refine kD ?_ | refine kA ?_ _)); refine kP (cs := #[.int .i64 t193, .int .i64 0]) ?_ 1 _ rfl; (with_reducible repeat (first | refine kN ?_ _ | refine kD ?_ | refine kA ?_ _)); refine kP (cs := #[.int .i64 0, .int .i64 0]) ?_ 0 _ rfl; (with_reducible repeat (first | refine kN ?_ _ | refine kD ?_ | refine kA ?_ _)); exact BK196.out) hg (Kd.R_away HO_10.out (fun _ hk => hk.2.2))); have n6_ := Am (hb); have n7_ := Am (ho); clear HO_28; clear BK180; clear BK181; clear BK182; clear BK189; clear BK196; clear HB; clear HO_10; have HO_28 := n0_; have BK180 := n1_; have BK181 := n2_; have BK182 := n3_; have BK189 := n4_; have BK196 := n5_; have HB := n6_; have HO199 := n7_; clear n0_ n1_ n2_ n3_ n4_ n5_ n6_ n7_; clear ho hb hg hat))
          go_roundg k2
          case measure => have := HJ4.out; have := HK2.out; omega
          case rel =>
           refine ⟨(y197), (wrap64 (x30_2 + 1)), (by first | rfl | (simp; done) | (simp [*]; done)), H', ⟨by have := HJ4.out; have := HK2.out; omega⟩, ⟨by (with_reducible repeat (first | apply Kd.R_alloc | apply Kd.R_drewN | apply Kd.R_drew)); exact Kd.R_mono HO199.out (fun _ hk => hk.1)⟩, ⟨by (with_reducible repeat (first | apply Kd.R_alloc | apply Kd.R_drewN | apply Kd.R_drew)); exact Kd.R_mono HO_28.out (fun _ hk => hk.2)⟩, ⟨?_⟩, ⟨?_⟩, ⟨?_⟩, ⟨by repeat (first | (with_reducible first | exact HB.out | apply bA | apply bN | apply bD | refine bX ?_ (by assumption)) | exact HB.out)⟩⟩
           all_goals ((with_reducible repeat (first | refine kN ?_ _ | refine kD ?_ | refine kA ?_ _)); exact Aside0.out (by assumption))
         rw [if_neg c30] at H
         exact absurd H (by simp)
        rw [if_neg c29] at H
        have c29b0 : (t193 == 0) = false := beq_eq_false_iff_ne.mpr c29
        have c29b1 : (t193 != 0) = true := bne_iff_ne.mpr c29
        have H' := Am H
        clear H
        have p188 : 0 ≤ (x30_2 : Int) := of_decide_eq_true (by first | (with_reducible assumption) | assumption)
        have q188 : x30_2 < (t183.length : Int) := of_decide_eq_true (by first | (with_reducible assumption) | assumption)
        obtain ⟨ad188, e188, hx188_0, hx188_1⟩ := at_T26 (Kd.R_reads' HO_28.out).2.2 x30_2 p188 q188
        cases e188
        replace p188 := eq_true p188
        replace q188 := eq_true q188
        try go_wp2_with (first | ((with_reducible refine gate_dst (N := 12) rfl ?_); refine box_event ?hg (N := 12) ?hd (cs := #[.int .i64 0, .int .i64 0]) (t := 26) ?hr ?_; (case hd => rfl); (case hg => rfl); (case hr => first | (go_simp; done) | (go_simp; rfl)); intro gb189 hg w51 hbox hb; have n0_ := Am (Kd.R_below (Kd.R_elderB (by (with_reducible repeat (first | apply Kd.R_alloc | apply Kd.R_drewN | apply Kd.R_drew)); exact HO_10.out) gb189 (Nat.le_of_eq hg.symm)) hb); have n1_ := Am (Kd.R_below (Kd.R_elderB (by (with_reducible repeat (first | apply Kd.R_alloc | apply Kd.R_drewN | apply Kd.R_drew)); exact HO_28.out) gb189 (Nat.le_of_eq hg.symm)) hb); have hp0 := hpA BK180.out hb (fun _ _ h_ => by (with_reducible repeat (first | refine kN ?_ _ | refine kD ?_ | refine kA ?_ _)); exact h_); have hv := hvK (w := w) hb (by repeat (first | (with_reducible first | exact HB.out | apply bA | apply bN | apply bD | refine bX ?_ (by assumption)) | exact HB.out)); have n5_ := Am (bT hv hb); have n6_ := Am (hbox); have GW189 := kG hg hv; have GE189 := kG hg hv; have hp1 := hpK BK180.out hb (fun _ _ h_ => by (with_reducible repeat (first | refine kN ?_ _ | refine kD ?_ | refine kA ?_ _)); exact h_); have NB180_189 := kX hg (hp1 BK180.out); have NB189_180 := kY hg (hp1 BK180.out); have NB181_189 := kX hg (hp1 BK181.out); have NB189_181 := kY hg (hp1 BK181.out); have NB182_189 := kX hg (hp1 BK182.out); have NB189_182 := kY hg (hp1 BK182.out); clear HO_10; clear HO_28; clear HB; have HO_10 := n0_; have HO_28 := n1_; replace BK180 := hp0 BK180; replace BK181 := hp0 BK181; replace BK182 := hp0 BK182; have HB := n5_; have BK189 := n6_; clear n0_ n1_ n5_ n6_ hp0 hp1 hv; clear hb hbox hg; have hnb52 := NB189_180.out; have hnc52 := NB180_189.out; have hnb53 := NB189_181.out; have hnc53 := NB181_189.out; have hnb54 := NB189_182.out; have hnc54 := NB182_189.out; have hcz55_0 := c20 BK189.out; have hcz55_1 := c21 BK189.out; have hfz55_0 := kF BK189.out 0; have hfz55_1 := kF BK189.out 1))
        have n0_ : Aside0 (Kd.R k26 26 ((w51.setCell ⟨gb189, 0, none⟩ (.int .i64 ((rd_T26 t183 x30_2).f0))).setCell ⟨gb189, 1, none⟩ (.int .i64 ((rd_T26 t183 x30_2).f1))) w.heap.size (fun k_ => some k_ ≠ (.slice (some ad188) t183.length co22 : Value).ownBlock ∧ k_ ≠ gb189) u10 x10_2) := ⟨by (with_reducible repeat (first | apply Kd.R_alloc | apply Kd.R_drewN | apply Kd.R_drew)); exact Kd.R_mono (Kd.R_far (p := ⟨gb189, 1, none⟩) (Kd.R_far (p := ⟨gb189, 0, none⟩) (Kd.R_mono HO_10.out (fun k_ hk => (⟨hk, hk.2⟩ : _ ∧ k_ ≠ gb189))) (fun _ hk => hk.2) (.int .i64 ((rd_T26 t183 x30_2).f0))) (fun _ hk => hk.2) (.int .i64 ((rd_T26 t183 x30_2).f1))) (fun _ hk => ⟨hk.1.1, hk.1.2⟩)⟩
        have n1_ : Aside0 (Kd.R k26 26 ((w51.setCell ⟨gb189, 0, none⟩ (.int .i64 ((rd_T26 t183 x30_2).f0))).setCell ⟨gb189, 1, none⟩ (.int .i64 ((rd_T26 t183 x30_2).f1))) w.heap.size (fun k_ => some k_ ≠ (u10 : Value).ownBlock ∧ k_ ≠ gb189) (.slice (some ad188) t183.length co22) t183) := ⟨by (with_reducible repeat (first | apply Kd.R_alloc | apply Kd.R_drewN | apply Kd.R_drew)); exact Kd.R_mono (Kd.R_far (p := ⟨gb189, 1, none⟩) (Kd.R_far (p := ⟨gb189, 0, none⟩) (Kd.R_mono HO_28.out (fun k_ hk => (⟨hk, hk.2⟩ : _ ∧ k_ ≠ gb189))) (fun _ hk => hk.2) (.int .i64 ((rd_T26 t183 x30_2).f0))) (fun _ hk => hk.2) (.int .i64 ((rd_T26 t183 x30_2).f1))) (fun _ hk => ⟨hk.1.1, hk.1.2⟩)⟩
        have hq := hqR (W := ((w51.setCell ⟨gb189, 0, none⟩ (.int .i64 ((rd_T26 t183 x30_2).f0))).setCell ⟨gb189, 1, none⟩ (.int .i64 ((rd_T26 t183 x30_2).f1)))) gb189 BK180.out (fun _ _ q_ h_ => by (with_reducible repeat (first | refine kN ?_ _ | refine kD ?_ | refine kA ?_ _ | refine kZ ?_ q_ _)); exact h_)
        have n2_ := Am (hq NB180_189.out BK180.out)
        have n3_ := Am (hq NB181_189.out BK181.out)
        have n4_ := Am (hq NB182_189.out BK182.out)
        have n5_ : Aside0 (((w51.setCell ⟨gb189, 0, none⟩ (.int .i64 ((rd_T26 t183 x30_2).f0))).setCell ⟨gb189, 1, none⟩ (.int .i64 ((rd_T26 t183 x30_2).f1))).heap[gb189]? = some (.cells #[.int .i64 ((rd_T26 t183 x30_2).f0), .int .i64 ((rd_T26 t183 x30_2).f1)] 26 (0, 0))) := ⟨by (with_reducible repeat (first | refine kN ?_ _ | refine kD ?_ | refine kA ?_ _)); refine kP (cs := #[.int .i64 ((rd_T26 t183 x30_2).f0), .int .i64 0]) ?_ 1 _ rfl; (with_reducible repeat (first | refine kN ?_ _ | refine kD ?_ | refine kA ?_ _)); refine kP (cs := #[.int .i64 0, .int .i64 0]) ?_ 0 _ rfl; (with_reducible repeat (first | refine kN ?_ _ | refine kD ?_ | refine kA ?_ _)); exact BK189.out⟩
        have n6_ : Aside0 (Below w.heap.size w ((w51.setCell ⟨gb189, 0, none⟩ (.int .i64 ((rd_T26 t183 x30_2).f0))).setCell ⟨gb189, 1, none⟩ (.int .i64 ((rd_T26 t183 x30_2).f1)))) := ⟨by repeat (first | (with_reducible first | exact HB.out | apply bA | apply bN | apply bD | refine bX ?_ (by assumption)) | exact HB.out)⟩
        clear hq
        (try clear HO_10)
        (try clear HO_28)
        (try clear BK180)
        (try clear BK181)
        (try clear BK182)
        (try clear BK189)
        (try clear HB)
        generalize ((w51.setCell ⟨gb189, 0, none⟩ (.int .i64 ((rd_T26 t183 x30_2).f0))).setCell ⟨gb189, 1, none⟩ (.int .i64 ((rd_T26 t183 x30_2).f1))) = w56 at n0_ n1_ n2_ n3_ n4_ n5_ n6_ ⊢
        have HO_10 := n0_; have HO_28 := n1_; have BK180 := n2_; have BK181 := n3_; have BK182 := n4_; have BK189 := n5_; have HB := n6_
        clear n0_ n1_ n2_ n3_ n4_ n5_ n6_
        have n0_ := Am (Kd.R_drew HO_10.out)
        have n1_ := Am (Kd.R_drew HO_28.out)
        have n2_ := Am (kD BK180.out)
        have n3_ := Am (kD BK181.out)
        have n4_ := Am (kD BK182.out)
        have n5_ := Am (kD BK189.out)
        have n6_ := Am (bD HB.out)
        clear HO_10 HO_28 BK180 BK181 BK182 BK189 HB
        have HO_10 := n0_; have HO_28 := n1_; have BK180 := n2_; have BK181 := n3_; have BK182 := n4_; have BK189 := n5_; have HB := n6_
        clear n0_ n1_ n2_ n3_ n4_ n5_ n6_
        refine start_ (n := 11) (S := fun w' => w'.cell? ⟨gb180, 0, none⟩ = some (.int .i64 a0_0) ∧ w'.cell? ⟨gb180, 1, none⟩ = some (.int .i64 a0_1) ∧ w'.cell? ⟨gb180, 2, none⟩ = some (.int .i64 a0_2) ∧ w'.cell? ⟨gb182, 0, none⟩ = some (.int .i64 a2_0) ∧ w'.cell? ⟨gb182, 1, none⟩ = some (.int .i64 a2_1) ∧ w'.cell? ⟨gb182, 2, none⟩ = some (.int .i64 a2_2) ∧ w'.cell? ⟨gb189, 0, none⟩ = some (.int .i64 ((rd_T26 t183 x30_2).f0)) ∧ w'.cell? ⟨gb189, 1, none⟩ = some (.int .i64 ((rd_T26 t183 x30_2).f1))) (ds := []) (pT 11 0) (by kernel_rfl) rfl rfl ⟨c30 BK180.out, c31 BK180.out, c32 BK180.out, c30 BK182.out, c31 BK182.out, c32 BK182.out, c20 BK189.out, c21 BK189.out⟩ (fun hHeld => ?_); refine with_tabW spec_ThreeMeet.tab8 spec_ThreeMeet.bits8 (fun HT_ HW_ => ?_)
        generalize w56.drew = w57 at HO_10 HO_28 BK180 BK181 BK182 BK189 HB hHeld ⊢
        iterate 2
         refine tI (v := ?_) (a' := ?_) rfl (take_ofW HT_.out HW_.out (by kernel_rfl)) (fun _ _ _ h => h) (Or.inl ⟨by rfl, ?_⟩) hHeld ?_ ?_
         rotate_left
         ·rintro w' ⟨s0, s1, s2, s3, s4, s5, s6, s7⟩
          go_simp
          with_reducible rfl
         rotate_left
         ·show Act.put _ (some _) _ = _
          simp only [Act.put, List.setIfInBounds_toArray, List.set_cons_zero, List.set_cons_succ, i64_w, i32_w]
          rfl
        refine take_ (i := 3) (N := some 38) (v := ?_) (a' := ?_) #[true, true, false, true, false, false, false, false, false, false, false] rfl rfl (take_ofW HT_.out HW_.out (by kernel_rfl)) (fun _ _ _ h => h) (Or.inl ⟨by rfl, ?_⟩) hHeld ?_ ?_
        rotate_left
        ·rintro w' ⟨s0, s1, s2, s3, s4, s5, s6, s7⟩
         go_simp
         with_reducible rfl
        rotate_left
        ·simp only [Act.put, List.setIfInBounds_toArray, List.set_cons_zero, List.set_cons_succ, i64_w, i32_w]
         rfl
        refine join_ (σ := Nat) 2 (pT 11 9) (fun s_ => [(37, .agg #[.int .i64 t190, .int .i64 t191, .int .i64 t192]), (39, .tuple #[.agg #[.int .i64 t193, .int .i64 t194], .bool true]), (13, .pointer (some ⟨s_, 0, none⟩)), (34, .tuple #[.agg #[.int .i64 t193, .int .i64 t194], .bool true]), (40, .agg #[.int .i64 t193, .int .i64 t194]), (41, .bool true)]) (fun s_ w' => (w'.cell? ⟨gb180, 0, none⟩ = some (.int .i64 a0_0) ∧ w'.cell? ⟨gb180, 1, none⟩ = some (.int .i64 a0_1) ∧ w'.cell? ⟨gb180, 2, none⟩ = some (.int .i64 a0_2) ∧ w'.cell? ⟨gb182, 0, none⟩ = some (.int .i64 a2_0) ∧ w'.cell? ⟨gb182, 1, none⟩ = some (.int .i64 a2_1) ∧ w'.cell? ⟨gb182, 2, none⟩ = some (.int .i64 a2_2) ∧ w'.cell? ⟨gb189, 0, none⟩ = some (.int .i64 ((rd_T26 t183 x30_2).f0)) ∧ w'.cell? ⟨gb189, 1, none⟩ = some (.int .i64 ((rd_T26 t183 x30_2).f1))) ∧ (Kd.R k26 26 w' w.heap.size (fun k_ => some k_ ≠ (.slice (some ad188) t183.length co22 : Value).ownBlock ∧ k_ ≠ gb189 ∧ k_ ≠ s_) u10 x10_2) ∧ (Kd.R k26 26 w' w.heap.size (fun k_ => some k_ ≠ (u10 : Value).ownBlock ∧ k_ ≠ gb189 ∧ k_ ≠ s_) (.slice (some ad188) t183.length co22) t183) ∧ (w'.heap[gb180]? = some (.cells #[.int .i64 a0_0, .int .i64 a0_1, .int .i64 a0_2] 30 (0, 0))) ∧ (w'.heap[gb181]? = some (.cells #[.int .i64 a1_0, .int .i64 a1_1, .int .i64 a1_2] 30 (0, 0))) ∧ (w'.heap[gb182]? = some (.cells #[.int .i64 a2_0, .int .i64 a2_1, .int .i64 a2_2] 30 (0, 0))) ∧ (w'.heap[gb189]? = some (.cells #[.int .i64 ((rd_T26 t183 x30_2).f0), .int .i64 ((rd_T26 t183 x30_2).f1)] 26 (0, 0))) ∧ (w'.heap[s_]? = some (.cells #[.int .i64 0, .int .i64 0] 26 (0, 0))) ∧ (w.heap.size ≤ s_) ∧ (w.heap.size ≤ s_) ∧ (gb180 ≠ s_) ∧ (s_ ≠ gb180) ∧ (gb181 ≠ s_) ∧ (s_ ≠ gb181) ∧ (gb182 ≠ s_) ∧ (s_ ≠ gb182) ∧ (gb189 ≠ s_) ∧ (s_ ≠ gb189) ∧ (Below w.heap.size w w')) ?_ ?_
        rotate_left
        ·intro hCont
         refine two_ (i := 2) (j := 8) (Ni := some 37) (Nj := some 13) (pT 11 4) #[true, true, false, true, false, false, false, false, true, false, false] rfl rfl rfl rfl (two_of HT_.out (by kernel_rfl)) (by decide) (by decide) (fun K hK => ?_) (fun K hK => ?_)
         ·skip
          refine goes_ Try.func65 (by kernel_rfl) rfl #[.agg #[.int .i64 a0_0, .int .i64 a0_1, .int .i64 a0_2], .agg #[.int .i64 a2_0, .int .i64 a2_1, .int .i64 a2_2]] (by rfl) rfl rfl (by (try simp only [List.map_toArray, List.map_cons, List.map_nil]); first | done | rfl | (simp only [List.length_drop, List.length_take]; rfl)) ?_
          with_reducible refine (spec_meRelative.calls k2 a0_0 a0_1 a0_2 a2_0 a2_1 a2_2 t190 t191 t192 _ A26.out).mono ?_
          rintro e w58 ⟨rfl, hb⟩
          refine ⟨_, rfl, ?_⟩
          have n0_ := Am (Kd.R_below (by (with_reducible repeat (first | apply Kd.R_alloc | apply Kd.R_drewN | apply Kd.R_drew)); exact HO_10.out) hb)
          have n1_ := Am (Kd.R_below (by (with_reducible repeat (first | apply Kd.R_alloc | apply Kd.R_drewN | apply Kd.R_drew)); exact HO_28.out) hb)
          have hp0 := hpA BK180.out hb (fun _ _ h_ => by (with_reducible repeat (first | refine kN ?_ _ | refine kD ?_ | refine kA ?_ _)); exact h_)
          have hv := hvK (w := w) hb (by repeat (first | (with_reducible first | exact HB.out | apply bA | apply bN | apply bD | refine bX ?_ (by assumption)) | exact HB.out))
          have n6_ := Am (bT hv hb)
          clear HO_10 HO_28 HB
          have HO_10 := n0_; have HO_28 := n1_
          replace BK180 := hp0 BK180; replace BK181 := hp0 BK181; replace BK182 := hp0 BK182; replace BK189 := hp0 BK189
          have HB := n6_
          clear n0_ n1_ n6_ hp0 hv
          (try clear hb)
          refine hK.out _ _ ⟨c30 BK180.out, c31 BK180.out, c32 BK180.out, c30 BK182.out, c31 BK182.out, c32 BK182.out, c20 BK189.out, c21 BK189.out⟩ (fun hHeld => ?_)
          clear hK K
          refine norm_ (a' := ?_) ?_ ?_
          rotate_left
          ·show Act.put _ (some 37) _ = _
           simp only [Act.put, List.setIfInBounds_toArray, List.set_cons_zero, List.set_cons_succ, i64_w, i32_w]
           rfl
          refine two_ (i := 4) (j := 8) (Ni := some 39) (Nj := some 13) (pT 11 5) #[true, true, true, true, false, false, false, false, true, false, false] rfl rfl rfl rfl (two_of HT_.out (by kernel_rfl)) (by decide) (by decide) (fun K hK => ?_) (fun K hK => ?_)
          ·skip
           refine goes_ Try.func64 (by kernel_rfl) rfl #[.agg #[.int .i64 t190, .int .i64 t191, .int .i64 t192], .agg #[.int .i64 ((rd_T26 t183 x30_2).f0), .int .i64 ((rd_T26 t183 x30_2).f1)]] (by rfl) rfl rfl (by (try simp only [List.map_toArray, List.map_cons, List.map_nil]); first | done | rfl | (simp only [List.length_drop, List.length_take]; rfl)) ?_
           with_reducible refine (spec_meAt.calls k2 t190 t191 t192 ((rd_T26 t183 x30_2).f0) ((rd_T26 t183 x30_2).f1) t193 t194 true _ A27.out).mono ?_
           rintro e w59 ⟨rfl, hb⟩
           refine ⟨_, rfl, ?_⟩
           have n0_ := Am (Kd.R_below (by (with_reducible repeat (first | apply Kd.R_alloc | apply Kd.R_drewN | apply Kd.R_drew)); exact HO_10.out) hb)
           have n1_ := Am (Kd.R_below (by (with_reducible repeat (first | apply Kd.R_alloc | apply Kd.R_drewN | apply Kd.R_drew)); exact HO_28.out) hb)
           have hp0 := hpA BK180.out hb (fun _ _ h_ => by (with_reducible repeat (first | refine kN ?_ _ | refine kD ?_ | refine kA ?_ _)); exact h_)
           have hv := hvK (w := w) hb (by repeat (first | (with_reducible first | exact HB.out | apply bA | apply bN | apply bD | refine bX ?_ (by assumption)) | exact HB.out))
           have n6_ := Am (bT hv hb)
           clear HO_10 HO_28 HB
           have HO_10 := n0_; have HO_28 := n1_
           replace BK180 := hp0 BK180; replace BK181 := hp0 BK181; replace BK182 := hp0 BK182; replace BK189 := hp0 BK189
           have HB := n6_
           clear n0_ n1_ n6_ hp0 hv
           (try clear hb)
           refine hK.out _ _ ⟨c30 BK180.out, c31 BK180.out, c32 BK180.out, c30 BK182.out, c31 BK182.out, c32 BK182.out, c20 BK189.out, c21 BK189.out⟩ (fun hHeld => ?_)
           clear hK K
           refine norm_ (a' := ?_) ?_ ?_
           rotate_left
           ·show Act.put _ (some 39) _ = _
            simp only [Act.put, List.setIfInBounds_toArray, List.set_cons_zero, List.set_cons_succ, i64_w, i32_w]
            rfl
           iterate 3
            refine pI (v := ?_) (a' := ?_) rfl (any_of HT_.out (by kernel_rfl)) (fun _ _ _ h => h) (Or.inl ⟨by rfl, ?_⟩) ?_ ?_
            rotate_left
            ·intro w'
             go_simp
             with_reducible rfl
            rotate_left
            ·show Act.put _ (some _) _ = _
             simp only [Act.put, List.setIfInBounds_toArray, List.set_cons_zero, List.set_cons_succ, i64_w, i32_w]
             rfl
           refine one_ (i := 8) (N := some 13) (pT 11 9) rfl rfl (one_of HT_.out (by kernel_rfl)) (by decide) (fun K hK => ?_)
           refine box_step ?hg (N := 13) ?hd (cs := #[.int .i64 0, .int .i64 0]) (t := 26) ?hr ?_; (case hd => rfl); (case hg => rfl); (case hr => first | (go_simp; done) | (go_simp; rfl))
           intro gb196 hg w60 hbox hb
           have n0_ := Am (Kd.R_below (Kd.R_elderB (by (with_reducible repeat (first | apply Kd.R_alloc | apply Kd.R_drewN | apply Kd.R_drew)); exact HO_10.out) gb196 (Nat.le_of_eq hg.symm)) hb)
           have n1_ := Am (Kd.R_below (Kd.R_elderB (by (with_reducible repeat (first | apply Kd.R_alloc | apply Kd.R_drewN | apply Kd.R_drew)); exact HO_28.out) gb196 (Nat.le_of_eq hg.symm)) hb)
           have hp0 := hpA BK180.out hb (fun _ _ h_ => by (with_reducible repeat (first | refine kN ?_ _ | refine kD ?_ | refine kA ?_ _)); exact h_)
           have hv := hvK (w := w) hb (by repeat (first | (with_reducible first | exact HB.out | apply bA | apply bN | apply bD | refine bX ?_ (by assumption)) | exact HB.out))
           have n6_ := Am (bT hv hb)
           have n7_ := Am (hbox)
           have GW196 := kG hg hv
           have GE196 := kG hg hv
           have hp1 := hpK BK180.out hb (fun _ _ h_ => by (with_reducible repeat (first | refine kN ?_ _ | refine kD ?_ | refine kA ?_ _)); exact h_)
           have NB180_196 := kX hg (hp1 BK180.out)
           have NB196_180 := kY hg (hp1 BK180.out)
           have NB181_196 := kX hg (hp1 BK181.out)
           have NB196_181 := kY hg (hp1 BK181.out)
           have NB182_196 := kX hg (hp1 BK182.out)
           have NB196_182 := kY hg (hp1 BK182.out)
           have NB189_196 := kX hg (hp1 BK189.out)
           have NB196_189 := kY hg (hp1 BK189.out)
           clear HO_10 HO_28 HB
           have HO_10 := n0_; have HO_28 := n1_
           replace BK180 := hp0 BK180; replace BK181 := hp0 BK181; replace BK182 := hp0 BK182; replace BK189 := hp0 BK189
           have HB := n6_; have BK196 := n7_
           clear n6_ n7_ hp0 hp1 hv hb hbox hg
           refine hK.out _ _ ⟨c30 BK180.out, c31 BK180.out, c32 BK180.out, c30 BK182.out, c31 BK182.out, c32 BK182.out, c20 BK189.out, c21 BK189.out⟩ (fun hHeld => ?_)
           clear hK K
           refine norm_ (a' := ?_) ?_ ?_
           rotate_left
           ·show Act.put _ (some 13) _ = _
            simp only [Act.put, List.setIfInBounds_toArray, List.set_cons_zero, List.set_cons_succ, i64_w, i32_w]
            rfl
           exact norm_ (by simp only [putAll, Act.put, List.setIfInBounds_toArray, List.set_cons_zero, List.set_cons_succ]) (hCont (gb196) _ ⟨hHeld, (by (with_reducible repeat (first | apply Kd.R_alloc | apply Kd.R_drewN | apply Kd.R_drew)); exact Kd.R_mono HO_10.out (fun _ hk => ⟨hk.1.1, ⟨hk.1.2, hk.2⟩⟩)), (by (with_reducible repeat (first | apply Kd.R_alloc | apply Kd.R_drewN | apply Kd.R_drew)); exact Kd.R_mono HO_28.out (fun _ hk => ⟨hk.1.1, ⟨hk.1.2, hk.2⟩⟩)), (by (with_reducible repeat (first | refine kN ?_ _ | refine kD ?_ | refine kA ?_ _)); exact BK180.out), (by (with_reducible repeat (first | refine kN ?_ _ | refine kD ?_ | refine kA ?_ _)); exact BK181.out), (by (with_reducible repeat (first | refine kN ?_ _ | refine kD ?_ | refine kA ?_ _)); exact BK182.out), (by (with_reducible repeat (first | refine kN ?_ _ | refine kD ?_ | refine kA ?_ _)); exact BK189.out), (by (with_reducible repeat (first | refine kN ?_ _ | refine kD ?_ | refine kA ?_ _)); exact BK196.out), GW196.out, GE196.out, NB180_196.out, NB196_180.out, NB181_196.out, NB196_181.out, NB182_196.out, NB196_182.out, NB189_196.out, NB196_189.out, (by repeat (first | (with_reducible first | exact HB.out | apply bA | apply bN | apply bD | refine bX ?_ (by assumption)) | exact HB.out))⟩)
          skip
          refine box_step ?hg (N := 13) ?hd (cs := #[.int .i64 0, .int .i64 0]) (t := 26) ?hr ?_; (case hd => rfl); (case hg => rfl); (case hr => first | (go_simp; done) | (go_simp; rfl))
          intro gb196 hg w59 hbox hb
          have n0_ := Am (Kd.R_below (Kd.R_elderB (by (with_reducible repeat (first | apply Kd.R_alloc | apply Kd.R_drewN | apply Kd.R_drew)); exact HO_10.out) gb196 (Nat.le_of_eq hg.symm)) hb)
          have n1_ := Am (Kd.R_below (Kd.R_elderB (by (with_reducible repeat (first | apply Kd.R_alloc | apply Kd.R_drewN | apply Kd.R_drew)); exact HO_28.out) gb196 (Nat.le_of_eq hg.symm)) hb)
          have hp0 := hpA BK180.out hb (fun _ _ h_ => by (with_reducible repeat (first | refine kN ?_ _ | refine kD ?_ | refine kA ?_ _)); exact h_)
          have hv := hvK (w := w) hb (by repeat (first | (with_reducible first | exact HB.out | apply bA | apply bN | apply bD | refine bX ?_ (by assumption)) | exact HB.out))
          have n6_ := Am (bT hv hb)
          have n7_ := Am (hbox)
          have GW196 := kG hg hv
          have GE196 := kG hg hv
          have hp1 := hpK BK180.out hb (fun _ _ h_ => by (with_reducible repeat (first | refine kN ?_ _ | refine kD ?_ | refine kA ?_ _)); exact h_)
          have NB180_196 := kX hg (hp1 BK180.out)
          have NB196_180 := kY hg (hp1 BK180.out)
          have NB181_196 := kX hg (hp1 BK181.out)
          have NB196_181 := kY hg (hp1 BK181.out)
          have NB182_196 := kX hg (hp1 BK182.out)
          have NB196_182 := kY hg (hp1 BK182.out)
          have NB189_196 := kX hg (hp1 BK189.out)
          have NB196_189 := kY hg (hp1 BK189.out)
          clear HO_10 HO_28 HB
          have HO_10 := n0_; have HO_28 := n1_
          replace BK180 := hp0 BK180; replace BK181 := hp0 BK181; replace BK182 := hp0 BK182; replace BK189 := hp0 BK189
          have HB := n6_; have BK196 := n7_
          clear n6_ n7_ hp0 hp1 hv hb hbox hg
          refine hK.out _ _ ⟨c30 BK180.out, c31 BK180.out, c32 BK180.out, c30 BK182.out, c31 BK182.out, c32 BK182.out, c20 BK189.out, c21 BK189.out⟩ (fun hHeld => ?_)
          clear hK K
          refine norm_ (a' := ?_) ?_ ?_
          rotate_left
          ·show Act.put _ (some 13) _ = _
           simp only [Act.put, List.setIfInBounds_toArray, List.set_cons_zero, List.set_cons_succ, i64_w, i32_w]
           rfl
          refine one_ (i := 4) (N := some 39) #[true, true, true, true, true, false, false, false, true, false, false] rfl rfl (one_of HT_.out (by kernel_rfl)) (by decide) (fun K hK => ?_)
          refine goes_ Try.func64 (by kernel_rfl) rfl #[.agg #[.int .i64 t190, .int .i64 t191, .int .i64 t192], .agg #[.int .i64 ((rd_T26 t183 x30_2).f0), .int .i64 ((rd_T26 t183 x30_2).f1)]] (by rfl) rfl rfl (by (try simp only [List.map_toArray, List.map_cons, List.map_nil]); first | done | rfl | (simp only [List.length_drop, List.length_take]; rfl)) ?_
          with_reducible refine (spec_meAt.calls k2 t190 t191 t192 ((rd_T26 t183 x30_2).f0) ((rd_T26 t183 x30_2).f1) t193 t194 true _ A27.out).mono ?_
          rintro e w60 ⟨rfl, hb⟩
          refine ⟨_, rfl, ?_⟩
          have n0_ := Am (Kd.R_below (by (with_reducible repeat (first | apply Kd.R_alloc | apply Kd.R_drewN | apply Kd.R_drew)); exact HO_10.out) hb)
          have n1_ := Am (Kd.R_below (by (with_reducible repeat (first | apply Kd.R_alloc | apply Kd.R_drewN | apply Kd.R_drew)); exact HO_28.out) hb)
          have hp0 := hpA BK180.out hb (fun _ _ h_ => by (with_reducible repeat (first | refine kN ?_ _ | refine kD ?_ | refine kA ?_ _)); exact h_)
          have hv := hvK (w := w) hb (by repeat (first | (with_reducible first | exact HB.out | apply bA | apply bN | apply bD | refine bX ?_ (by assumption)) | exact HB.out))
          have n7_ := Am (bT hv hb)
          clear HO_10 HO_28 HB
          have HO_10 := n0_; have HO_28 := n1_
          replace BK180 := hp0 BK180; replace BK181 := hp0 BK181; replace BK182 := hp0 BK182; replace BK189 := hp0 BK189; replace BK196 := hp0 BK196
          have HB := n7_
          clear n0_ n1_ n7_ hp0 hv
          (try clear hb)
          refine hK.out _ _ ⟨c30 BK180.out, c31 BK180.out, c32 BK180.out, c30 BK182.out, c31 BK182.out, c32 BK182.out, c20 BK189.out, c21 BK189.out⟩ (fun hHeld => ?_)
          clear hK K
          refine norm_ (a' := ?_) ?_ ?_
          rotate_left
          ·show Act.put _ (some 39) _ = _
           simp only [Act.put, List.setIfInBounds_toArray, List.set_cons_zero, List.set_cons_succ, i64_w, i32_w]
           rfl
          refine pure_ (i := 5) (N := some 34) (v := ?_) (a' := ?_) #[true, true, true, true, true, true, false, false, true, false, false] rfl rfl (any_of HT_.out (by kernel_rfl)) (fun _ _ _ h => h) (Or.inl ⟨by rfl, ?_⟩) ?_ ?_
          rotate_left
          ·intro w'
           go_simp
           with_reducible rfl
          rotate_left
          ·simp only [Act.put, List.setIfInBounds_toArray, List.set_cons_zero, List.set_cons_succ, i64_w, i32_w]
           rfl
          refine pure_ (i := 6) (N := some 40) (v := ?_) (a' := ?_) #[true, true, true, true, true, true, true, false, true, false, false] rfl rfl (any_of HT_.out (by kernel_rfl)) (fun _ _ _ h => h) (Or.inl ⟨by rfl, ?_⟩) ?_ ?_
          rotate_left
          ·intro w'
           go_simp
           with_reducible rfl
          rotate_left
          ·simp only [Act.put, List.setIfInBounds_toArray, List.set_cons_zero, List.set_cons_succ, i64_w, i32_w]
           rfl
          refine pure_ (i := 7) (N := some 41) (v := ?_) (a' := ?_) (pT 11 9) rfl rfl (any_of HT_.out (by kernel_rfl)) (fun _ _ _ h => h) (Or.inl ⟨by rfl, ?_⟩) ?_ ?_
          rotate_left
          ·intro w'
           go_simp
           with_reducible rfl
          rotate_left
          ·simp only [Act.put, List.setIfInBounds_toArray, List.set_cons_zero, List.set_cons_succ, i64_w, i32_w]
           rfl
          exact norm_ (by simp only [putAll, Act.put, List.setIfInBounds_toArray, List.set_cons_zero, List.set_cons_succ]) (hCont (gb196) _ ⟨hHeld, (by (with_reducible repeat (first | apply Kd.R_alloc | apply Kd.R_drewN | apply Kd.R_drew)); exact Kd.R_mono HO_10.out (fun _ hk => ⟨hk.1.1, ⟨hk.1.2, hk.2⟩⟩)), (by (with_reducible repeat (first | apply Kd.R_alloc | apply Kd.R_drewN | apply Kd.R_drew)); exact Kd.R_mono HO_28.out (fun _ hk => ⟨hk.1.1, ⟨hk.1.2, hk.2⟩⟩)), (by (with_reducible repeat (first | refine kN ?_ _ | refine kD ?_ | refine kA ?_ _)); exact BK180.out), (by (with_reducible repeat (first | refine kN ?_ _ | refine kD ?_ | refine kA ?_ _)); exact BK181.out), (by (with_reducible repeat (first | refine kN ?_ _ | refine kD ?_ | refine kA ?_ _)); exact BK182.out), (by (with_reducible repeat (first | refine kN ?_ _ | refine kD ?_ | refine kA ?_ _)); exact BK189.out), (by (with_reducible repeat (first | refine kN ?_ _ | refine kD ?_ | refine kA ?_ _)); exact BK196.out), GW196.out, GE196.out, NB180_196.out, NB196_180.out, NB181_196.out, NB196_181.out, NB182_196.out, NB196_182.out, NB189_196.out, NB196_189.out, (by repeat (first | (with_reducible first | exact HB.out | apply bA | apply bN | apply bD | refine bX ?_ (by assumption)) | exact HB.out))⟩)
         skip
         refine box_step ?hg (N := 13) ?hd (cs := #[.int .i64 0, .int .i64 0]) (t := 26) ?hr ?_; (case hd => rfl); (case hg => rfl); (case hr => first | (go_simp; done) | (go_simp; rfl))
         intro gb196 hg w58 hbox hb
         have n0_ := Am (Kd.R_below (Kd.R_elderB (by (with_reducible repeat (first | apply Kd.R_alloc | apply Kd.R_drewN | apply Kd.R_drew)); exact HO_10.out) gb196 (Nat.le_of_eq hg.symm)) hb)
         have n1_ := Am (Kd.R_below (Kd.R_elderB (by (with_reducible repeat (first | apply Kd.R_alloc | apply Kd.R_drewN | apply Kd.R_drew)); exact HO_28.out) gb196 (Nat.le_of_eq hg.symm)) hb)
         have hp0 := hpA BK180.out hb (fun _ _ h_ => by (with_reducible repeat (first | refine kN ?_ _ | refine kD ?_ | refine kA ?_ _)); exact h_)
         have hv := hvK (w := w) hb (by repeat (first | (with_reducible first | exact HB.out | apply bA | apply bN | apply bD | refine bX ?_ (by assumption)) | exact HB.out))
         have n6_ := Am (bT hv hb)
         have n7_ := Am (hbox)
         have GW196 := kG hg hv
         have GE196 := kG hg hv
         have hp1 := hpK BK180.out hb (fun _ _ h_ => by (with_reducible repeat (first | refine kN ?_ _ | refine kD ?_ | refine kA ?_ _)); exact h_)
         have NB180_196 := kX hg (hp1 BK180.out)
         have NB196_180 := kY hg (hp1 BK180.out)
         have NB181_196 := kX hg (hp1 BK181.out)
         have NB196_181 := kY hg (hp1 BK181.out)
         have NB182_196 := kX hg (hp1 BK182.out)
         have NB196_182 := kY hg (hp1 BK182.out)
         have NB189_196 := kX hg (hp1 BK189.out)
         have NB196_189 := kY hg (hp1 BK189.out)
         clear HO_10 HO_28 HB
         have HO_10 := n0_; have HO_28 := n1_
         replace BK180 := hp0 BK180; replace BK181 := hp0 BK181; replace BK182 := hp0 BK182; replace BK189 := hp0 BK189
         have HB := n6_; have BK196 := n7_
         clear n6_ n7_ hp0 hp1 hv hb hbox hg
         refine hK.out _ _ ⟨c30 BK180.out, c31 BK180.out, c32 BK180.out, c30 BK182.out, c31 BK182.out, c32 BK182.out, c20 BK189.out, c21 BK189.out⟩ (fun hHeld => ?_)
         clear hK K
         refine norm_ (a' := ?_) ?_ ?_
         rotate_left
         ·show Act.put _ (some 13) _ = _
          simp only [Act.put, List.setIfInBounds_toArray, List.set_cons_zero, List.set_cons_succ, i64_w, i32_w]
          rfl
         refine one_ (i := 2) (N := some 37) #[true, true, true, true, false, false, false, false, true, false, false] rfl rfl (one_of HT_.out (by kernel_rfl)) (by decide) (fun K hK => ?_)
         refine goes_ Try.func65 (by kernel_rfl) rfl #[.agg #[.int .i64 a0_0, .int .i64 a0_1, .int .i64 a0_2], .agg #[.int .i64 a2_0, .int .i64 a2_1, .int .i64 a2_2]] (by rfl) rfl rfl (by (try simp only [List.map_toArray, List.map_cons, List.map_nil]); first | done | rfl | (simp only [List.length_drop, List.length_take]; rfl)) ?_
         with_reducible refine (spec_meRelative.calls k2 a0_0 a0_1 a0_2 a2_0 a2_1 a2_2 t190 t191 t192 _ A26.out).mono ?_
         rintro e w59 ⟨rfl, hb⟩
         refine ⟨_, rfl, ?_⟩
         have n0_ := Am (Kd.R_below (by (with_reducible repeat (first | apply Kd.R_alloc | apply Kd.R_drewN | apply Kd.R_drew)); exact HO_10.out) hb)
         have n1_ := Am (Kd.R_below (by (with_reducible repeat (first | apply Kd.R_alloc | apply Kd.R_drewN | apply Kd.R_drew)); exact HO_28.out) hb)
         have hp0 := hpA BK180.out hb (fun _ _ h_ => by (with_reducible repeat (first | refine kN ?_ _ | refine kD ?_ | refine kA ?_ _)); exact h_)
         have hv := hvK (w := w) hb (by repeat (first | (with_reducible first | exact HB.out | apply bA | apply bN | apply bD | refine bX ?_ (by assumption)) | exact HB.out))
         have n7_ := Am (bT hv hb)
         clear HO_10 HO_28 HB
         have HO_10 := n0_; have HO_28 := n1_
         replace BK180 := hp0 BK180; replace BK181 := hp0 BK181; replace BK182 := hp0 BK182; replace BK189 := hp0 BK189; replace BK196 := hp0 BK196
         have HB := n7_
         clear n0_ n1_ n7_ hp0 hv
         (try clear hb)
         refine hK.out _ _ ⟨c30 BK180.out, c31 BK180.out, c32 BK180.out, c30 BK182.out, c31 BK182.out, c32 BK182.out, c20 BK189.out, c21 BK189.out⟩ (fun hHeld => ?_)
         clear hK K
         refine norm_ (a' := ?_) ?_ ?_
         rotate_left
         ·show Act.put _ (some 37) _ = _
          simp only [Act.put, List.setIfInBounds_toArray, List.set_cons_zero, List.set_cons_succ, i64_w, i32_w]
          rfl
         refine one_ (i := 4) (N := some 39) #[true, true, true, true, true, false, false, false, true, false, false] rfl rfl (one_of HT_.out (by kernel_rfl)) (by decide) (fun K hK => ?_)
         refine goes_ Try.func64 (by kernel_rfl) rfl #[.agg #[.int .i64 t190, .int .i64 t191, .int .i64 t192], .agg #[.int .i64 ((rd_T26 t183 x30_2).f0), .int .i64 ((rd_T26 t183 x30_2).f1)]] (by rfl) rfl rfl (by (try simp only [List.map_toArray, List.map_cons, List.map_nil]); first | done | rfl | (simp only [List.length_drop, List.length_take]; rfl)) ?_
         with_reducible refine (spec_meAt.calls k2 t190 t191 t192 ((rd_T26 t183 x30_2).f0) ((rd_T26 t183 x30_2).f1) t193 t194 true _ A27.out).mono ?_
         rintro e w60 ⟨rfl, hb⟩
         refine ⟨_, rfl, ?_⟩
         have n0_ := Am (Kd.R_below (by (with_reducible repeat (first | apply Kd.R_alloc | apply Kd.R_drewN | apply Kd.R_drew)); exact HO_10.out) hb)
         have n1_ := Am (Kd.R_below (by (with_reducible repeat (first | apply Kd.R_alloc | apply Kd.R_drewN | apply Kd.R_drew)); exact HO_28.out) hb)
         have hp0 := hpA BK180.out hb (fun _ _ h_ => by (with_reducible repeat (first | refine kN ?_ _ | refine kD ?_ | refine kA ?_ _)); exact h_)
         have hv := hvK (w := w) hb (by repeat (first | (with_reducible first | exact HB.out | apply bA | apply bN | apply bD | refine bX ?_ (by assumption)) | exact HB.out))
         have n7_ := Am (bT hv hb)
         clear HO_10 HO_28 HB
         have HO_10 := n0_; have HO_28 := n1_
         replace BK180 := hp0 BK180; replace BK181 := hp0 BK181; replace BK182 := hp0 BK182; replace BK189 := hp0 BK189; replace BK196 := hp0 BK196
         have HB := n7_
         clear n0_ n1_ n7_ hp0 hv
         (try clear hb)
         refine hK.out _ _ ⟨c30 BK180.out, c31 BK180.out, c32 BK180.out, c30 BK182.out, c31 BK182.out, c32 BK182.out, c20 BK189.out, c21 BK189.out⟩ (fun hHeld => ?_)
         clear hK K
         refine norm_ (a' := ?_) ?_ ?_
         rotate_left
         ·show Act.put _ (some 39) _ = _
          simp only [Act.put, List.setIfInBounds_toArray, List.set_cons_zero, List.set_cons_succ, i64_w, i32_w]
          rfl
         refine pure_ (i := 5) (N := some 34) (v := ?_) (a' := ?_) #[true, true, true, true, true, true, false, false, true, false, false] rfl rfl (any_of HT_.out (by kernel_rfl)) (fun _ _ _ h => h) (Or.inl ⟨by rfl, ?_⟩) ?_ ?_
         rotate_left
         ·intro w'
          go_simp
          with_reducible rfl
         rotate_left
         ·simp only [Act.put, List.setIfInBounds_toArray, List.set_cons_zero, List.set_cons_succ, i64_w, i32_w]
          rfl
         refine pure_ (i := 6) (N := some 40) (v := ?_) (a' := ?_) #[true, true, true, true, true, true, true, false, true, false, false] rfl rfl (any_of HT_.out (by kernel_rfl)) (fun _ _ _ h => h) (Or.inl ⟨by rfl, ?_⟩) ?_ ?_
         rotate_left
         ·intro w'
          go_simp
          with_reducible rfl
         rotate_left
         ·simp only [Act.put, List.setIfInBounds_toArray, List.set_cons_zero, List.set_cons_succ, i64_w, i32_w]
          rfl
         refine pure_ (i := 7) (N := some 41) (v := ?_) (a' := ?_) (pT 11 9) rfl rfl (any_of HT_.out (by kernel_rfl)) (fun _ _ _ h => h) (Or.inl ⟨by rfl, ?_⟩) ?_ ?_
         rotate_left
         ·intro w'
          go_simp
          with_reducible rfl
         rotate_left
         ·simp only [Act.put, List.setIfInBounds_toArray, List.set_cons_zero, List.set_cons_succ, i64_w, i32_w]
          rfl
         exact norm_ (by simp only [putAll, Act.put, List.setIfInBounds_toArray, List.set_cons_zero, List.set_cons_succ]) (hCont (gb196) _ ⟨hHeld, (by (with_reducible repeat (first | apply Kd.R_alloc | apply Kd.R_drewN | apply Kd.R_drew)); exact Kd.R_mono HO_10.out (fun _ hk => ⟨hk.1.1, ⟨hk.1.2, hk.2⟩⟩)), (by (with_reducible repeat (first | apply Kd.R_alloc | apply Kd.R_drewN | apply Kd.R_drew)); exact Kd.R_mono HO_28.out (fun _ hk => ⟨hk.1.1, ⟨hk.1.2, hk.2⟩⟩)), (by (with_reducible repeat (first | refine kN ?_ _ | refine kD ?_ | refine kA ?_ _)); exact BK180.out), (by (with_reducible repeat (first | refine kN ?_ _ | refine kD ?_ | refine kA ?_ _)); exact BK181.out), (by (with_reducible repeat (first | refine kN ?_ _ | refine kD ?_ | refine kA ?_ _)); exact BK182.out), (by (with_reducible repeat (first | refine kN ?_ _ | refine kD ?_ | refine kA ?_ _)); exact BK189.out), (by (with_reducible repeat (first | refine kN ?_ _ | refine kD ?_ | refine kA ?_ _)); exact BK196.out), GW196.out, GE196.out, NB180_196.out, NB196_180.out, NB181_196.out, NB196_181.out, NB182_196.out, NB196_182.out, NB189_196.out, NB196_189.out, (by repeat (first | (with_reducible first | exact HB.out | apply bA | apply bN | apply bD | refine bX ?_ (by assumption)) | exact HB.out))⟩)
        rintro gb196 w61 ⟨hS_, h0_, h1_, h2_, h3_, h4_, h5_, h6_, h7_, h8_, h9_, h10_, h11_, h12_, h13_, h14_, h15_, h16_, h17_⟩
        have n0_ : Aside0 (Kd.R k26 26 w61 w.heap.size (fun k_ => some k_ ≠ (.slice (some ad188) t183.length co22 : Value).ownBlock ∧ k_ ≠ gb189 ∧ k_ ≠ gb196) u10 x10_2) := ⟨h0_⟩
        have n1_ : Aside0 (Kd.R k26 26 w61 w.heap.size (fun k_ => some k_ ≠ (u10 : Value).ownBlock ∧ k_ ≠ gb189 ∧ k_ ≠ gb196) (.slice (some ad188) t183.length co22) t183) := ⟨h1_⟩
        have n2_ : Aside0 (w61.heap[gb180]? = some (.cells #[.int .i64 a0_0, .int .i64 a0_1, .int .i64 a0_2] 30 (0, 0))) := ⟨h2_⟩
        have n3_ : Aside0 (w61.heap[gb181]? = some (.cells #[.int .i64 a1_0, .int .i64 a1_1, .int .i64 a1_2] 30 (0, 0))) := ⟨h3_⟩
        have n4_ : Aside0 (w61.heap[gb182]? = some (.cells #[.int .i64 a2_0, .int .i64 a2_1, .int .i64 a2_2] 30 (0, 0))) := ⟨h4_⟩
        have n5_ : Aside0 (w61.heap[gb189]? = some (.cells #[.int .i64 ((rd_T26 t183 x30_2).f0), .int .i64 ((rd_T26 t183 x30_2).f1)] 26 (0, 0))) := ⟨h5_⟩
        have n6_ : Aside0 (w61.heap[gb196]? = some (.cells #[.int .i64 0, .int .i64 0] 26 (0, 0))) := ⟨h6_⟩
        have n7_ : Aside0 (w.heap.size ≤ gb196) := ⟨h7_⟩
        have n8_ : Aside0 (w.heap.size ≤ gb196) := ⟨h8_⟩
        have n9_ : Aside0 (gb180 ≠ gb196) := ⟨h9_⟩
        have n10_ : Aside0 (gb196 ≠ gb180) := ⟨h10_⟩
        have n11_ : Aside0 (gb181 ≠ gb196) := ⟨h11_⟩
        have n12_ : Aside0 (gb196 ≠ gb181) := ⟨h12_⟩
        have n13_ : Aside0 (gb182 ≠ gb196) := ⟨h13_⟩
        have n14_ : Aside0 (gb196 ≠ gb182) := ⟨h14_⟩
        have n15_ : Aside0 (gb189 ≠ gb196) := ⟨h15_⟩
        have n16_ : Aside0 (gb196 ≠ gb189) := ⟨h16_⟩
        have n17_ : Aside0 (Below w.heap.size w w61) := ⟨h17_⟩
        clear HO_10 HO_28 BK180 BK181 BK182 BK189 HB h0_ h1_ h2_ h3_ h4_ h5_ h6_ h7_ h8_ h9_ h10_ h11_ h12_ h13_ h14_ h15_ h16_ h17_
        have HO_10 := n0_; have HO_28 := n1_; have BK180 := n2_; have BK181 := n3_; have BK182 := n4_; have BK189 := n5_; have BK196 := n6_; have GW196 := n7_; have GE196 := n8_; have NB180_196 := n9_; have NB196_180 := n10_; have NB181_196 := n11_; have NB196_181 := n12_; have NB182_196 := n13_; have NB196_182 := n14_; have NB189_196 := n15_; have NB196_189 := n16_; have HB := n17_
        clear n0_ n1_ n2_ n3_ n4_ n5_ n6_ n7_ n8_ n9_ n10_ n11_ n12_ n13_ n14_ n15_ n16_ n17_
        have hHeld : w61.cell? ⟨gb180, 0, none⟩ = some (.int .i64 a0_0) ∧ w61.cell? ⟨gb180, 1, none⟩ = some (.int .i64 a0_1) ∧ w61.cell? ⟨gb180, 2, none⟩ = some (.int .i64 a0_2) ∧ w61.cell? ⟨gb182, 0, none⟩ = some (.int .i64 a2_0) ∧ w61.cell? ⟨gb182, 1, none⟩ = some (.int .i64 a2_1) ∧ w61.cell? ⟨gb182, 2, none⟩ = some (.int .i64 a2_2) ∧ w61.cell? ⟨gb189, 0, none⟩ = some (.int .i64 ((rd_T26 t183 x30_2).f0)) ∧ w61.cell? ⟨gb189, 1, none⟩ = some (.int .i64 ((rd_T26 t183 x30_2).f1)) := hS_
        refine norm_ (a' := ?_) ?_ ?_
        rotate_left
        ·simp only [putAll, Act.put, List.setIfInBounds_toArray, List.set_cons_zero, List.set_cons_succ]
         rfl
        refine one_ (i := 9) (N := none) (pT 11 10) rfl rfl (one_of HT_.out (by kernel_rfl)) (by decide) (fun K hK => ?_)
        have hs62 : w61.cell? ⟨gb196, 0, none⟩ = some (.int .i64 0) := c20 BK196.out
        have hfs62 := kF BK196.out 0
        have hns62_0 := NB180_196.out; have hns62_1 := NB181_196.out; have hns62_2 := NB182_196.out; have hns62_3 := NB189_196.out; have hms62_0 := NB196_180.out; have hms62_1 := NB196_181.out; have hms62_2 := NB196_182.out; have hms62_3 := NB196_189.out
        have hs63 : w61.cell? ⟨gb196, 1, none⟩ = some (.int .i64 0) := c21 BK196.out
        have hfs63 := kF BK196.out 1
        have hns63_0 := NB180_196.out; have hns63_1 := NB181_196.out; have hns63_2 := NB182_196.out; have hns63_3 := NB189_196.out; have hms63_0 := NB196_180.out; have hms63_1 := NB196_181.out; have hms63_2 := NB196_182.out; have hms63_3 := NB196_189.out
        refine skip_ (w1 := ?_) (by rfl) rfl ?_ ?_
        rotate_left
        ·go_simp
         rfl
        refine hK.out _ _ ⟨((cell_far (p := ⟨gb196, _, none⟩) NB180_196.out _).trans (((cell_far (p := ⟨gb196, _, none⟩) NB180_196.out _).trans (hHeld.1)))), ((cell_far (p := ⟨gb196, _, none⟩) NB180_196.out _).trans (((cell_far (p := ⟨gb196, _, none⟩) NB180_196.out _).trans (hHeld.2.1)))), ((cell_far (p := ⟨gb196, _, none⟩) NB180_196.out _).trans (((cell_far (p := ⟨gb196, _, none⟩) NB180_196.out _).trans (hHeld.2.2.1)))), ((cell_far (p := ⟨gb196, _, none⟩) NB182_196.out _).trans (((cell_far (p := ⟨gb196, _, none⟩) NB182_196.out _).trans (hHeld.2.2.2.1)))), ((cell_far (p := ⟨gb196, _, none⟩) NB182_196.out _).trans (((cell_far (p := ⟨gb196, _, none⟩) NB182_196.out _).trans (hHeld.2.2.2.2.1)))), ((cell_far (p := ⟨gb196, _, none⟩) NB182_196.out _).trans (((cell_far (p := ⟨gb196, _, none⟩) NB182_196.out _).trans (hHeld.2.2.2.2.2.1)))), ((cell_far (p := ⟨gb196, _, none⟩) NB189_196.out _).trans (((cell_far (p := ⟨gb196, _, none⟩) NB189_196.out _).trans (hHeld.2.2.2.2.2.2.1)))), ((cell_far (p := ⟨gb196, _, none⟩) NB189_196.out _).trans (((cell_far (p := ⟨gb196, _, none⟩) NB189_196.out _).trans (hHeld.2.2.2.2.2.2.2))))⟩ (fun hHeld => ?_)
        clear hK K
        refine pI (v := ?_) (a' := ?_) rfl (any_of HT_.out (by kernel_rfl)) (fun _ _ _ h => h) (Or.inl ⟨by rfl, ?_⟩) ?_ ?_
        rotate_left
        ·intro w'
         go_simp
         with_reducible rfl
        rotate_left
        ·show Act.put _ (some _) _ = _
         simp only [Act.put, List.setIfInBounds_toArray, List.set_cons_zero, List.set_cons_succ, i64_w, i32_w]
         rfl
        refine done_ (done_of HT_.out (by kernel_rfl)) ?_
        have hnb64 := NB196_180.out; have hnc64 := NB180_196.out; have hnb65 := NB196_181.out; have hnc65 := NB181_196.out; have hnb66 := NB196_182.out; have hnc66 := NB182_196.out; have hnb67 := NB196_189.out; have hnc67 := NB189_196.out
        have hcz68_0 := c20 BK196.out
        have hcz68_1 := c21 BK196.out
        have hfz68_0 := kF BK196.out 0
        have hfz68_1 := kF BK196.out 1
        try go_wp2
        go_roundg k2
        case measure => have := HJ4.out; have := HK2.out; omega
        case rel => exact ⟨(x10_2), (wrap64 (x30_2 + 1)), (by first | rfl | (simp; done) | (simp [*]; done)), H', ⟨by have := HJ4.out; have := HK2.out; omega⟩, ⟨by (with_reducible repeat (first | apply Kd.R_alloc | apply Kd.R_drewN | apply Kd.R_drew)); exact Kd.R_mono (Kd.R_far (p := ⟨gb196, 1, none⟩) (Kd.R_far (p := ⟨gb196, 0, none⟩) (Kd.R_mono HO_10.out (fun k_ hk => (⟨hk, hk.2.2⟩ : _ ∧ k_ ≠ gb196))) (fun _ hk => hk.2) (.int .i64 t193)) (fun _ hk => hk.2) (.int .i64 t194)) (fun _ hk => hk.1.1)⟩, ⟨by (with_reducible repeat (first | apply Kd.R_alloc | apply Kd.R_drewN | apply Kd.R_drew)); exact Kd.R_mono (Kd.R_far (p := ⟨gb196, 1, none⟩) (Kd.R_far (p := ⟨gb196, 0, none⟩) (Kd.R_mono HO_28.out (fun k_ hk => (⟨hk, hk.2.2⟩ : _ ∧ k_ ≠ gb196))) (fun _ hk => hk.2) (.int .i64 t193)) (fun _ hk => hk.2) (.int .i64 t194)) (fun _ hk => hk.1.1)⟩, ⟨by (with_reducible repeat (first | refine kN ?_ _ | refine kD ?_ | refine kA ?_ _)); refine kR ?_ NB180_196.out _; (with_reducible repeat (first | refine kN ?_ _ | refine kD ?_ | refine kA ?_ _)); refine kR ?_ NB180_196.out _; (with_reducible repeat (first | refine kN ?_ _ | refine kD ?_ | refine kA ?_ _)); exact BK180.out⟩, ⟨by (with_reducible repeat (first | refine kN ?_ _ | refine kD ?_ | refine kA ?_ _)); refine kR ?_ NB181_196.out _; (with_reducible repeat (first | refine kN ?_ _ | refine kD ?_ | refine kA ?_ _)); refine kR ?_ NB181_196.out _; (with_reducible repeat (first | refine kN ?_ _ | refine kD ?_ | refine kA ?_ _)); exact BK181.out⟩, ⟨by (with_reducible repeat (first | refine kN ?_ _ | refine kD ?_ | refine kA ?_ _)); refine kR ?_ NB182_196.out _; (with_reducible repeat (first | refine kN ?_ _ | refine kD ?_ | refine kA ?_ _)); refine kR ?_ NB182_196.out _; (with_reducible repeat (first | refine kN ?_ _ | refine kD ?_ | refine kA ?_ _)); exact BK182.out⟩, ⟨by repeat (first | (with_reducible first | exact HB.out | apply bA | apply bN | apply bD | refine bX ?_ (by assumption)) | exact HB.out)⟩⟩
       replace c28 := Bool.eq_false_iff.mpr c28
       subst c28
       have H1 : (spec_ThreeMeet.l0 k2 x10_2 t183 (t183.length : Int) (wrap64 (x30_2 + 1)) a0_0 a0_1 a0_2 a2_0 a2_1 a2_2) = some (r1, r2) := by rw [if_neg (show ¬ (false = true) by decide)] at H; exact H
       clear H
       have H := H1
       clear H1
       have H' := Am H
       clear H
       have p188 : 0 ≤ (x30_2 : Int) := of_decide_eq_true (by first | (with_reducible assumption) | assumption)
       have q188 : x30_2 < (t183.length : Int) := of_decide_eq_true (by first | (with_reducible assumption) | assumption)
       obtain ⟨ad188, e188, hx188_0, hx188_1⟩ := at_T26 (Kd.R_reads' HO_28.out).2.2 x30_2 p188 q188
       cases e188
       replace p188 := eq_true p188
       replace q188 := eq_true q188
       try go_wp2_with (first | ((with_reducible refine gate_dst (N := 12) rfl ?_); refine box_event ?hg (N := 12) ?hd (cs := #[.int .i64 0, .int .i64 0]) (t := 26) ?hr ?_; (case hd => rfl); (case hg => rfl); (case hr => first | (go_simp; done) | (go_simp; rfl)); intro gb189 hg w69 hbox hb; have n0_ := Am (Kd.R_below (Kd.R_elderB (by (with_reducible repeat (first | apply Kd.R_alloc | apply Kd.R_drewN | apply Kd.R_drew)); exact HO_10.out) gb189 (Nat.le_of_eq hg.symm)) hb); have n1_ := Am (Kd.R_below (Kd.R_elderB (by (with_reducible repeat (first | apply Kd.R_alloc | apply Kd.R_drewN | apply Kd.R_drew)); exact HO_28.out) gb189 (Nat.le_of_eq hg.symm)) hb); have hp0 := hpA BK180.out hb (fun _ _ h_ => by (with_reducible repeat (first | refine kN ?_ _ | refine kD ?_ | refine kA ?_ _)); exact h_); have hv := hvK (w := w) hb (by repeat (first | (with_reducible first | exact HB.out | apply bA | apply bN | apply bD | refine bX ?_ (by assumption)) | exact HB.out)); have n5_ := Am (bT hv hb); have n6_ := Am (hbox); have GW189 := kG hg hv; have GE189 := kG hg hv; have hp1 := hpK BK180.out hb (fun _ _ h_ => by (with_reducible repeat (first | refine kN ?_ _ | refine kD ?_ | refine kA ?_ _)); exact h_); have NB180_189 := kX hg (hp1 BK180.out); have NB189_180 := kY hg (hp1 BK180.out); have NB181_189 := kX hg (hp1 BK181.out); have NB189_181 := kY hg (hp1 BK181.out); have NB182_189 := kX hg (hp1 BK182.out); have NB189_182 := kY hg (hp1 BK182.out); clear HO_10; clear HO_28; clear HB; have HO_10 := n0_; have HO_28 := n1_; replace BK180 := hp0 BK180; replace BK181 := hp0 BK181; replace BK182 := hp0 BK182; have HB := n5_; have BK189 := n6_; clear n0_ n1_ n5_ n6_ hp0 hp1 hv; clear hb hbox hg; have hnb70 := NB189_180.out; have hnc70 := NB180_189.out; have hnb71 := NB189_181.out; have hnc71 := NB181_189.out; have hnb72 := NB189_182.out; have hnc72 := NB182_189.out; have hcz73_0 := c20 BK189.out; have hcz73_1 := c21 BK189.out; have hfz73_0 := kF BK189.out 0; have hfz73_1 := kF BK189.out 1))
       have n0_ : Aside0 (Kd.R k26 26 ((w69.setCell ⟨gb189, 0, none⟩ (.int .i64 ((rd_T26 t183 x30_2).f0))).setCell ⟨gb189, 1, none⟩ (.int .i64 ((rd_T26 t183 x30_2).f1))) w.heap.size (fun k_ => some k_ ≠ (.slice (some ad188) t183.length co22 : Value).ownBlock ∧ k_ ≠ gb189) u10 x10_2) := ⟨by (with_reducible repeat (first | apply Kd.R_alloc | apply Kd.R_drewN | apply Kd.R_drew)); exact Kd.R_mono (Kd.R_far (p := ⟨gb189, 1, none⟩) (Kd.R_far (p := ⟨gb189, 0, none⟩) (Kd.R_mono HO_10.out (fun k_ hk => (⟨hk, hk.2⟩ : _ ∧ k_ ≠ gb189))) (fun _ hk => hk.2) (.int .i64 ((rd_T26 t183 x30_2).f0))) (fun _ hk => hk.2) (.int .i64 ((rd_T26 t183 x30_2).f1))) (fun _ hk => ⟨hk.1.1, hk.1.2⟩)⟩
       have n1_ : Aside0 (Kd.R k26 26 ((w69.setCell ⟨gb189, 0, none⟩ (.int .i64 ((rd_T26 t183 x30_2).f0))).setCell ⟨gb189, 1, none⟩ (.int .i64 ((rd_T26 t183 x30_2).f1))) w.heap.size (fun k_ => some k_ ≠ (u10 : Value).ownBlock ∧ k_ ≠ gb189) (.slice (some ad188) t183.length co22) t183) := ⟨by (with_reducible repeat (first | apply Kd.R_alloc | apply Kd.R_drewN | apply Kd.R_drew)); exact Kd.R_mono (Kd.R_far (p := ⟨gb189, 1, none⟩) (Kd.R_far (p := ⟨gb189, 0, none⟩) (Kd.R_mono HO_28.out (fun k_ hk => (⟨hk, hk.2⟩ : _ ∧ k_ ≠ gb189))) (fun _ hk => hk.2) (.int .i64 ((rd_T26 t183 x30_2).f0))) (fun _ hk => hk.2) (.int .i64 ((rd_T26 t183 x30_2).f1))) (fun _ hk => ⟨hk.1.1, hk.1.2⟩)⟩
       have hq := hqR (W := ((w69.setCell ⟨gb189, 0, none⟩ (.int .i64 ((rd_T26 t183 x30_2).f0))).setCell ⟨gb189, 1, none⟩ (.int .i64 ((rd_T26 t183 x30_2).f1)))) gb189 BK180.out (fun _ _ q_ h_ => by (with_reducible repeat (first | refine kN ?_ _ | refine kD ?_ | refine kA ?_ _ | refine kZ ?_ q_ _)); exact h_)
       have n2_ := Am (hq NB180_189.out BK180.out)
       have n3_ := Am (hq NB181_189.out BK181.out)
       have n4_ := Am (hq NB182_189.out BK182.out)
       have n5_ : Aside0 (((w69.setCell ⟨gb189, 0, none⟩ (.int .i64 ((rd_T26 t183 x30_2).f0))).setCell ⟨gb189, 1, none⟩ (.int .i64 ((rd_T26 t183 x30_2).f1))).heap[gb189]? = some (.cells #[.int .i64 ((rd_T26 t183 x30_2).f0), .int .i64 ((rd_T26 t183 x30_2).f1)] 26 (0, 0))) := ⟨by (with_reducible repeat (first | refine kN ?_ _ | refine kD ?_ | refine kA ?_ _)); refine kP (cs := #[.int .i64 ((rd_T26 t183 x30_2).f0), .int .i64 0]) ?_ 1 _ rfl; (with_reducible repeat (first | refine kN ?_ _ | refine kD ?_ | refine kA ?_ _)); refine kP (cs := #[.int .i64 0, .int .i64 0]) ?_ 0 _ rfl; (with_reducible repeat (first | refine kN ?_ _ | refine kD ?_ | refine kA ?_ _)); exact BK189.out⟩
       have n6_ : Aside0 (Below w.heap.size w ((w69.setCell ⟨gb189, 0, none⟩ (.int .i64 ((rd_T26 t183 x30_2).f0))).setCell ⟨gb189, 1, none⟩ (.int .i64 ((rd_T26 t183 x30_2).f1)))) := ⟨by repeat (first | (with_reducible first | exact HB.out | apply bA | apply bN | apply bD | refine bX ?_ (by assumption)) | exact HB.out)⟩
       clear hq
       (try clear HO_10)
       (try clear HO_28)
       (try clear BK180)
       (try clear BK181)
       (try clear BK182)
       (try clear BK189)
       (try clear HB)
       generalize ((w69.setCell ⟨gb189, 0, none⟩ (.int .i64 ((rd_T26 t183 x30_2).f0))).setCell ⟨gb189, 1, none⟩ (.int .i64 ((rd_T26 t183 x30_2).f1))) = w74 at n0_ n1_ n2_ n3_ n4_ n5_ n6_ ⊢
       have HO_10 := n0_; have HO_28 := n1_; have BK180 := n2_; have BK181 := n3_; have BK182 := n4_; have BK189 := n5_; have HB := n6_
       clear n0_ n1_ n2_ n3_ n4_ n5_ n6_
       have n0_ := Am (Kd.R_drew HO_10.out)
       have n1_ := Am (Kd.R_drew HO_28.out)
       have n2_ := Am (kD BK180.out)
       have n3_ := Am (kD BK181.out)
       have n4_ := Am (kD BK182.out)
       have n5_ := Am (kD BK189.out)
       have n6_ := Am (bD HB.out)
       clear HO_10 HO_28 BK180 BK181 BK182 BK189 HB
       have HO_10 := n0_; have HO_28 := n1_; have BK180 := n2_; have BK181 := n3_; have BK182 := n4_; have BK189 := n5_; have HB := n6_
       clear n0_ n1_ n2_ n3_ n4_ n5_ n6_
       refine start_ (n := 11) (S := fun w' => w'.cell? ⟨gb180, 0, none⟩ = some (.int .i64 a0_0) ∧ w'.cell? ⟨gb180, 1, none⟩ = some (.int .i64 a0_1) ∧ w'.cell? ⟨gb180, 2, none⟩ = some (.int .i64 a0_2) ∧ w'.cell? ⟨gb182, 0, none⟩ = some (.int .i64 a2_0) ∧ w'.cell? ⟨gb182, 1, none⟩ = some (.int .i64 a2_1) ∧ w'.cell? ⟨gb182, 2, none⟩ = some (.int .i64 a2_2) ∧ w'.cell? ⟨gb189, 0, none⟩ = some (.int .i64 ((rd_T26 t183 x30_2).f0)) ∧ w'.cell? ⟨gb189, 1, none⟩ = some (.int .i64 ((rd_T26 t183 x30_2).f1))) (ds := []) (pT 11 0) (by kernel_rfl) rfl rfl ⟨c30 BK180.out, c31 BK180.out, c32 BK180.out, c30 BK182.out, c31 BK182.out, c32 BK182.out, c20 BK189.out, c21 BK189.out⟩ (fun hHeld => ?_); refine with_tabW spec_ThreeMeet.tab8 spec_ThreeMeet.bits8 (fun HT_ HW_ => ?_)
       generalize w74.drew = w75 at HO_10 HO_28 BK180 BK181 BK182 BK189 HB hHeld ⊢
       iterate 2
        refine tI (v := ?_) (a' := ?_) rfl (take_ofW HT_.out HW_.out (by kernel_rfl)) (fun _ _ _ h => h) (Or.inl ⟨by rfl, ?_⟩) hHeld ?_ ?_
        rotate_left
        ·rintro w' ⟨s0, s1, s2, s3, s4, s5, s6, s7⟩
         go_simp
         with_reducible rfl
        rotate_left
        ·show Act.put _ (some _) _ = _
         simp only [Act.put, List.setIfInBounds_toArray, List.set_cons_zero, List.set_cons_succ, i64_w, i32_w]
         rfl
       refine take_ (i := 3) (N := some 38) (v := ?_) (a' := ?_) #[true, true, false, true, false, false, false, false, false, false, false] rfl rfl (take_ofW HT_.out HW_.out (by kernel_rfl)) (fun _ _ _ h => h) (Or.inl ⟨by rfl, ?_⟩) hHeld ?_ ?_
       rotate_left
       ·rintro w' ⟨s0, s1, s2, s3, s4, s5, s6, s7⟩
        go_simp
        with_reducible rfl
       rotate_left
       ·simp only [Act.put, List.setIfInBounds_toArray, List.set_cons_zero, List.set_cons_succ, i64_w, i32_w]
        rfl
       refine join_ (σ := Nat) 2 (pT 11 9) (fun s_ => [(37, .agg #[.int .i64 t190, .int .i64 t191, .int .i64 t192]), (39, .tuple #[.agg #[.int .i64 t193, .int .i64 t194], .bool false]), (13, .pointer (some ⟨s_, 0, none⟩)), (34, .tuple #[.agg #[.int .i64 t193, .int .i64 t194], .bool false]), (40, .agg #[.int .i64 t193, .int .i64 t194]), (41, .bool false)]) (fun s_ w' => (w'.cell? ⟨gb180, 0, none⟩ = some (.int .i64 a0_0) ∧ w'.cell? ⟨gb180, 1, none⟩ = some (.int .i64 a0_1) ∧ w'.cell? ⟨gb180, 2, none⟩ = some (.int .i64 a0_2) ∧ w'.cell? ⟨gb182, 0, none⟩ = some (.int .i64 a2_0) ∧ w'.cell? ⟨gb182, 1, none⟩ = some (.int .i64 a2_1) ∧ w'.cell? ⟨gb182, 2, none⟩ = some (.int .i64 a2_2) ∧ w'.cell? ⟨gb189, 0, none⟩ = some (.int .i64 ((rd_T26 t183 x30_2).f0)) ∧ w'.cell? ⟨gb189, 1, none⟩ = some (.int .i64 ((rd_T26 t183 x30_2).f1))) ∧ (Kd.R k26 26 w' w.heap.size (fun k_ => some k_ ≠ (.slice (some ad188) t183.length co22 : Value).ownBlock ∧ k_ ≠ gb189 ∧ k_ ≠ s_) u10 x10_2) ∧ (Kd.R k26 26 w' w.heap.size (fun k_ => some k_ ≠ (u10 : Value).ownBlock ∧ k_ ≠ gb189 ∧ k_ ≠ s_) (.slice (some ad188) t183.length co22) t183) ∧ (w'.heap[gb180]? = some (.cells #[.int .i64 a0_0, .int .i64 a0_1, .int .i64 a0_2] 30 (0, 0))) ∧ (w'.heap[gb181]? = some (.cells #[.int .i64 a1_0, .int .i64 a1_1, .int .i64 a1_2] 30 (0, 0))) ∧ (w'.heap[gb182]? = some (.cells #[.int .i64 a2_0, .int .i64 a2_1, .int .i64 a2_2] 30 (0, 0))) ∧ (w'.heap[gb189]? = some (.cells #[.int .i64 ((rd_T26 t183 x30_2).f0), .int .i64 ((rd_T26 t183 x30_2).f1)] 26 (0, 0))) ∧ (w'.heap[s_]? = some (.cells #[.int .i64 0, .int .i64 0] 26 (0, 0))) ∧ (w.heap.size ≤ s_) ∧ (w.heap.size ≤ s_) ∧ (gb180 ≠ s_) ∧ (s_ ≠ gb180) ∧ (gb181 ≠ s_) ∧ (s_ ≠ gb181) ∧ (gb182 ≠ s_) ∧ (s_ ≠ gb182) ∧ (gb189 ≠ s_) ∧ (s_ ≠ gb189) ∧ (Below w.heap.size w w')) ?_ ?_
       rotate_left
       ·intro hCont
        refine two_ (i := 2) (j := 8) (Ni := some 37) (Nj := some 13) (pT 11 4) #[true, true, false, true, false, false, false, false, true, false, false] rfl rfl rfl rfl (two_of HT_.out (by kernel_rfl)) (by decide) (by decide) (fun K hK => ?_) (fun K hK => ?_)
        ·skip
         refine goes_ Try.func65 (by kernel_rfl) rfl #[.agg #[.int .i64 a0_0, .int .i64 a0_1, .int .i64 a0_2], .agg #[.int .i64 a2_0, .int .i64 a2_1, .int .i64 a2_2]] (by rfl) rfl rfl (by (try simp only [List.map_toArray, List.map_cons, List.map_nil]); first | done | rfl | (simp only [List.length_drop, List.length_take]; rfl)) ?_
         with_reducible refine (spec_meRelative.calls k2 a0_0 a0_1 a0_2 a2_0 a2_1 a2_2 t190 t191 t192 _ A26.out).mono ?_
         rintro e w76 ⟨rfl, hb⟩
         refine ⟨_, rfl, ?_⟩
         have n0_ := Am (Kd.R_below (by (with_reducible repeat (first | apply Kd.R_alloc | apply Kd.R_drewN | apply Kd.R_drew)); exact HO_10.out) hb)
         have n1_ := Am (Kd.R_below (by (with_reducible repeat (first | apply Kd.R_alloc | apply Kd.R_drewN | apply Kd.R_drew)); exact HO_28.out) hb)
         have hp0 := hpA BK180.out hb (fun _ _ h_ => by (with_reducible repeat (first | refine kN ?_ _ | refine kD ?_ | refine kA ?_ _)); exact h_)
         have hv := hvK (w := w) hb (by repeat (first | (with_reducible first | exact HB.out | apply bA | apply bN | apply bD | refine bX ?_ (by assumption)) | exact HB.out))
         have n6_ := Am (bT hv hb)
         clear HO_10 HO_28 HB
         have HO_10 := n0_; have HO_28 := n1_
         replace BK180 := hp0 BK180; replace BK181 := hp0 BK181; replace BK182 := hp0 BK182; replace BK189 := hp0 BK189
         have HB := n6_
         clear n0_ n1_ n6_ hp0 hv
         (try clear hb)
         refine hK.out _ _ ⟨c30 BK180.out, c31 BK180.out, c32 BK180.out, c30 BK182.out, c31 BK182.out, c32 BK182.out, c20 BK189.out, c21 BK189.out⟩ (fun hHeld => ?_)
         clear hK K
         refine norm_ (a' := ?_) ?_ ?_
         rotate_left
         ·show Act.put _ (some 37) _ = _
          simp only [Act.put, List.setIfInBounds_toArray, List.set_cons_zero, List.set_cons_succ, i64_w, i32_w]
          rfl
         refine two_ (i := 4) (j := 8) (Ni := some 39) (Nj := some 13) (pT 11 5) #[true, true, true, true, false, false, false, false, true, false, false] rfl rfl rfl rfl (two_of HT_.out (by kernel_rfl)) (by decide) (by decide) (fun K hK => ?_) (fun K hK => ?_)
         ·skip
          refine goes_ Try.func64 (by kernel_rfl) rfl #[.agg #[.int .i64 t190, .int .i64 t191, .int .i64 t192], .agg #[.int .i64 ((rd_T26 t183 x30_2).f0), .int .i64 ((rd_T26 t183 x30_2).f1)]] (by rfl) rfl rfl (by (try simp only [List.map_toArray, List.map_cons, List.map_nil]); first | done | rfl | (simp only [List.length_drop, List.length_take]; rfl)) ?_
          with_reducible refine (spec_meAt.calls k2 t190 t191 t192 ((rd_T26 t183 x30_2).f0) ((rd_T26 t183 x30_2).f1) t193 t194 false _ A27.out).mono ?_
          rintro e w77 ⟨rfl, hb⟩
          refine ⟨_, rfl, ?_⟩
          have n0_ := Am (Kd.R_below (by (with_reducible repeat (first | apply Kd.R_alloc | apply Kd.R_drewN | apply Kd.R_drew)); exact HO_10.out) hb)
          have n1_ := Am (Kd.R_below (by (with_reducible repeat (first | apply Kd.R_alloc | apply Kd.R_drewN | apply Kd.R_drew)); exact HO_28.out) hb)
          have hp0 := hpA BK180.out hb (fun _ _ h_ => by (with_reducible repeat (first | refine kN ?_ _ | refine kD ?_ | refine kA ?_ _)); exact h_)
          have hv := hvK (w := w) hb (by repeat (first | (with_reducible first | exact HB.out | apply bA | apply bN | apply bD | refine bX ?_ (by assumption)) | exact HB.out))
          have n6_ := Am (bT hv hb)
          clear HO_10 HO_28 HB
          have HO_10 := n0_; have HO_28 := n1_
          replace BK180 := hp0 BK180; replace BK181 := hp0 BK181; replace BK182 := hp0 BK182; replace BK189 := hp0 BK189
          have HB := n6_
          clear n0_ n1_ n6_ hp0 hv
          (try clear hb)
          refine hK.out _ _ ⟨c30 BK180.out, c31 BK180.out, c32 BK180.out, c30 BK182.out, c31 BK182.out, c32 BK182.out, c20 BK189.out, c21 BK189.out⟩ (fun hHeld => ?_)
          clear hK K
          refine norm_ (a' := ?_) ?_ ?_
          rotate_left
          ·show Act.put _ (some 39) _ = _
           simp only [Act.put, List.setIfInBounds_toArray, List.set_cons_zero, List.set_cons_succ, i64_w, i32_w]
           rfl
          iterate 3
           refine pI (v := ?_) (a' := ?_) rfl (any_of HT_.out (by kernel_rfl)) (fun _ _ _ h => h) (Or.inl ⟨by rfl, ?_⟩) ?_ ?_
           rotate_left
           ·intro w'
            go_simp
            with_reducible rfl
           rotate_left
           ·show Act.put _ (some _) _ = _
            simp only [Act.put, List.setIfInBounds_toArray, List.set_cons_zero, List.set_cons_succ, i64_w, i32_w]
            rfl
          refine one_ (i := 8) (N := some 13) (pT 11 9) rfl rfl (one_of HT_.out (by kernel_rfl)) (by decide) (fun K hK => ?_)
          refine box_step ?hg (N := 13) ?hd (cs := #[.int .i64 0, .int .i64 0]) (t := 26) ?hr ?_; (case hd => rfl); (case hg => rfl); (case hr => first | (go_simp; done) | (go_simp; rfl))
          intro gb196 hg w78 hbox hb
          have n0_ := Am (Kd.R_below (Kd.R_elderB (by (with_reducible repeat (first | apply Kd.R_alloc | apply Kd.R_drewN | apply Kd.R_drew)); exact HO_10.out) gb196 (Nat.le_of_eq hg.symm)) hb)
          have n1_ := Am (Kd.R_below (Kd.R_elderB (by (with_reducible repeat (first | apply Kd.R_alloc | apply Kd.R_drewN | apply Kd.R_drew)); exact HO_28.out) gb196 (Nat.le_of_eq hg.symm)) hb)
          have hp0 := hpA BK180.out hb (fun _ _ h_ => by (with_reducible repeat (first | refine kN ?_ _ | refine kD ?_ | refine kA ?_ _)); exact h_)
          have hv := hvK (w := w) hb (by repeat (first | (with_reducible first | exact HB.out | apply bA | apply bN | apply bD | refine bX ?_ (by assumption)) | exact HB.out))
          have n6_ := Am (bT hv hb)
          have n7_ := Am (hbox)
          have GW196 := kG hg hv
          have GE196 := kG hg hv
          have hp1 := hpK BK180.out hb (fun _ _ h_ => by (with_reducible repeat (first | refine kN ?_ _ | refine kD ?_ | refine kA ?_ _)); exact h_)
          have NB180_196 := kX hg (hp1 BK180.out)
          have NB196_180 := kY hg (hp1 BK180.out)
          have NB181_196 := kX hg (hp1 BK181.out)
          have NB196_181 := kY hg (hp1 BK181.out)
          have NB182_196 := kX hg (hp1 BK182.out)
          have NB196_182 := kY hg (hp1 BK182.out)
          have NB189_196 := kX hg (hp1 BK189.out)
          have NB196_189 := kY hg (hp1 BK189.out)
          clear HO_10 HO_28 HB
          have HO_10 := n0_; have HO_28 := n1_
          replace BK180 := hp0 BK180; replace BK181 := hp0 BK181; replace BK182 := hp0 BK182; replace BK189 := hp0 BK189
          have HB := n6_; have BK196 := n7_
          clear n6_ n7_ hp0 hp1 hv hb hbox hg
          refine hK.out _ _ ⟨c30 BK180.out, c31 BK180.out, c32 BK180.out, c30 BK182.out, c31 BK182.out, c32 BK182.out, c20 BK189.out, c21 BK189.out⟩ (fun hHeld => ?_)
          clear hK K
          refine norm_ (a' := ?_) ?_ ?_
          rotate_left
          ·show Act.put _ (some 13) _ = _
           simp only [Act.put, List.setIfInBounds_toArray, List.set_cons_zero, List.set_cons_succ, i64_w, i32_w]
           rfl
          exact norm_ (by simp only [putAll, Act.put, List.setIfInBounds_toArray, List.set_cons_zero, List.set_cons_succ]) (hCont (gb196) _ ⟨hHeld, (by (with_reducible repeat (first | apply Kd.R_alloc | apply Kd.R_drewN | apply Kd.R_drew)); exact Kd.R_mono HO_10.out (fun _ hk => ⟨hk.1.1, ⟨hk.1.2, hk.2⟩⟩)), (by (with_reducible repeat (first | apply Kd.R_alloc | apply Kd.R_drewN | apply Kd.R_drew)); exact Kd.R_mono HO_28.out (fun _ hk => ⟨hk.1.1, ⟨hk.1.2, hk.2⟩⟩)), (by (with_reducible repeat (first | refine kN ?_ _ | refine kD ?_ | refine kA ?_ _)); exact BK180.out), (by (with_reducible repeat (first | refine kN ?_ _ | refine kD ?_ | refine kA ?_ _)); exact BK181.out), (by (with_reducible repeat (first | refine kN ?_ _ | refine kD ?_ | refine kA ?_ _)); exact BK182.out), (by (with_reducible repeat (first | refine kN ?_ _ | refine kD ?_ | refine kA ?_ _)); exact BK189.out), (by (with_reducible repeat (first | refine kN ?_ _ | refine kD ?_ | refine kA ?_ _)); exact BK196.out), GW196.out, GE196.out, NB180_196.out, NB196_180.out, NB181_196.out, NB196_181.out, NB182_196.out, NB196_182.out, NB189_196.out, NB196_189.out, (by repeat (first | (with_reducible first | exact HB.out | apply bA | apply bN | apply bD | refine bX ?_ (by assumption)) | exact HB.out))⟩)
         skip
         refine box_step ?hg (N := 13) ?hd (cs := #[.int .i64 0, .int .i64 0]) (t := 26) ?hr ?_; (case hd => rfl); (case hg => rfl); (case hr => first | (go_simp; done) | (go_simp; rfl))
         intro gb196 hg w77 hbox hb
         have n0_ := Am (Kd.R_below (Kd.R_elderB (by (with_reducible repeat (first | apply Kd.R_alloc | apply Kd.R_drewN | apply Kd.R_drew)); exact HO_10.out) gb196 (Nat.le_of_eq hg.symm)) hb)
         have n1_ := Am (Kd.R_below (Kd.R_elderB (by (with_reducible repeat (first | apply Kd.R_alloc | apply Kd.R_drewN | apply Kd.R_drew)); exact HO_28.out) gb196 (Nat.le_of_eq hg.symm)) hb)
         have hp0 := hpA BK180.out hb (fun _ _ h_ => by (with_reducible repeat (first | refine kN ?_ _ | refine kD ?_ | refine kA ?_ _)); exact h_)
         have hv := hvK (w := w) hb (by repeat (first | (with_reducible first | exact HB.out | apply bA | apply bN | apply bD | refine bX ?_ (by assumption)) | exact HB.out))
         have n6_ := Am (bT hv hb)
         have n7_ := Am (hbox)
         have GW196 := kG hg hv
         have GE196 := kG hg hv
         have hp1 := hpK BK180.out hb (fun _ _ h_ => by (with_reducible repeat (first | refine kN ?_ _ | refine kD ?_ | refine kA ?_ _)); exact h_)
         have NB180_196 := kX hg (hp1 BK180.out)
         have NB196_180 := kY hg (hp1 BK180.out)
         have NB181_196 := kX hg (hp1 BK181.out)
         have NB196_181 := kY hg (hp1 BK181.out)
         have NB182_196 := kX hg (hp1 BK182.out)
         have NB196_182 := kY hg (hp1 BK182.out)
         have NB189_196 := kX hg (hp1 BK189.out)
         have NB196_189 := kY hg (hp1 BK189.out)
         clear HO_10 HO_28 HB
         have HO_10 := n0_; have HO_28 := n1_
         replace BK180 := hp0 BK180; replace BK181 := hp0 BK181; replace BK182 := hp0 BK182; replace BK189 := hp0 BK189
         have HB := n6_; have BK196 := n7_
         clear n6_ n7_ hp0 hp1 hv hb hbox hg
         refine hK.out _ _ ⟨c30 BK180.out, c31 BK180.out, c32 BK180.out, c30 BK182.out, c31 BK182.out, c32 BK182.out, c20 BK189.out, c21 BK189.out⟩ (fun hHeld => ?_)
         clear hK K
         refine norm_ (a' := ?_) ?_ ?_
         rotate_left
         ·show Act.put _ (some 13) _ = _
          simp only [Act.put, List.setIfInBounds_toArray, List.set_cons_zero, List.set_cons_succ, i64_w, i32_w]
          rfl
         refine one_ (i := 4) (N := some 39) #[true, true, true, true, true, false, false, false, true, false, false] rfl rfl (one_of HT_.out (by kernel_rfl)) (by decide) (fun K hK => ?_)
         refine goes_ Try.func64 (by kernel_rfl) rfl #[.agg #[.int .i64 t190, .int .i64 t191, .int .i64 t192], .agg #[.int .i64 ((rd_T26 t183 x30_2).f0), .int .i64 ((rd_T26 t183 x30_2).f1)]] (by rfl) rfl rfl (by (try simp only [List.map_toArray, List.map_cons, List.map_nil]); first | done | rfl | (simp only [List.length_drop, List.length_take]; rfl)) ?_
         with_reducible refine (spec_meAt.calls k2 t190 t191 t192 ((rd_T26 t183 x30_2).f0) ((rd_T26 t183 x30_2).f1) t193 t194 false _ A27.out).mono ?_
         rintro e w78 ⟨rfl, hb⟩
         refine ⟨_, rfl, ?_⟩
         have n0_ := Am (Kd.R_below (by (with_reducible repeat (first | apply Kd.R_alloc | apply Kd.R_drewN | apply Kd.R_drew)); exact HO_10.out) hb)
         have n1_ := Am (Kd.R_below (by (with_reducible repeat (first | apply Kd.R_alloc | apply Kd.R_drewN | apply Kd.R_drew)); exact HO_28.out) hb)
         have hp0 := hpA BK180.out hb (fun _ _ h_ => by (with_reducible repeat (first | refine kN ?_ _ | refine kD ?_ | refine kA ?_ _)); exact h_)
         have hv := hvK (w := w) hb (by repeat (first | (with_reducible first | exact HB.out | apply bA | apply bN | apply bD | refine bX ?_ (by assumption)) | exact HB.out))
         have n7_ := Am (bT hv hb)
         clear HO_10 HO_28 HB
         have HO_10 := n0_; have HO_28 := n1_
         replace BK180 := hp0 BK180; replace BK181 := hp0 BK181; replace BK182 := hp0 BK182; replace BK189 := hp0 BK189; replace BK196 := hp0 BK196
         have HB := n7_
         clear n0_ n1_ n7_ hp0 hv
         (try clear hb)
         refine hK.out _ _ ⟨c30 BK180.out, c31 BK180.out, c32 BK180.out, c30 BK182.out, c31 BK182.out, c32 BK182.out, c20 BK189.out, c21 BK189.out⟩ (fun hHeld => ?_)
         clear hK K
         refine norm_ (a' := ?_) ?_ ?_
         rotate_left
         ·show Act.put _ (some 39) _ = _
          simp only [Act.put, List.setIfInBounds_toArray, List.set_cons_zero, List.set_cons_succ, i64_w, i32_w]
          rfl
         refine pure_ (i := 5) (N := some 34) (v := ?_) (a' := ?_) #[true, true, true, true, true, true, false, false, true, false, false] rfl rfl (any_of HT_.out (by kernel_rfl)) (fun _ _ _ h => h) (Or.inl ⟨by rfl, ?_⟩) ?_ ?_
         rotate_left
         ·intro w'
          go_simp
          with_reducible rfl
         rotate_left
         ·simp only [Act.put, List.setIfInBounds_toArray, List.set_cons_zero, List.set_cons_succ, i64_w, i32_w]
          rfl
         refine pure_ (i := 6) (N := some 40) (v := ?_) (a' := ?_) #[true, true, true, true, true, true, true, false, true, false, false] rfl rfl (any_of HT_.out (by kernel_rfl)) (fun _ _ _ h => h) (Or.inl ⟨by rfl, ?_⟩) ?_ ?_
         rotate_left
         ·intro w'
          go_simp
          with_reducible rfl
         rotate_left
         ·simp only [Act.put, List.setIfInBounds_toArray, List.set_cons_zero, List.set_cons_succ, i64_w, i32_w]
          rfl
         refine pure_ (i := 7) (N := some 41) (v := ?_) (a' := ?_) (pT 11 9) rfl rfl (any_of HT_.out (by kernel_rfl)) (fun _ _ _ h => h) (Or.inl ⟨by rfl, ?_⟩) ?_ ?_
         rotate_left
         ·intro w'
          go_simp
          with_reducible rfl
         rotate_left
         ·simp only [Act.put, List.setIfInBounds_toArray, List.set_cons_zero, List.set_cons_succ, i64_w, i32_w]
          rfl
         exact norm_ (by simp only [putAll, Act.put, List.setIfInBounds_toArray, List.set_cons_zero, List.set_cons_succ]) (hCont (gb196) _ ⟨hHeld, (by (with_reducible repeat (first | apply Kd.R_alloc | apply Kd.R_drewN | apply Kd.R_drew)); exact Kd.R_mono HO_10.out (fun _ hk => ⟨hk.1.1, ⟨hk.1.2, hk.2⟩⟩)), (by (with_reducible repeat (first | apply Kd.R_alloc | apply Kd.R_drewN | apply Kd.R_drew)); exact Kd.R_mono HO_28.out (fun _ hk => ⟨hk.1.1, ⟨hk.1.2, hk.2⟩⟩)), (by (with_reducible repeat (first | refine kN ?_ _ | refine kD ?_ | refine kA ?_ _)); exact BK180.out), (by (with_reducible repeat (first | refine kN ?_ _ | refine kD ?_ | refine kA ?_ _)); exact BK181.out), (by (with_reducible repeat (first | refine kN ?_ _ | refine kD ?_ | refine kA ?_ _)); exact BK182.out), (by (with_reducible repeat (first | refine kN ?_ _ | refine kD ?_ | refine kA ?_ _)); exact BK189.out), (by (with_reducible repeat (first | refine kN ?_ _ | refine kD ?_ | refine kA ?_ _)); exact BK196.out), GW196.out, GE196.out, NB180_196.out, NB196_180.out, NB181_196.out, NB196_181.out, NB182_196.out, NB196_182.out, NB189_196.out, NB196_189.out, (by repeat (first | (with_reducible first | exact HB.out | apply bA | apply bN | apply bD | refine bX ?_ (by assumption)) | exact HB.out))⟩)
        skip
        refine box_step ?hg (N := 13) ?hd (cs := #[.int .i64 0, .int .i64 0]) (t := 26) ?hr ?_; (case hd => rfl); (case hg => rfl); (case hr => first | (go_simp; done) | (go_simp; rfl))
        intro gb196 hg w76 hbox hb
        have n0_ := Am (Kd.R_below (Kd.R_elderB (by (with_reducible repeat (first | apply Kd.R_alloc | apply Kd.R_drewN | apply Kd.R_drew)); exact HO_10.out) gb196 (Nat.le_of_eq hg.symm)) hb)
        have n1_ := Am (Kd.R_below (Kd.R_elderB (by (with_reducible repeat (first | apply Kd.R_alloc | apply Kd.R_drewN | apply Kd.R_drew)); exact HO_28.out) gb196 (Nat.le_of_eq hg.symm)) hb)
        have hp0 := hpA BK180.out hb (fun _ _ h_ => by (with_reducible repeat (first | refine kN ?_ _ | refine kD ?_ | refine kA ?_ _)); exact h_)
        have hv := hvK (w := w) hb (by repeat (first | (with_reducible first | exact HB.out | apply bA | apply bN | apply bD | refine bX ?_ (by assumption)) | exact HB.out))
        have n6_ := Am (bT hv hb)
        have n7_ := Am (hbox)
        have GW196 := kG hg hv
        have GE196 := kG hg hv
        have hp1 := hpK BK180.out hb (fun _ _ h_ => by (with_reducible repeat (first | refine kN ?_ _ | refine kD ?_ | refine kA ?_ _)); exact h_)
        have NB180_196 := kX hg (hp1 BK180.out)
        have NB196_180 := kY hg (hp1 BK180.out)
        have NB181_196 := kX hg (hp1 BK181.out)
        have NB196_181 := kY hg (hp1 BK181.out)
        have NB182_196 := kX hg (hp1 BK182.out)
        have NB196_182 := kY hg (hp1 BK182.out)
        have NB189_196 := kX hg (hp1 BK189.out)
        have NB196_189 := kY hg (hp1 BK189.out)
        clear HO_10 HO_28 HB
        have HO_10 := n0_; have HO_28 := n1_
        replace BK180 := hp0 BK180; replace BK181 := hp0 BK181; replace BK182 := hp0 BK182; replace BK189 := hp0 BK189
        have HB := n6_; have BK196 := n7_
        clear n6_ n7_ hp0 hp1 hv hb hbox hg
        refine hK.out _ _ ⟨c30 BK180.out, c31 BK180.out, c32 BK180.out, c30 BK182.out, c31 BK182.out, c32 BK182.out, c20 BK189.out, c21 BK189.out⟩ (fun hHeld => ?_)
        clear hK K
        refine norm_ (a' := ?_) ?_ ?_
        rotate_left
        ·show Act.put _ (some 13) _ = _
         simp only [Act.put, List.setIfInBounds_toArray, List.set_cons_zero, List.set_cons_succ, i64_w, i32_w]
         rfl
        refine one_ (i := 2) (N := some 37) #[true, true, true, true, false, false, false, false, true, false, false] rfl rfl (one_of HT_.out (by kernel_rfl)) (by decide) (fun K hK => ?_)
        refine goes_ Try.func65 (by kernel_rfl) rfl #[.agg #[.int .i64 a0_0, .int .i64 a0_1, .int .i64 a0_2], .agg #[.int .i64 a2_0, .int .i64 a2_1, .int .i64 a2_2]] (by rfl) rfl rfl (by (try simp only [List.map_toArray, List.map_cons, List.map_nil]); first | done | rfl | (simp only [List.length_drop, List.length_take]; rfl)) ?_
        with_reducible refine (spec_meRelative.calls k2 a0_0 a0_1 a0_2 a2_0 a2_1 a2_2 t190 t191 t192 _ A26.out).mono ?_
        rintro e w77 ⟨rfl, hb⟩
        refine ⟨_, rfl, ?_⟩
        have n0_ := Am (Kd.R_below (by (with_reducible repeat (first | apply Kd.R_alloc | apply Kd.R_drewN | apply Kd.R_drew)); exact HO_10.out) hb)
        have n1_ := Am (Kd.R_below (by (with_reducible repeat (first | apply Kd.R_alloc | apply Kd.R_drewN | apply Kd.R_drew)); exact HO_28.out) hb)
        have hp0 := hpA BK180.out hb (fun _ _ h_ => by (with_reducible repeat (first | refine kN ?_ _ | refine kD ?_ | refine kA ?_ _)); exact h_)
        have hv := hvK (w := w) hb (by repeat (first | (with_reducible first | exact HB.out | apply bA | apply bN | apply bD | refine bX ?_ (by assumption)) | exact HB.out))
        have n7_ := Am (bT hv hb)
        clear HO_10 HO_28 HB
        have HO_10 := n0_; have HO_28 := n1_
        replace BK180 := hp0 BK180; replace BK181 := hp0 BK181; replace BK182 := hp0 BK182; replace BK189 := hp0 BK189; replace BK196 := hp0 BK196
        have HB := n7_
        clear n0_ n1_ n7_ hp0 hv
        (try clear hb)
        refine hK.out _ _ ⟨c30 BK180.out, c31 BK180.out, c32 BK180.out, c30 BK182.out, c31 BK182.out, c32 BK182.out, c20 BK189.out, c21 BK189.out⟩ (fun hHeld => ?_)
        clear hK K
        refine norm_ (a' := ?_) ?_ ?_
        rotate_left
        ·show Act.put _ (some 37) _ = _
         simp only [Act.put, List.setIfInBounds_toArray, List.set_cons_zero, List.set_cons_succ, i64_w, i32_w]
         rfl
        refine one_ (i := 4) (N := some 39) #[true, true, true, true, true, false, false, false, true, false, false] rfl rfl (one_of HT_.out (by kernel_rfl)) (by decide) (fun K hK => ?_)
        refine goes_ Try.func64 (by kernel_rfl) rfl #[.agg #[.int .i64 t190, .int .i64 t191, .int .i64 t192], .agg #[.int .i64 ((rd_T26 t183 x30_2).f0), .int .i64 ((rd_T26 t183 x30_2).f1)]] (by rfl) rfl rfl (by (try simp only [List.map_toArray, List.map_cons, List.map_nil]); first | done | rfl | (simp only [List.length_drop, List.length_take]; rfl)) ?_
        with_reducible refine (spec_meAt.calls k2 t190 t191 t192 ((rd_T26 t183 x30_2).f0) ((rd_T26 t183 x30_2).f1) t193 t194 false _ A27.out).mono ?_
        rintro e w78 ⟨rfl, hb⟩
        refine ⟨_, rfl, ?_⟩
        have n0_ := Am (Kd.R_below (by (with_reducible repeat (first | apply Kd.R_alloc | apply Kd.R_drewN | apply Kd.R_drew)); exact HO_10.out) hb)
        have n1_ := Am (Kd.R_below (by (with_reducible repeat (first | apply Kd.R_alloc | apply Kd.R_drewN | apply Kd.R_drew)); exact HO_28.out) hb)
        have hp0 := hpA BK180.out hb (fun _ _ h_ => by (with_reducible repeat (first | refine kN ?_ _ | refine kD ?_ | refine kA ?_ _)); exact h_)
        have hv := hvK (w := w) hb (by repeat (first | (with_reducible first | exact HB.out | apply bA | apply bN | apply bD | refine bX ?_ (by assumption)) | exact HB.out))
        have n7_ := Am (bT hv hb)
        clear HO_10 HO_28 HB
        have HO_10 := n0_; have HO_28 := n1_
        replace BK180 := hp0 BK180; replace BK181 := hp0 BK181; replace BK182 := hp0 BK182; replace BK189 := hp0 BK189; replace BK196 := hp0 BK196
        have HB := n7_
        clear n0_ n1_ n7_ hp0 hv
        (try clear hb)
        refine hK.out _ _ ⟨c30 BK180.out, c31 BK180.out, c32 BK180.out, c30 BK182.out, c31 BK182.out, c32 BK182.out, c20 BK189.out, c21 BK189.out⟩ (fun hHeld => ?_)
        clear hK K
        refine norm_ (a' := ?_) ?_ ?_
        rotate_left
        ·show Act.put _ (some 39) _ = _
         simp only [Act.put, List.setIfInBounds_toArray, List.set_cons_zero, List.set_cons_succ, i64_w, i32_w]
         rfl
        refine pure_ (i := 5) (N := some 34) (v := ?_) (a' := ?_) #[true, true, true, true, true, true, false, false, true, false, false] rfl rfl (any_of HT_.out (by kernel_rfl)) (fun _ _ _ h => h) (Or.inl ⟨by rfl, ?_⟩) ?_ ?_
        rotate_left
        ·intro w'
         go_simp
         with_reducible rfl
        rotate_left
        ·simp only [Act.put, List.setIfInBounds_toArray, List.set_cons_zero, List.set_cons_succ, i64_w, i32_w]
         rfl
        refine pure_ (i := 6) (N := some 40) (v := ?_) (a' := ?_) #[true, true, true, true, true, true, true, false, true, false, false] rfl rfl (any_of HT_.out (by kernel_rfl)) (fun _ _ _ h => h) (Or.inl ⟨by rfl, ?_⟩) ?_ ?_
        rotate_left
        ·intro w'
         go_simp
         with_reducible rfl
        rotate_left
        ·simp only [Act.put, List.setIfInBounds_toArray, List.set_cons_zero, List.set_cons_succ, i64_w, i32_w]
         rfl
        refine pure_ (i := 7) (N := some 41) (v := ?_) (a' := ?_) (pT 11 9) rfl rfl (any_of HT_.out (by kernel_rfl)) (fun _ _ _ h => h) (Or.inl ⟨by rfl, ?_⟩) ?_ ?_
        rotate_left
        ·intro w'
         go_simp
         with_reducible rfl
        rotate_left
        ·simp only [Act.put, List.setIfInBounds_toArray, List.set_cons_zero, List.set_cons_succ, i64_w, i32_w]
         rfl
        exact norm_ (by simp only [putAll, Act.put, List.setIfInBounds_toArray, List.set_cons_zero, List.set_cons_succ]) (hCont (gb196) _ ⟨hHeld, (by (with_reducible repeat (first | apply Kd.R_alloc | apply Kd.R_drewN | apply Kd.R_drew)); exact Kd.R_mono HO_10.out (fun _ hk => ⟨hk.1.1, ⟨hk.1.2, hk.2⟩⟩)), (by (with_reducible repeat (first | apply Kd.R_alloc | apply Kd.R_drewN | apply Kd.R_drew)); exact Kd.R_mono HO_28.out (fun _ hk => ⟨hk.1.1, ⟨hk.1.2, hk.2⟩⟩)), (by (with_reducible repeat (first | refine kN ?_ _ | refine kD ?_ | refine kA ?_ _)); exact BK180.out), (by (with_reducible repeat (first | refine kN ?_ _ | refine kD ?_ | refine kA ?_ _)); exact BK181.out), (by (with_reducible repeat (first | refine kN ?_ _ | refine kD ?_ | refine kA ?_ _)); exact BK182.out), (by (with_reducible repeat (first | refine kN ?_ _ | refine kD ?_ | refine kA ?_ _)); exact BK189.out), (by (with_reducible repeat (first | refine kN ?_ _ | refine kD ?_ | refine kA ?_ _)); exact BK196.out), GW196.out, GE196.out, NB180_196.out, NB196_180.out, NB181_196.out, NB196_181.out, NB182_196.out, NB196_182.out, NB189_196.out, NB196_189.out, (by repeat (first | (with_reducible first | exact HB.out | apply bA | apply bN | apply bD | refine bX ?_ (by assumption)) | exact HB.out))⟩)
       rintro gb196 w79 ⟨hS_, h0_, h1_, h2_, h3_, h4_, h5_, h6_, h7_, h8_, h9_, h10_, h11_, h12_, h13_, h14_, h15_, h16_, h17_⟩
       have n0_ : Aside0 (Kd.R k26 26 w79 w.heap.size (fun k_ => some k_ ≠ (.slice (some ad188) t183.length co22 : Value).ownBlock ∧ k_ ≠ gb189 ∧ k_ ≠ gb196) u10 x10_2) := ⟨h0_⟩
       have n1_ : Aside0 (Kd.R k26 26 w79 w.heap.size (fun k_ => some k_ ≠ (u10 : Value).ownBlock ∧ k_ ≠ gb189 ∧ k_ ≠ gb196) (.slice (some ad188) t183.length co22) t183) := ⟨h1_⟩
       have n2_ : Aside0 (w79.heap[gb180]? = some (.cells #[.int .i64 a0_0, .int .i64 a0_1, .int .i64 a0_2] 30 (0, 0))) := ⟨h2_⟩
       have n3_ : Aside0 (w79.heap[gb181]? = some (.cells #[.int .i64 a1_0, .int .i64 a1_1, .int .i64 a1_2] 30 (0, 0))) := ⟨h3_⟩
       have n4_ : Aside0 (w79.heap[gb182]? = some (.cells #[.int .i64 a2_0, .int .i64 a2_1, .int .i64 a2_2] 30 (0, 0))) := ⟨h4_⟩
       have n5_ : Aside0 (w79.heap[gb189]? = some (.cells #[.int .i64 ((rd_T26 t183 x30_2).f0), .int .i64 ((rd_T26 t183 x30_2).f1)] 26 (0, 0))) := ⟨h5_⟩
       have n6_ : Aside0 (w79.heap[gb196]? = some (.cells #[.int .i64 0, .int .i64 0] 26 (0, 0))) := ⟨h6_⟩
       have n7_ : Aside0 (w.heap.size ≤ gb196) := ⟨h7_⟩
       have n8_ : Aside0 (w.heap.size ≤ gb196) := ⟨h8_⟩
       have n9_ : Aside0 (gb180 ≠ gb196) := ⟨h9_⟩
       have n10_ : Aside0 (gb196 ≠ gb180) := ⟨h10_⟩
       have n11_ : Aside0 (gb181 ≠ gb196) := ⟨h11_⟩
       have n12_ : Aside0 (gb196 ≠ gb181) := ⟨h12_⟩
       have n13_ : Aside0 (gb182 ≠ gb196) := ⟨h13_⟩
       have n14_ : Aside0 (gb196 ≠ gb182) := ⟨h14_⟩
       have n15_ : Aside0 (gb189 ≠ gb196) := ⟨h15_⟩
       have n16_ : Aside0 (gb196 ≠ gb189) := ⟨h16_⟩
       have n17_ : Aside0 (Below w.heap.size w w79) := ⟨h17_⟩
       clear HO_10 HO_28 BK180 BK181 BK182 BK189 HB h0_ h1_ h2_ h3_ h4_ h5_ h6_ h7_ h8_ h9_ h10_ h11_ h12_ h13_ h14_ h15_ h16_ h17_
       have HO_10 := n0_; have HO_28 := n1_; have BK180 := n2_; have BK181 := n3_; have BK182 := n4_; have BK189 := n5_; have BK196 := n6_; have GW196 := n7_; have GE196 := n8_; have NB180_196 := n9_; have NB196_180 := n10_; have NB181_196 := n11_; have NB196_181 := n12_; have NB182_196 := n13_; have NB196_182 := n14_; have NB189_196 := n15_; have NB196_189 := n16_; have HB := n17_
       clear n0_ n1_ n2_ n3_ n4_ n5_ n6_ n7_ n8_ n9_ n10_ n11_ n12_ n13_ n14_ n15_ n16_ n17_
       have hHeld : w79.cell? ⟨gb180, 0, none⟩ = some (.int .i64 a0_0) ∧ w79.cell? ⟨gb180, 1, none⟩ = some (.int .i64 a0_1) ∧ w79.cell? ⟨gb180, 2, none⟩ = some (.int .i64 a0_2) ∧ w79.cell? ⟨gb182, 0, none⟩ = some (.int .i64 a2_0) ∧ w79.cell? ⟨gb182, 1, none⟩ = some (.int .i64 a2_1) ∧ w79.cell? ⟨gb182, 2, none⟩ = some (.int .i64 a2_2) ∧ w79.cell? ⟨gb189, 0, none⟩ = some (.int .i64 ((rd_T26 t183 x30_2).f0)) ∧ w79.cell? ⟨gb189, 1, none⟩ = some (.int .i64 ((rd_T26 t183 x30_2).f1)) := hS_
       refine norm_ (a' := ?_) ?_ ?_
       rotate_left
       ·simp only [putAll, Act.put, List.setIfInBounds_toArray, List.set_cons_zero, List.set_cons_succ]
        rfl
       refine one_ (i := 9) (N := none) (pT 11 10) rfl rfl (one_of HT_.out (by kernel_rfl)) (by decide) (fun K hK => ?_)
       have hs80 : w79.cell? ⟨gb196, 0, none⟩ = some (.int .i64 0) := c20 BK196.out
       have hfs80 := kF BK196.out 0
       have hns80_0 := NB180_196.out; have hns80_1 := NB181_196.out; have hns80_2 := NB182_196.out; have hns80_3 := NB189_196.out; have hms80_0 := NB196_180.out; have hms80_1 := NB196_181.out; have hms80_2 := NB196_182.out; have hms80_3 := NB196_189.out
       have hs81 : w79.cell? ⟨gb196, 1, none⟩ = some (.int .i64 0) := c21 BK196.out
       have hfs81 := kF BK196.out 1
       have hns81_0 := NB180_196.out; have hns81_1 := NB181_196.out; have hns81_2 := NB182_196.out; have hns81_3 := NB189_196.out; have hms81_0 := NB196_180.out; have hms81_1 := NB196_181.out; have hms81_2 := NB196_182.out; have hms81_3 := NB196_189.out
       refine skip_ (w1 := ?_) (by rfl) rfl ?_ ?_
       rotate_left
       ·go_simp
        rfl
       refine hK.out _ _ ⟨((cell_far (p := ⟨gb196, _, none⟩) NB180_196.out _).trans (((cell_far (p := ⟨gb196, _, none⟩) NB180_196.out _).trans (hHeld.1)))), ((cell_far (p := ⟨gb196, _, none⟩) NB180_196.out _).trans (((cell_far (p := ⟨gb196, _, none⟩) NB180_196.out _).trans (hHeld.2.1)))), ((cell_far (p := ⟨gb196, _, none⟩) NB180_196.out _).trans (((cell_far (p := ⟨gb196, _, none⟩) NB180_196.out _).trans (hHeld.2.2.1)))), ((cell_far (p := ⟨gb196, _, none⟩) NB182_196.out _).trans (((cell_far (p := ⟨gb196, _, none⟩) NB182_196.out _).trans (hHeld.2.2.2.1)))), ((cell_far (p := ⟨gb196, _, none⟩) NB182_196.out _).trans (((cell_far (p := ⟨gb196, _, none⟩) NB182_196.out _).trans (hHeld.2.2.2.2.1)))), ((cell_far (p := ⟨gb196, _, none⟩) NB182_196.out _).trans (((cell_far (p := ⟨gb196, _, none⟩) NB182_196.out _).trans (hHeld.2.2.2.2.2.1)))), ((cell_far (p := ⟨gb196, _, none⟩) NB189_196.out _).trans (((cell_far (p := ⟨gb196, _, none⟩) NB189_196.out _).trans (hHeld.2.2.2.2.2.2.1)))), ((cell_far (p := ⟨gb196, _, none⟩) NB189_196.out _).trans (((cell_far (p := ⟨gb196, _, none⟩) NB189_196.out _).trans (hHeld.2.2.2.2.2.2.2))))⟩ (fun hHeld => ?_)
       clear hK K
       refine pI (v := ?_) (a' := ?_) rfl (any_of HT_.out (by kernel_rfl)) (fun _ _ _ h => h) (Or.inl ⟨by rfl, ?_⟩) ?_ ?_
       rotate_left
       ·intro w'
        go_simp
        with_reducible rfl
       rotate_left
       ·show Act.put _ (some _) _ = _
        simp only [Act.put, List.setIfInBounds_toArray, List.set_cons_zero, List.set_cons_succ, i64_w, i32_w]
        rfl
       refine done_ (done_of HT_.out (by kernel_rfl)) ?_
       try go_wp2
       go_roundg k2
       case measure => have := HJ4.out; have := HK2.out; omega
       case rel => exact ⟨(x10_2), (wrap64 (x30_2 + 1)), (by first | rfl | (simp; done) | (simp [*]; done)), H', ⟨by have := HJ4.out; have := HK2.out; omega⟩, ⟨by (with_reducible repeat (first | apply Kd.R_alloc | apply Kd.R_drewN | apply Kd.R_drew)); exact Kd.R_mono (Kd.R_far (p := ⟨gb196, 1, none⟩) (Kd.R_far (p := ⟨gb196, 0, none⟩) (Kd.R_mono HO_10.out (fun k_ hk => (⟨hk, hk.2.2⟩ : _ ∧ k_ ≠ gb196))) (fun _ hk => hk.2) (.int .i64 t193)) (fun _ hk => hk.2) (.int .i64 t194)) (fun _ hk => hk.1.1)⟩, ⟨by (with_reducible repeat (first | apply Kd.R_alloc | apply Kd.R_drewN | apply Kd.R_drew)); exact Kd.R_mono (Kd.R_far (p := ⟨gb196, 1, none⟩) (Kd.R_far (p := ⟨gb196, 0, none⟩) (Kd.R_mono HO_28.out (fun k_ hk => (⟨hk, hk.2.2⟩ : _ ∧ k_ ≠ gb196))) (fun _ hk => hk.2) (.int .i64 t193)) (fun _ hk => hk.2) (.int .i64 t194)) (fun _ hk => hk.1.1)⟩, ⟨by (with_reducible repeat (first | refine kN ?_ _ | refine kD ?_ | refine kA ?_ _)); refine kR ?_ NB180_196.out _; (with_reducible repeat (first | refine kN ?_ _ | refine kD ?_ | refine kA ?_ _)); refine kR ?_ NB180_196.out _; (with_reducible repeat (first | refine kN ?_ _ | refine kD ?_ | refine kA ?_ _)); exact BK180.out⟩, ⟨by (with_reducible repeat (first | refine kN ?_ _ | refine kD ?_ | refine kA ?_ _)); refine kR ?_ NB181_196.out _; (with_reducible repeat (first | refine kN ?_ _ | refine kD ?_ | refine kA ?_ _)); refine kR ?_ NB181_196.out _; (with_reducible repeat (first | refine kN ?_ _ | refine kD ?_ | refine kA ?_ _)); exact BK181.out⟩, ⟨by (with_reducible repeat (first | refine kN ?_ _ | refine kD ?_ | refine kA ?_ _)); refine kR ?_ NB182_196.out _; (with_reducible repeat (first | refine kN ?_ _ | refine kD ?_ | refine kA ?_ _)); refine kR ?_ NB182_196.out _; (with_reducible repeat (first | refine kN ?_ _ | refine kD ?_ | refine kA ?_ _)); exact BK182.out⟩, ⟨by repeat (first | (with_reducible first | exact HB.out | apply bA | apply bN | apply bD | refine bX ?_ (by assumption)) | exact HB.out)⟩⟩
      rw [if_neg c25] at H
      exact absurd H (by simp)
     rw [if_neg c24] at H
     exact absurd H (by simp)
    rw [if_neg c23] at H
    have c23b0 : decide (x30_2 < (t183.length : Int)) = false := decide_eq_false c23
    clear c23
    simp only [Option.some.injEq, Prod.mk.injEq] at H
    obtain ⟨rfl, rfl⟩ := H
    go_wp2
    go_ret2
    exact ⟨_, by first | rfl | (simp [errW_none, errW_some] <;> rfl) | (simp [*, errW_none, errW_some] <;> rfl), by (with_reducible repeat (first | apply Kd.R_alloc | apply Kd.R_drewN | apply Kd.R_drew)); exact Kd.R_mono HO_10.out (fun _ hk => trivial), by repeat (first | (with_reducible first | exact HB.out | apply bA | apply bN | apply bD | refine bX ?_ (by assumption)) | exact HB.out)⟩
end Go.Proofs.Ytioggbokjfdoaaa.PFnExactThreeMeet
