-- WRITTEN BY A PROGRAM OF THIS SESSION (wip/tools): its own text, not the kit's printed one.
import Derived.Test.YtioggbokjfdoaaaPFnExactAreSpreadx0
import Derived.Test.YtioggbokjfdoaaaPFnExactAreSpreadx1
import Derived.Test.YtioggbokjfdoaaaPFnExactAreSpreadx6
namespace Go.Proofs.Ytioggbokjfdoaaa.PFnExactAreSpread
open Go.RowKit Go.Proofs.YtioggbokjfdoaaaW.PrintWords Go.Proofs.YtioggbokjfdoaaaW.PrintLast Go.Proofs.YtioggbokjfdoaaaW.PrintMore
attribute [local go_sem] max2_int min2_int max_two min_two max_three min_three max_four min_four   -- for this text's walks alone
set_option linter.unusedVariables false
set_option linter.unusedSimpArgs false

attribute [local go_sem high] eqA26
/-! ### impl_AreSpread: function 40 -/
def impl_AreSpread.l0 : Nat → List (S26) → List (S26) → Int → Int → Option (Bool × Bool)
 | 0, _, _, _, _ => none
 | k + 1, x6, x18, x19, x20 => if x20 < x19 then (if 0 ≤ x20 then (if x20 < (x18.length : Int) then (if 0 < (x6.length : Int) then (if (!(((rd_T26 x18 x20).f0) == ((rd_T26 x6 0).f0)) || (!(((rd_T26 x18 x20).f1) == ((rd_T26 x6 0).f1)))) = true then (some (false, true)) else (if ((rd_T26 x18 x20).f0) = 0 then (if (x6.length : Int) > 1 then (some (false, true)) else (impl_AreSpread.l0 k x6 x18 x19 (wrap64 (x20 + 1)))) else (impl_AreSpread.l0 k x6 x18 x19 (wrap64 (x20 + 1))))) else (none)) else (none)) else (none)) else (some (true, true))
def impl_AreSpread.f (k : Nat) (l0 : List (S30)) (a1_0 : Int) (a1_1 : Int) : Option (Bool × Bool) := (impl_GapsAt.f k l0 a1_0 a1_1).bind fun bt291 => (if bt291.2 = true then (impl_AreSpread.l0 k bt291.1 bt291.1 (bt291.1.length : Int) 0) else (some (false, false)))
theorem impl_AreSpread.mono_l : ∀ k, (∀ y0 y1 y2 y3, LeO (impl_AreSpread.l0 k y0 y1 y2 y3) (impl_AreSpread.l0 (k + 1) y0 y1 y2 y3))
 | 0 => fun _ _ _ _ r h => by simp [impl_AreSpread.l0] at h
 | k + 1 => by
  have ih0 := impl_AreSpread.mono_l k
  ·intro y0 y1 y2 y3
   unfold impl_AreSpread.l0
   repeat' first
   | (with_reducible exact ih0 _ _ _ _)
   | (with_reducible exact impl_GapsAt.mono _ _ _ _)
   | (with_reducible exact LeO.refl _)
   | (with_reducible exact LeO.none _)
   | (with_reducible refine LeO.ite ?_ ?_)
   | (with_reducible refine LeO.bind ?_ (fun _ => ?_))
   | exact ih0 _ _ _ _
   | exact impl_GapsAt.mono _ _ _ _
   | exact LeO.none _
   | refine LeO.ite ?_ ?_
   | refine LeO.bind ?_ (fun _ => ?_)
theorem impl_AreSpread.mono : ∀ a0 a1 a2 k, LeO (impl_AreSpread.f k a0 a1 a2) (impl_AreSpread.f (k + 1) a0 a1 a2) := by
 intro a0 a1 a2 k
 have ih0 := impl_AreSpread.mono_l k
 unfold impl_AreSpread.f
 repeat' first
   | (with_reducible exact ih0 _ _ _ _)
   | (with_reducible exact impl_GapsAt.mono _ _ _ _)
   | (with_reducible exact LeO.refl _)
   | (with_reducible exact LeO.none _)
   | (with_reducible refine LeO.ite ?_ ?_)
   | (with_reducible refine LeO.bind ?_ (fun _ => ?_))
   | exact ih0 _ _ _ _
   | exact impl_GapsAt.mono _ _ _ _
   | exact LeO.none _
   | refine LeO.ite ?_ ?_
   | refine LeO.bind ?_ (fun _ => ?_)
set_option maxHeartbeats 8000000 in
set_option maxRecDepth 100000 in
theorem impl_AreSpread.calls (k : Nat) (A0 : Option Addr) (c0 : Nat) (l0 : List (S30)) (a1_0 : Int) (a1_1 : Int) (r1 : Bool) (r2 : Bool) (w : World) (hr0 : Kd.C k30 w A0 l0.length l0) (hc0 : l0.length ≤ c0) (h : impl_AreSpread.f k l0 a1_0 a1_1 = some (r1, r2)) :
  Calls Try.prog 40 #[.slice A0 l0.length c0, .agg #[.int .i64 a1_0, .int .i64 a1_1]] w fun e w' => e = .returned (.tuple #[.bool r1, .bool r2]) ∧ Below w.heap.size w w' := by
 have hu26 := Try.underlying26
 have HR0 := Am hr0
 have HC0 := Am hc0
 clear hr0 hc0
 have HB := Am (Below.refl w.heap.size w)
 have H : ((impl_GapsAt.f k l0 a1_0 a1_1).bind fun bt291 => (if bt291.2 = true then (impl_AreSpread.l0 k bt291.1 bt291.1 (bt291.1.length : Int) 0) else (some (false, false)))) = some (r1, r2) := h
 clear h
 replace H := Option.bind_eq_some_iff.mp H
 obtain ⟨⟨t291, t294⟩, A30, H⟩ := H
 try dsimp only at H
 have A3 := Am A30
 clear A30
 by_cases c4 : t294 = true
 ·subst c4
  have H1 : (impl_AreSpread.l0 k t291 t291 (t291.length : Int) 0) = some (r1, r2) := by rw [if_pos rfl] at H; exact H
  clear H
  have H := H1
  clear H1
  have H' := Am H
  clear H
  go_enter Try.func40, Try.ntmps40
  go_wp2_with (first | ((with_reducible refine gate_dst (N := 3) rfl ?_); (try (refine gate_guard (by rfl) ?_; dsimp only)); refine box_event ?hg (N := 3) ?hd (cs := #[.int .i64 a1_0, .int .i64 a1_1]) (t := 26) ?hr ?_; (case hd => rfl); (case hg => rfl); (case hr => first | (go_simp; done) | (go_simp; rfl)); intro gb290 hg w5 hbox hb; have hv := hvK (w := w) hb (by repeat (first | (with_reducible first | exact HB.out | apply bA | apply bN | apply bD) | exact HB.out)); have n0_ := Am (bT hv hb); have n1_ := Am (hbox); have GW290 := kG hg hv; have GE290 := kG hg hv; clear HB; have HB := n0_; have BK290 := n1_; clear n0_ n1_ hv; clear hb hbox hg; have hcz6_0 := c20 BK290.out; have hcz6_1 := c21 BK290.out; have hfz6_0 := kF BK290.out 0; have hfz6_1 := kF BK290.out 1) | (go_at_call 43; (with_reducible refine (impl_GapsAt.calls k _ _ l0 a1_0 a1_1 t291 true _ ?side1 ?side2 A3.out).mono ?_); (case side1 => repeat (first | exact (Kd.C_below HR0.out HB.out) | (with_reducible refine Kd.C_alloc ?_ _) | (with_reducible refine Kd.C_drewN ?_ _) | (with_reducible refine Kd.C_drew ?_))); (case side2 => exact HC0.out); rintro e w7 ⟨v292, rfl, ho0, hb⟩; have n0_ := Am (Kd.R_lower (Kd.R_newB ho0 (g := gb290) (o := .cells #[.int .i64 a1_0, .int .i64 a1_1] 26 (0, 0)) (by (with_reducible repeat (first | refine kN ?_ _ | refine kD ?_ | refine kA ?_ _)); exact BK290.out)) (bZ (by repeat (first | (with_reducible first | exact HB.out | apply bA | apply bN | apply bD | refine bX ?_ (by assumption)) | exact HB.out)))); have hp0 := hpA BK290.out hb (fun _ _ h_ => by (with_reducible repeat (first | refine kN ?_ _ | refine kD ?_ | refine kA ?_ _)); exact h_); have hv := hvK (w := w) hb (by repeat (first | (with_reducible first | exact HB.out | apply bA | apply bN | apply bD | refine bX ?_ (by assumption)) | exact HB.out)); have n2_ := Am (bT hv hb); clear HB; have HO293 := n0_; replace BK290 := hp0 BK290; have HB := n2_; clear n0_ n2_ hp0 hv; (try clear hb); (try clear ho0); obtain ⟨Ao8, co8, eo8⟩ := Kd.R_slice HO293.out; subst eo8))
  repeat (go_quiet (first | ((with_reducible refine gate_dst (N := 3) rfl ?_); (try (refine gate_guard (by rfl) ?_; dsimp only)); refine box_event ?hg (N := 3) ?hd (cs := #[.int .i64 a1_0, .int .i64 a1_1]) (t := 26) ?hr ?_; (case hd => rfl); (case hg => rfl); (case hr => first | (go_simp; done) | (go_simp; rfl)); intro gb290 hg w5 hbox hb; have hv := hvK (w := w) hb (by repeat (first | (with_reducible first | exact HB.out | apply bA | apply bN | apply bD) | exact HB.out)); have n0_ := Am (bT hv hb); have n1_ := Am (hbox); have GW290 := kG hg hv; have GE290 := kG hg hv; clear HB; have HB := n0_; have BK290 := n1_; clear n0_ n1_ hv; clear hb hbox hg; have hcz6_0 := c20 BK290.out; have hcz6_1 := c21 BK290.out; have hfz6_0 := kF BK290.out 0; have hfz6_1 := kF BK290.out 1) | (go_at_call 43; (with_reducible refine (impl_GapsAt.calls k _ _ l0 a1_0 a1_1 t291 true _ ?side1 ?side2 A3.out).mono ?_); (case side1 => repeat (first | exact (Kd.C_below HR0.out HB.out) | (with_reducible refine Kd.C_alloc ?_ _) | (with_reducible refine Kd.C_drewN ?_ _) | (with_reducible refine Kd.C_drew ?_))); (case side2 => exact HC0.out); rintro e w7 ⟨v292, rfl, ho0, hb⟩; have n0_ := Am (Kd.R_lower (Kd.R_newB ho0 (g := gb290) (o := .cells #[.int .i64 a1_0, .int .i64 a1_1] 26 (0, 0)) (by (with_reducible repeat (first | refine kN ?_ _ | refine kD ?_ | refine kA ?_ _)); exact BK290.out)) (bZ (by repeat (first | (with_reducible first | exact HB.out | apply bA | apply bN | apply bD | refine bX ?_ (by assumption)) | exact HB.out)))); have hp0 := hpA BK290.out hb (fun _ _ h_ => by (with_reducible repeat (first | refine kN ?_ _ | refine kD ?_ | refine kA ?_ _)); exact h_); have hv := hvK (w := w) hb (by repeat (first | (with_reducible first | exact HB.out | apply bA | apply bN | apply bD | refine bX ?_ (by assumption)) | exact HB.out)); have n2_ := Am (bT hv hb); clear HB; have HO293 := n0_; replace BK290 := hp0 BK290; have HB := n2_; clear n0_ n2_ hp0 hv; (try clear hb); (try clear ho0); obtain ⟨Ao8, co8, eo8⟩ := Kd.R_slice HO293.out; subst eo8)); try go_wp2_with (first | ((with_reducible refine gate_dst (N := 3) rfl ?_); (try (refine gate_guard (by rfl) ?_; dsimp only)); refine box_event ?hg (N := 3) ?hd (cs := #[.int .i64 a1_0, .int .i64 a1_1]) (t := 26) ?hr ?_; (case hd => rfl); (case hg => rfl); (case hr => first | (go_simp; done) | (go_simp; rfl)); intro gb290 hg w5 hbox hb; have n0_ := Am (bT (by repeat (first | (with_reducible first | exact HB.out | apply bA | apply bN | apply bD) | exact HB.out)) hb); have n1_ := Am (hbox); have n2_ := Am ((by rw [hg]; exact (bZ (by repeat (first | (with_reducible first | exact HB.out | apply bA | apply bN | apply bD) | exact HB.out))) : w.heap.size ≤ gb290)); have n3_ := Am ((by rw [hg]; exact (bZ (by repeat (first | (with_reducible first | exact HB.out | apply bA | apply bN | apply bD) | exact HB.out))) : w.heap.size ≤ gb290)); clear HB; have HB := n0_; have BK290 := n1_; have GW290 := n2_; have GE290 := n3_; clear n0_ n1_ n2_ n3_; clear hb hbox hg; have hcz6_0 := c20 BK290.out; have hcz6_1 := c21 BK290.out; have hfz6_0 := kF BK290.out 0; have hfz6_1 := kF BK290.out 1) | (go_at_call 43; (with_reducible refine (impl_GapsAt.calls k _ _ l0 a1_0 a1_1 t291 true _ ?side1 ?side2 A3.out).mono ?_); (case side1 => repeat (first | exact (Kd.C_below HR0.out HB.out) | (with_reducible refine Kd.C_alloc ?_ _) | (with_reducible refine Kd.C_drewN ?_ _) | (with_reducible refine Kd.C_drew ?_))); (case side2 => exact HC0.out); rintro e w7 ⟨v292, rfl, ho0, hb⟩; have n0_ := Am (Kd.R_lower (Kd.R_newB ho0 (g := gb290) (o := .cells #[.int .i64 a1_0, .int .i64 a1_1] 26 (0, 0)) (by (with_reducible repeat (first | refine kN ?_ _ | refine kD ?_ | refine kA ?_ _)); exact BK290.out)) (bZ (by repeat (first | (with_reducible first | exact HB.out | apply bA | apply bN | apply bD | refine bX ?_ (by assumption)) | exact HB.out)))); have n1_ := Am (kB (g := gb290) (o := .cells #[.int .i64 a1_0, .int .i64 a1_1] 26 (0, 0)) (by (with_reducible repeat (first | refine kN ?_ _ | refine kD ?_ | refine kA ?_ _)); exact BK290.out) hb); have n2_ := Am (bT (by repeat (first | (with_reducible first | exact HB.out | apply bA | apply bN | apply bD | refine bX ?_ (by assumption)) | exact HB.out)) hb); clear BK290; clear HB; have HO293 := n0_; have BK290 := n1_; have HB := n2_; clear n0_ n1_ n2_; (try clear hb); (try clear hb2); (try clear hk); (try clear hi); (try clear ho0); obtain ⟨Ao8, co8, eo8⟩ := Kd.R_slice HO293.out; subst eo8)))
  go_loopg [20] k (fun kq v20 w' => ∃ (x20_1 : Int), v20 = .int .i64 x20_1 ∧ Aside0 (impl_AreSpread.l0 kq t291 t291 (t291.length : Int) x20_1 = some (r1, r2)) ∧ Aside0 (kq ≤ k) ∧ Aside0 (Kd.R k26 26 w' w.heap.size (fun k_ => k_ ≠ gb290) (.slice Ao8 t291.length co8) t291) ∧ Aside0 (Kd.R k26 26 w' w.heap.size (fun k_ => k_ ≠ gb290) (.slice Ao8 t291.length co8) t291) ∧ Aside0 (w'.heap[gb290]? = some (.cells #[.int .i64 a1_0, .int .i64 a1_1] 26 (0, 0))) ∧ Aside0 (Below w.heap.size w w'))
  case atStart => exact ⟨(0), (by first | rfl | (simp; done) | (simp [*]; done)), H', ⟨Nat.le_refl _⟩, ⟨by (with_reducible repeat (first | apply Kd.R_alloc | apply Kd.R_drewN | apply Kd.R_drew)); exact Kd.R_mono HO293.out (fun _ hk => hk.2)⟩, ⟨by (with_reducible repeat (first | apply Kd.R_alloc | apply Kd.R_drewN | apply Kd.R_drew)); exact Kd.R_mono HO293.out (fun _ hk => hk.2)⟩, ⟨by (with_reducible repeat (first | refine kN ?_ _ | refine kD ?_ | refine kA ?_ _)); exact BK290.out⟩, ⟨by repeat (first | (with_reducible first | exact HB.out | apply bA | apply bN | apply bD | refine bX ?_ (by assumption)) | exact HB.out)⟩⟩
  case round =>
   clear H'
   (try clear c4); (try clear hcz6_0); (try clear hcz6_1); (try clear hfz6_0); (try clear hfz6_1)
   obtain ⟨x20_1, rfl, HA, HK1, HO_6, HO_18, BK290, HB⟩ := hrel
   cases gk with
   | zero => exact absurd HA.out (by simp [impl_AreSpread.l0])
   | succ k1 =>
    have H := HA.out
    clear HA
    simp only [impl_AreSpread.l0] at H
    by_cases c9 : x20_1 < (t291.length : Int)
    ·rw [if_pos c9] at H
     have c9b0 : decide (x20_1 < (t291.length : Int)) = true := decide_eq_true c9
     clear c9
     by_cases c10 : 0 ≤ x20_1
     ·rw [if_pos c10] at H
      have c10b0 : decide (0 ≤ x20_1) = true := decide_eq_true c10
      clear c10
      by_cases c11 : x20_1 < (t291.length : Int)
      ·rw [if_pos c11] at H
       have c11b0 : decide (x20_1 < (t291.length : Int)) = true := decide_eq_true c11
       clear c11
       by_cases c12 : 0 < (t291.length : Int)
       ·rw [if_pos c12] at H
        have c12b0 : decide (0 < (t291.length : Int)) = true := decide_eq_true c12
        have c12b1 : decide (0 < t291.length) = true := decide_eq_true (by omega)
        clear c12
        by_cases c13 : (!(((rd_T26 t291 x20_1).f0) == ((rd_T26 t291 0).f0)) || (!(((rd_T26 t291 x20_1).f1) == ((rd_T26 t291 0).f1)))) = true
        ·rw [if_pos c13] at H
         have c13b0 : (!(((rd_T26 t291 x20_1).f0) == ((rd_T26 t291 0).f0)) || (!(((rd_T26 t291 x20_1).f1) == ((rd_T26 t291 0).f1)))) = true := c13
         clear c13
         simp only [Option.some.injEq, Prod.mk.injEq] at H
         obtain ⟨rfl, rfl⟩ := H
         have p295 : 0 ≤ (x20_1 : Int) := of_decide_eq_true (by first | (with_reducible assumption) | assumption)
         have q295 : x20_1 < (t291.length : Int) := of_decide_eq_true (by first | (with_reducible assumption) | assumption)
         obtain ⟨ad295, e295, hx295_0, hx295_1⟩ := at_T26 (Kd.R_reads' HO_18.out).2.2 x20_1 p295 q295
         cases e295
         replace p295 := eq_true p295
         replace q295 := eq_true q295
         go_wp2_with (first | ((with_reducible refine gate_dst (N := 9) rfl ?_); (try (refine gate_guard (by rfl) ?_; dsimp only)); refine box_event ?hg (N := 9) ?hd (cs := #[.int .i64 0, .int .i64 0]) (t := 26) ?hr ?_; (case hd => rfl); (case hg => rfl); (case hr => first | (go_simp; done) | (go_simp; rfl)); intro gb296 hg w14 hbox hb; have n0_ := Am (Kd.R_below (Kd.R_elderB (by (with_reducible repeat (first | apply Kd.R_alloc | apply Kd.R_drewN | apply Kd.R_drew)); exact HO_6.out) gb296 (Nat.le_of_eq hg.symm)) hb); have n1_ := Am (Kd.R_below (Kd.R_elderB (by (with_reducible repeat (first | apply Kd.R_alloc | apply Kd.R_drewN | apply Kd.R_drew)); exact HO_18.out) gb296 (Nat.le_of_eq hg.symm)) hb); have hp0 := hpA BK290.out hb (fun _ _ h_ => by (with_reducible repeat (first | refine kN ?_ _ | refine kD ?_ | refine kA ?_ _)); exact h_); have hv := hvK (w := w) hb (by repeat (first | (with_reducible first | exact HB.out | apply bA | apply bN | apply bD | refine bX ?_ (by assumption)) | exact HB.out)); have n3_ := Am (bT hv hb); have n4_ := Am (hbox); have GW296 := kG hg hv; have GE296 := kG hg hv; have hp1 := hpK BK290.out hb (fun _ _ h_ => by (with_reducible repeat (first | refine kN ?_ _ | refine kD ?_ | refine kA ?_ _)); exact h_); have NB290_296 := kX hg (hp1 BK290.out); have NB296_290 := kY hg (hp1 BK290.out); clear HO_6; clear HO_18; clear HB; have HO_6 := n0_; have HO_18 := n1_; replace BK290 := hp0 BK290; have HB := n3_; have BK296 := n4_; clear n0_ n1_ n3_ n4_ hp0 hp1 hv; clear hb hbox hg; have hnb15 := NB296_290.out; have hnc15 := NB290_296.out; have hcz16_0 : w14.cell? ⟨gb296, 0, none⟩ = some (.int .i64 0) := (kC BK296.out 0).trans rfl; have hcz16_1 : w14.cell? ⟨gb296, 1, none⟩ = some (.int .i64 0) := (kC BK296.out 1).trans rfl; have hfz16_0 := kF BK296.out 0; have hfz16_1 := kF BK296.out 1; have p297 : 0 ≤ (0 : Int) := (by omega); have q297 : 0 < (t291.length : Int) := of_decide_eq_true (by first | (with_reducible assumption) | assumption); obtain ⟨ad297, e297, hx297_0, hx297_1⟩ := at_T26 (Kd.R_reads' HO_6.out).2.2 0 p297 q297; obtain rfl : ad295 = ad297 := (by injection e297); have qi297 : (0 < t291.length) = True := eq_true (by omega); (try rw [show ((0 : Int)).toNat = 0 from rfl] at hx297_0); (try rw [show 0 * 2 = 0 from rfl] at hx297_0); (try rw [Addr.add_zero'] at hx297_0); (try rw [show ((0 : Int)).toNat = 0 from rfl] at hx297_1); (try rw [show 0 * 2 = 0 from rfl] at hx297_1); (try rw [Addr.add_zero'] at hx297_1); have hn297_0 : ad295.block ≠ gb296 := Kd.own_blk (Kd.R_away HO_6.out (fun _ hk => hk.2)); have hn297_1 : ad295.block ≠ gb296 := Kd.own_blk (Kd.R_away HO_6.out (fun _ hk => hk.2)); replace hx297_0 := (cell_far (p := ⟨gb296, 0, none⟩) (by first | (rw [add_block]; exact hn297_0) | (show (Addr.add _ _).block ≠ _; rw [add_block]; exact hn297_0) | exact hn297_0) (.int .i64 ((rd_T26 t291 x20_1).f0))).trans hx297_0; replace hx297_1 := (cell_far (p := ⟨gb296, 0, none⟩) (by first | (rw [add_block]; exact hn297_0) | (show (Addr.add _ _).block ≠ _; rw [add_block]; exact hn297_0) | exact hn297_0) (.int .i64 ((rd_T26 t291 x20_1).f0))).trans hx297_1; replace hx297_0 := (cell_far (p := ⟨gb296, 1, none⟩) (by first | (rw [add_block]; exact hn297_1) | (show (Addr.add _ _).block ≠ _; rw [add_block]; exact hn297_1) | exact hn297_1) (.int .i64 ((rd_T26 t291 x20_1).f1))).trans hx297_0; replace hx297_1 := (cell_far (p := ⟨gb296, 1, none⟩) (by first | (rw [add_block]; exact hn297_1) | (show (Addr.add _ _).block ≠ _; rw [add_block]; exact hn297_1) | exact hn297_1) (.int .i64 ((rd_T26 t291 x20_1).f1))).trans hx297_1; (try have hy297_0 := fun (n_ : Nat) => (show ((((w14.drewN n_).setCell ⟨gb296, 0, none⟩ (.int .i64 ((rd_T26 t291 x20_1).f0))).setCell ⟨gb296, 1, none⟩ (.int .i64 ((rd_T26 t291 x20_1).f1)))).cell? _ = some _ from hx297_0)); (try have hy297_1 := fun (n_ : Nat) => (show ((((w14.drewN n_).setCell ⟨gb296, 0, none⟩ (.int .i64 ((rd_T26 t291 x20_1).f0))).setCell ⟨gb296, 1, none⟩ (.int .i64 ((rd_T26 t291 x20_1).f1)))).cell? _ = some _ from hx297_1)); clear hn297_0; clear hn297_1; replace p297 := eq_true p297; replace q297 := eq_true q297))
         repeat (go_quiet (first | ((with_reducible refine gate_dst (N := 9) rfl ?_); (try (refine gate_guard (by rfl) ?_; dsimp only)); refine box_event ?hg (N := 9) ?hd (cs := #[.int .i64 0, .int .i64 0]) (t := 26) ?hr ?_; (case hd => rfl); (case hg => rfl); (case hr => first | (go_simp; done) | (go_simp; rfl)); intro gb296 hg w14 hbox hb; have n0_ := Am (Kd.R_below (Kd.R_elderB (by (with_reducible repeat (first | apply Kd.R_alloc | apply Kd.R_drewN | apply Kd.R_drew)); exact HO_6.out) gb296 (Nat.le_of_eq hg.symm)) hb); have n1_ := Am (Kd.R_below (Kd.R_elderB (by (with_reducible repeat (first | apply Kd.R_alloc | apply Kd.R_drewN | apply Kd.R_drew)); exact HO_18.out) gb296 (Nat.le_of_eq hg.symm)) hb); have hp0 := hpA BK290.out hb (fun _ _ h_ => by (with_reducible repeat (first | refine kN ?_ _ | refine kD ?_ | refine kA ?_ _)); exact h_); have hv := hvK (w := w) hb (by repeat (first | (with_reducible first | exact HB.out | apply bA | apply bN | apply bD | refine bX ?_ (by assumption)) | exact HB.out)); have n3_ := Am (bT hv hb); have n4_ := Am (hbox); have GW296 := kG hg hv; have GE296 := kG hg hv; have hp1 := hpK BK290.out hb (fun _ _ h_ => by (with_reducible repeat (first | refine kN ?_ _ | refine kD ?_ | refine kA ?_ _)); exact h_); have NB290_296 := kX hg (hp1 BK290.out); have NB296_290 := kY hg (hp1 BK290.out); clear HO_6; clear HO_18; clear HB; have HO_6 := n0_; have HO_18 := n1_; replace BK290 := hp0 BK290; have HB := n3_; have BK296 := n4_; clear n0_ n1_ n3_ n4_ hp0 hp1 hv; clear hb hbox hg; have hnb15 := NB296_290.out; have hnc15 := NB290_296.out; have hcz16_0 : w14.cell? ⟨gb296, 0, none⟩ = some (.int .i64 0) := (kC BK296.out 0).trans rfl; have hcz16_1 : w14.cell? ⟨gb296, 1, none⟩ = some (.int .i64 0) := (kC BK296.out 1).trans rfl; have hfz16_0 := kF BK296.out 0; have hfz16_1 := kF BK296.out 1; have p297 : 0 ≤ (0 : Int) := (by omega); have q297 : 0 < (t291.length : Int) := of_decide_eq_true (by first | (with_reducible assumption) | assumption); obtain ⟨ad297, e297, hx297_0, hx297_1⟩ := at_T26 (Kd.R_reads' HO_6.out).2.2 0 p297 q297; obtain rfl : ad295 = ad297 := (by injection e297); have qi297 : (0 < t291.length) = True := eq_true (by omega); (try rw [show ((0 : Int)).toNat = 0 from rfl] at hx297_0); (try rw [show 0 * 2 = 0 from rfl] at hx297_0); (try rw [Addr.add_zero'] at hx297_0); (try rw [show ((0 : Int)).toNat = 0 from rfl] at hx297_1); (try rw [show 0 * 2 = 0 from rfl] at hx297_1); (try rw [Addr.add_zero'] at hx297_1); have hn297_0 : ad295.block ≠ gb296 := Kd.own_blk (Kd.R_away HO_6.out (fun _ hk => hk.2)); have hn297_1 : ad295.block ≠ gb296 := Kd.own_blk (Kd.R_away HO_6.out (fun _ hk => hk.2)); replace hx297_0 := (cell_far (p := ⟨gb296, 0, none⟩) (by first | (rw [add_block]; exact hn297_0) | (show (Addr.add _ _).block ≠ _; rw [add_block]; exact hn297_0) | exact hn297_0) (.int .i64 ((rd_T26 t291 x20_1).f0))).trans hx297_0; replace hx297_1 := (cell_far (p := ⟨gb296, 0, none⟩) (by first | (rw [add_block]; exact hn297_0) | (show (Addr.add _ _).block ≠ _; rw [add_block]; exact hn297_0) | exact hn297_0) (.int .i64 ((rd_T26 t291 x20_1).f0))).trans hx297_1; replace hx297_0 := (cell_far (p := ⟨gb296, 1, none⟩) (by first | (rw [add_block]; exact hn297_1) | (show (Addr.add _ _).block ≠ _; rw [add_block]; exact hn297_1) | exact hn297_1) (.int .i64 ((rd_T26 t291 x20_1).f1))).trans hx297_0; replace hx297_1 := (cell_far (p := ⟨gb296, 1, none⟩) (by first | (rw [add_block]; exact hn297_1) | (show (Addr.add _ _).block ≠ _; rw [add_block]; exact hn297_1) | exact hn297_1) (.int .i64 ((rd_T26 t291 x20_1).f1))).trans hx297_1; (try have hy297_0 := fun (n_ : Nat) => (show ((((w14.drewN n_).setCell ⟨gb296, 0, none⟩ (.int .i64 ((rd_T26 t291 x20_1).f0))).setCell ⟨gb296, 1, none⟩ (.int .i64 ((rd_T26 t291 x20_1).f1)))).cell? _ = some _ from hx297_0)); (try have hy297_1 := fun (n_ : Nat) => (show ((((w14.drewN n_).setCell ⟨gb296, 0, none⟩ (.int .i64 ((rd_T26 t291 x20_1).f0))).setCell ⟨gb296, 1, none⟩ (.int .i64 ((rd_T26 t291 x20_1).f1)))).cell? _ = some _ from hx297_1)); clear hn297_0; clear hn297_1; replace p297 := eq_true p297; replace q297 := eq_true q297)); try go_wp2_with (first | ((with_reducible refine gate_dst (N := 9) rfl ?_); (try (refine gate_guard (by rfl) ?_; dsimp only)); refine box_event ?hg (N := 9) ?hd (cs := #[.int .i64 0, .int .i64 0]) (t := 26) ?hr ?_; (case hd => rfl); (case hg => rfl); (case hr => first | (go_simp; done) | (go_simp; rfl)); intro gb296 hg w14 hbox hb; have n0_ := Am (Kd.R_below (Kd.R_elderB (by (with_reducible repeat (first | apply Kd.R_alloc | apply Kd.R_drewN | apply Kd.R_drew)); exact HO_6.out) gb296 (Nat.le_of_eq hg.symm)) hb); have n1_ := Am (Kd.R_below (Kd.R_elderB (by (with_reducible repeat (first | apply Kd.R_alloc | apply Kd.R_drewN | apply Kd.R_drew)); exact HO_18.out) gb296 (Nat.le_of_eq hg.symm)) hb); have n2_ := Am (kB (g := gb290) (o := .cells #[.int .i64 a1_0, .int .i64 a1_1] 26 (0, 0)) (by (with_reducible repeat (first | refine kN ?_ _ | refine kD ?_ | refine kA ?_ _)); exact BK290.out) hb); have n3_ := Am (bT (by repeat (first | (with_reducible first | exact HB.out | apply bA | apply bN | apply bD | refine bX ?_ (by assumption)) | exact HB.out)) hb); have n4_ := Am (hbox); have n5_ := Am ((by rw [hg]; exact (bZ (by repeat (first | (with_reducible first | exact HB.out | apply bA | apply bN | apply bD | refine bX ?_ (by assumption)) | exact HB.out))) : w.heap.size ≤ gb296)); have n6_ := Am ((by rw [hg]; exact (bZ (by repeat (first | (with_reducible first | exact HB.out | apply bA | apply bN | apply bD | refine bX ?_ (by assumption)) | exact HB.out))) : w.heap.size ≤ gb296)); have n7_ := Am ((by rw [hg]; exact Nat.ne_of_lt (kL (g := gb290) (o := .cells #[.int .i64 a1_0, .int .i64 a1_1] 26 (0, 0)) (by (with_reducible repeat (first | refine kN ?_ _ | refine kD ?_ | refine kA ?_ _)); exact BK290.out)) : gb290 ≠ gb296)); have n8_ := Am ((by rw [hg]; exact Nat.ne_of_gt (kL (g := gb290) (o := .cells #[.int .i64 a1_0, .int .i64 a1_1] 26 (0, 0)) (by (with_reducible repeat (first | refine kN ?_ _ | refine kD ?_ | refine kA ?_ _)); exact BK290.out)) : gb296 ≠ gb290)); clear HO_6; clear HO_18; clear BK290; clear HB; have HO_6 := n0_; have HO_18 := n1_; have BK290 := n2_; have HB := n3_; have BK296 := n4_; have GW296 := n5_; have GE296 := n6_; have NB290_296 := n7_; have NB296_290 := n8_; clear n0_ n1_ n2_ n3_ n4_ n5_ n6_ n7_ n8_; clear hb hbox hg; have hnb15 := NB296_290.out; have hnc15 := NB290_296.out; have hcz16_0 : w14.cell? ⟨gb296, 0, none⟩ = some (.int .i64 0) := (kC BK296.out 0).trans rfl; have hcz16_1 : w14.cell? ⟨gb296, 1, none⟩ = some (.int .i64 0) := (kC BK296.out 1).trans rfl; have hfz16_0 := kF BK296.out 0; have hfz16_1 := kF BK296.out 1; have p297 : 0 ≤ (0 : Int) := (by omega); have q297 : 0 < (t291.length : Int) := of_decide_eq_true (by first | (with_reducible assumption) | assumption); obtain ⟨ad297, e297, hx297_0, hx297_1⟩ := at_T26 (Kd.R_reads' HO_6.out).2.2 0 p297 q297; obtain rfl : ad295 = ad297 := (by injection e297); have qi297 : (0 < t291.length) = True := eq_true (by omega); (try rw [show ((0 : Int)).toNat = 0 from rfl] at hx297_0); (try rw [show 0 * 2 = 0 from rfl] at hx297_0); (try rw [Addr.add_zero'] at hx297_0); (try rw [show ((0 : Int)).toNat = 0 from rfl] at hx297_1); (try rw [show 0 * 2 = 0 from rfl] at hx297_1); (try rw [Addr.add_zero'] at hx297_1); have hn297_0 : ad295.block ≠ gb296 := Kd.own_blk (Kd.R_away HO_6.out (fun _ hk => hk.2)); have hn297_1 : ad295.block ≠ gb296 := Kd.own_blk (Kd.R_away HO_6.out (fun _ hk => hk.2)); replace hx297_0 := (cell_far (p := ⟨gb296, 0, none⟩) (by first | (rw [add_block]; exact hn297_0) | (show (Addr.add _ _).block ≠ _; rw [add_block]; exact hn297_0) | exact hn297_0) (.int .i64 ((rd_T26 t291 x20_1).f0))).trans hx297_0; replace hx297_1 := (cell_far (p := ⟨gb296, 0, none⟩) (by first | (rw [add_block]; exact hn297_0) | (show (Addr.add _ _).block ≠ _; rw [add_block]; exact hn297_0) | exact hn297_0) (.int .i64 ((rd_T26 t291 x20_1).f0))).trans hx297_1; replace hx297_0 := (cell_far (p := ⟨gb296, 1, none⟩) (by first | (rw [add_block]; exact hn297_1) | (show (Addr.add _ _).block ≠ _; rw [add_block]; exact hn297_1) | exact hn297_1) (.int .i64 ((rd_T26 t291 x20_1).f1))).trans hx297_0; replace hx297_1 := (cell_far (p := ⟨gb296, 1, none⟩) (by first | (rw [add_block]; exact hn297_1) | (show (Addr.add _ _).block ≠ _; rw [add_block]; exact hn297_1) | exact hn297_1) (.int .i64 ((rd_T26 t291 x20_1).f1))).trans hx297_1; (try have hy297_0 := fun (n_ : Nat) => (show ((((w14.drewN n_).setCell ⟨gb296, 0, none⟩ (.int .i64 ((rd_T26 t291 x20_1).f0))).setCell ⟨gb296, 1, none⟩ (.int .i64 ((rd_T26 t291 x20_1).f1)))).cell? _ = some _ from hx297_0)); (try have hy297_1 := fun (n_ : Nat) => (show ((((w14.drewN n_).setCell ⟨gb296, 0, none⟩ (.int .i64 ((rd_T26 t291 x20_1).f0))).setCell ⟨gb296, 1, none⟩ (.int .i64 ((rd_T26 t291 x20_1).f1)))).cell? _ = some _ from hx297_1)); clear hn297_0; clear hn297_1; replace p297 := eq_true p297; replace q297 := eq_true q297)))
         go_ret2
         exact ⟨by first | rfl | (simp [errW_none, errW_some] <;> rfl) | (simp [*, errW_none, errW_some] <;> rfl), by repeat (first | (with_reducible first | exact HB.out | apply bA | apply bN | apply bD | refine bX ?_ (by assumption)) | exact HB.out)⟩
        rw [if_neg c13] at H
        have c13b0 : (!(((rd_T26 t291 x20_1).f0) == ((rd_T26 t291 0).f0)) || (!(((rd_T26 t291 x20_1).f1) == ((rd_T26 t291 0).f1)))) = false := by simpa using c13
        clear c13
        by_cases c17 : ((rd_T26 t291 x20_1).f0) = 0
        ·rw [if_pos c17] at H
         have c17b0 : (((rd_T26 t291 x20_1).f0) == 0) = true := beq_iff_eq.mpr c17
         have c17b1 : (((rd_T26 t291 x20_1).f0) != 0) = false := bne_eq_false_iff_eq.mpr c17
         clear c17
         by_cases c18 : (t291.length : Int) > 1
         ·rw [if_pos c18] at H
          have c18b0 : decide (1 < (t291.length : Int)) = true := decide_eq_true c18
          have c18b1 : decide (1 < t291.length) = true := decide_eq_true (by omega)
          clear c18
          simp only [Option.some.injEq, Prod.mk.injEq] at H
          obtain ⟨rfl, rfl⟩ := H
          have p295 : 0 ≤ (x20_1 : Int) := of_decide_eq_true (by first | (with_reducible assumption) | assumption)
          have q295 : x20_1 < (t291.length : Int) := of_decide_eq_true (by first | (with_reducible assumption) | assumption)
          obtain ⟨ad295, e295, hx295_0, hx295_1⟩ := at_T26 (Kd.R_reads' HO_18.out).2.2 x20_1 p295 q295
          cases e295
          replace p295 := eq_true p295
          replace q295 := eq_true q295
          go_wp2_with (first | ((with_reducible refine gate_dst (N := 9) rfl ?_); (try (refine gate_guard (by rfl) ?_; dsimp only)); refine box_event ?hg (N := 9) ?hd (cs := #[.int .i64 0, .int .i64 0]) (t := 26) ?hr ?_; (case hd => rfl); (case hg => rfl); (case hr => first | (go_simp; done) | (go_simp; rfl)); intro gb296 hg w19 hbox hb; have n0_ := Am (Kd.R_below (Kd.R_elderB (by (with_reducible repeat (first | apply Kd.R_alloc | apply Kd.R_drewN | apply Kd.R_drew)); exact HO_6.out) gb296 (Nat.le_of_eq hg.symm)) hb); have n1_ := Am (Kd.R_below (Kd.R_elderB (by (with_reducible repeat (first | apply Kd.R_alloc | apply Kd.R_drewN | apply Kd.R_drew)); exact HO_18.out) gb296 (Nat.le_of_eq hg.symm)) hb); have hp0 := hpA BK290.out hb (fun _ _ h_ => by (with_reducible repeat (first | refine kN ?_ _ | refine kD ?_ | refine kA ?_ _)); exact h_); have hv := hvK (w := w) hb (by repeat (first | (with_reducible first | exact HB.out | apply bA | apply bN | apply bD | refine bX ?_ (by assumption)) | exact HB.out)); have n3_ := Am (bT hv hb); have n4_ := Am (hbox); have GW296 := kG hg hv; have GE296 := kG hg hv; have hp1 := hpK BK290.out hb (fun _ _ h_ => by (with_reducible repeat (first | refine kN ?_ _ | refine kD ?_ | refine kA ?_ _)); exact h_); have NB290_296 := kX hg (hp1 BK290.out); have NB296_290 := kY hg (hp1 BK290.out); clear HO_6; clear HO_18; clear HB; have HO_6 := n0_; have HO_18 := n1_; replace BK290 := hp0 BK290; have HB := n3_; have BK296 := n4_; clear n0_ n1_ n3_ n4_ hp0 hp1 hv; clear hb hbox hg; have hnb20 := NB296_290.out; have hnc20 := NB290_296.out; have hcz21_0 : w19.cell? ⟨gb296, 0, none⟩ = some (.int .i64 0) := (kC BK296.out 0).trans rfl; have hcz21_1 : w19.cell? ⟨gb296, 1, none⟩ = some (.int .i64 0) := (kC BK296.out 1).trans rfl; have hfz21_0 := kF BK296.out 0; have hfz21_1 := kF BK296.out 1; have p297 : 0 ≤ (0 : Int) := (by omega); have q297 : 0 < (t291.length : Int) := of_decide_eq_true (by first | (with_reducible assumption) | assumption); obtain ⟨ad297, e297, hx297_0, hx297_1⟩ := at_T26 (Kd.R_reads' HO_6.out).2.2 0 p297 q297; obtain rfl : ad295 = ad297 := (by injection e297); have qi297 : (0 < t291.length) = True := eq_true (by omega); (try rw [show ((0 : Int)).toNat = 0 from rfl] at hx297_0); (try rw [show 0 * 2 = 0 from rfl] at hx297_0); (try rw [Addr.add_zero'] at hx297_0); (try rw [show ((0 : Int)).toNat = 0 from rfl] at hx297_1); (try rw [show 0 * 2 = 0 from rfl] at hx297_1); (try rw [Addr.add_zero'] at hx297_1); have hn297_0 : ad295.block ≠ gb296 := Kd.own_blk (Kd.R_away HO_6.out (fun _ hk => hk.2)); have hn297_1 : ad295.block ≠ gb296 := Kd.own_blk (Kd.R_away HO_6.out (fun _ hk => hk.2)); replace hx297_0 := (cell_far (p := ⟨gb296, 0, none⟩) (by first | (rw [add_block]; exact hn297_0) | (show (Addr.add _ _).block ≠ _; rw [add_block]; exact hn297_0) | exact hn297_0) (.int .i64 ((rd_T26 t291 x20_1).f0))).trans hx297_0; replace hx297_1 := (cell_far (p := ⟨gb296, 0, none⟩) (by first | (rw [add_block]; exact hn297_0) | (show (Addr.add _ _).block ≠ _; rw [add_block]; exact hn297_0) | exact hn297_0) (.int .i64 ((rd_T26 t291 x20_1).f0))).trans hx297_1; replace hx297_0 := (cell_far (p := ⟨gb296, 1, none⟩) (by first | (rw [add_block]; exact hn297_1) | (show (Addr.add _ _).block ≠ _; rw [add_block]; exact hn297_1) | exact hn297_1) (.int .i64 ((rd_T26 t291 x20_1).f1))).trans hx297_0; replace hx297_1 := (cell_far (p := ⟨gb296, 1, none⟩) (by first | (rw [add_block]; exact hn297_1) | (show (Addr.add _ _).block ≠ _; rw [add_block]; exact hn297_1) | exact hn297_1) (.int .i64 ((rd_T26 t291 x20_1).f1))).trans hx297_1; (try have hy297_0 := fun (n_ : Nat) => (show ((((w19.drewN n_).setCell ⟨gb296, 0, none⟩ (.int .i64 ((rd_T26 t291 x20_1).f0))).setCell ⟨gb296, 1, none⟩ (.int .i64 ((rd_T26 t291 x20_1).f1)))).cell? _ = some _ from hx297_0)); (try have hy297_1 := fun (n_ : Nat) => (show ((((w19.drewN n_).setCell ⟨gb296, 0, none⟩ (.int .i64 ((rd_T26 t291 x20_1).f0))).setCell ⟨gb296, 1, none⟩ (.int .i64 ((rd_T26 t291 x20_1).f1)))).cell? _ = some _ from hx297_1)); clear hn297_0; clear hn297_1; replace p297 := eq_true p297; replace q297 := eq_true q297))
          repeat (go_quiet (first | ((with_reducible refine gate_dst (N := 9) rfl ?_); (try (refine gate_guard (by rfl) ?_; dsimp only)); refine box_event ?hg (N := 9) ?hd (cs := #[.int .i64 0, .int .i64 0]) (t := 26) ?hr ?_; (case hd => rfl); (case hg => rfl); (case hr => first | (go_simp; done) | (go_simp; rfl)); intro gb296 hg w19 hbox hb; have n0_ := Am (Kd.R_below (Kd.R_elderB (by (with_reducible repeat (first | apply Kd.R_alloc | apply Kd.R_drewN | apply Kd.R_drew)); exact HO_6.out) gb296 (Nat.le_of_eq hg.symm)) hb); have n1_ := Am (Kd.R_below (Kd.R_elderB (by (with_reducible repeat (first | apply Kd.R_alloc | apply Kd.R_drewN | apply Kd.R_drew)); exact HO_18.out) gb296 (Nat.le_of_eq hg.symm)) hb); have hp0 := hpA BK290.out hb (fun _ _ h_ => by (with_reducible repeat (first | refine kN ?_ _ | refine kD ?_ | refine kA ?_ _)); exact h_); have hv := hvK (w := w) hb (by repeat (first | (with_reducible first | exact HB.out | apply bA | apply bN | apply bD | refine bX ?_ (by assumption)) | exact HB.out)); have n3_ := Am (bT hv hb); have n4_ := Am (hbox); have GW296 := kG hg hv; have GE296 := kG hg hv; have hp1 := hpK BK290.out hb (fun _ _ h_ => by (with_reducible repeat (first | refine kN ?_ _ | refine kD ?_ | refine kA ?_ _)); exact h_); have NB290_296 := kX hg (hp1 BK290.out); have NB296_290 := kY hg (hp1 BK290.out); clear HO_6; clear HO_18; clear HB; have HO_6 := n0_; have HO_18 := n1_; replace BK290 := hp0 BK290; have HB := n3_; have BK296 := n4_; clear n0_ n1_ n3_ n4_ hp0 hp1 hv; clear hb hbox hg; have hnb20 := NB296_290.out; have hnc20 := NB290_296.out; have hcz21_0 : w19.cell? ⟨gb296, 0, none⟩ = some (.int .i64 0) := (kC BK296.out 0).trans rfl; have hcz21_1 : w19.cell? ⟨gb296, 1, none⟩ = some (.int .i64 0) := (kC BK296.out 1).trans rfl; have hfz21_0 := kF BK296.out 0; have hfz21_1 := kF BK296.out 1; have p297 : 0 ≤ (0 : Int) := (by omega); have q297 : 0 < (t291.length : Int) := of_decide_eq_true (by first | (with_reducible assumption) | assumption); obtain ⟨ad297, e297, hx297_0, hx297_1⟩ := at_T26 (Kd.R_reads' HO_6.out).2.2 0 p297 q297; obtain rfl : ad295 = ad297 := (by injection e297); have qi297 : (0 < t291.length) = True := eq_true (by omega); (try rw [show ((0 : Int)).toNat = 0 from rfl] at hx297_0); (try rw [show 0 * 2 = 0 from rfl] at hx297_0); (try rw [Addr.add_zero'] at hx297_0); (try rw [show ((0 : Int)).toNat = 0 from rfl] at hx297_1); (try rw [show 0 * 2 = 0 from rfl] at hx297_1); (try rw [Addr.add_zero'] at hx297_1); have hn297_0 : ad295.block ≠ gb296 := Kd.own_blk (Kd.R_away HO_6.out (fun _ hk => hk.2)); have hn297_1 : ad295.block ≠ gb296 := Kd.own_blk (Kd.R_away HO_6.out (fun _ hk => hk.2)); replace hx297_0 := (cell_far (p := ⟨gb296, 0, none⟩) (by first | (rw [add_block]; exact hn297_0) | (show (Addr.add _ _).block ≠ _; rw [add_block]; exact hn297_0) | exact hn297_0) (.int .i64 ((rd_T26 t291 x20_1).f0))).trans hx297_0; replace hx297_1 := (cell_far (p := ⟨gb296, 0, none⟩) (by first | (rw [add_block]; exact hn297_0) | (show (Addr.add _ _).block ≠ _; rw [add_block]; exact hn297_0) | exact hn297_0) (.int .i64 ((rd_T26 t291 x20_1).f0))).trans hx297_1; replace hx297_0 := (cell_far (p := ⟨gb296, 1, none⟩) (by first | (rw [add_block]; exact hn297_1) | (show (Addr.add _ _).block ≠ _; rw [add_block]; exact hn297_1) | exact hn297_1) (.int .i64 ((rd_T26 t291 x20_1).f1))).trans hx297_0; replace hx297_1 := (cell_far (p := ⟨gb296, 1, none⟩) (by first | (rw [add_block]; exact hn297_1) | (show (Addr.add _ _).block ≠ _; rw [add_block]; exact hn297_1) | exact hn297_1) (.int .i64 ((rd_T26 t291 x20_1).f1))).trans hx297_1; (try have hy297_0 := fun (n_ : Nat) => (show ((((w19.drewN n_).setCell ⟨gb296, 0, none⟩ (.int .i64 ((rd_T26 t291 x20_1).f0))).setCell ⟨gb296, 1, none⟩ (.int .i64 ((rd_T26 t291 x20_1).f1)))).cell? _ = some _ from hx297_0)); (try have hy297_1 := fun (n_ : Nat) => (show ((((w19.drewN n_).setCell ⟨gb296, 0, none⟩ (.int .i64 ((rd_T26 t291 x20_1).f0))).setCell ⟨gb296, 1, none⟩ (.int .i64 ((rd_T26 t291 x20_1).f1)))).cell? _ = some _ from hx297_1)); clear hn297_0; clear hn297_1; replace p297 := eq_true p297; replace q297 := eq_true q297)); try go_wp2_with (first | ((with_reducible refine gate_dst (N := 9) rfl ?_); (try (refine gate_guard (by rfl) ?_; dsimp only)); refine box_event ?hg (N := 9) ?hd (cs := #[.int .i64 0, .int .i64 0]) (t := 26) ?hr ?_; (case hd => rfl); (case hg => rfl); (case hr => first | (go_simp; done) | (go_simp; rfl)); intro gb296 hg w19 hbox hb; have n0_ := Am (Kd.R_below (Kd.R_elderB (by (with_reducible repeat (first | apply Kd.R_alloc | apply Kd.R_drewN | apply Kd.R_drew)); exact HO_6.out) gb296 (Nat.le_of_eq hg.symm)) hb); have n1_ := Am (Kd.R_below (Kd.R_elderB (by (with_reducible repeat (first | apply Kd.R_alloc | apply Kd.R_drewN | apply Kd.R_drew)); exact HO_18.out) gb296 (Nat.le_of_eq hg.symm)) hb); have n2_ := Am (kB (g := gb290) (o := .cells #[.int .i64 a1_0, .int .i64 a1_1] 26 (0, 0)) (by (with_reducible repeat (first | refine kN ?_ _ | refine kD ?_ | refine kA ?_ _)); exact BK290.out) hb); have n3_ := Am (bT (by repeat (first | (with_reducible first | exact HB.out | apply bA | apply bN | apply bD | refine bX ?_ (by assumption)) | exact HB.out)) hb); have n4_ := Am (hbox); have n5_ := Am ((by rw [hg]; exact (bZ (by repeat (first | (with_reducible first | exact HB.out | apply bA | apply bN | apply bD | refine bX ?_ (by assumption)) | exact HB.out))) : w.heap.size ≤ gb296)); have n6_ := Am ((by rw [hg]; exact (bZ (by repeat (first | (with_reducible first | exact HB.out | apply bA | apply bN | apply bD | refine bX ?_ (by assumption)) | exact HB.out))) : w.heap.size ≤ gb296)); have n7_ := Am ((by rw [hg]; exact Nat.ne_of_lt (kL (g := gb290) (o := .cells #[.int .i64 a1_0, .int .i64 a1_1] 26 (0, 0)) (by (with_reducible repeat (first | refine kN ?_ _ | refine kD ?_ | refine kA ?_ _)); exact BK290.out)) : gb290 ≠ gb296)); have n8_ := Am ((by rw [hg]; exact Nat.ne_of_gt (kL (g := gb290) (o := .cells #[.int .i64 a1_0, .int .i64 a1_1] 26 (0, 0)) (by (with_reducible repeat (first | refine kN ?_ _ | refine kD ?_ | refine kA ?_ _)); exact BK290.out)) : gb296 ≠ gb290)); clear HO_6; clear HO_18; clear BK290; clear HB; have HO_6 := n0_; have HO_18 := n1_; have BK290 := n2_; have HB := n3_; have BK296 := n4_; have GW296 := n5_; have GE296 := n6_; have NB290_296 := n7_; have NB296_290 := n8_; clear n0_ n1_ n2_ n3_ n4_ n5_ n6_ n7_ n8_; clear hb hbox hg; have hnb20 := NB296_290.out; have hnc20 := NB290_296.out; have hcz21_0 : w19.cell? ⟨gb296, 0, none⟩ = some (.int .i64 0) := (kC BK296.out 0).trans rfl; have hcz21_1 : w19.cell? ⟨gb296, 1, none⟩ = some (.int .i64 0) := (kC BK296.out 1).trans rfl; have hfz21_0 := kF BK296.out 0; have hfz21_1 := kF BK296.out 1; have p297 : 0 ≤ (0 : Int) := (by omega); have q297 : 0 < (t291.length : Int) := of_decide_eq_true (by first | (with_reducible assumption) | assumption); obtain ⟨ad297, e297, hx297_0, hx297_1⟩ := at_T26 (Kd.R_reads' HO_6.out).2.2 0 p297 q297; obtain rfl : ad295 = ad297 := (by injection e297); have qi297 : (0 < t291.length) = True := eq_true (by omega); (try rw [show ((0 : Int)).toNat = 0 from rfl] at hx297_0); (try rw [show 0 * 2 = 0 from rfl] at hx297_0); (try rw [Addr.add_zero'] at hx297_0); (try rw [show ((0 : Int)).toNat = 0 from rfl] at hx297_1); (try rw [show 0 * 2 = 0 from rfl] at hx297_1); (try rw [Addr.add_zero'] at hx297_1); have hn297_0 : ad295.block ≠ gb296 := Kd.own_blk (Kd.R_away HO_6.out (fun _ hk => hk.2)); have hn297_1 : ad295.block ≠ gb296 := Kd.own_blk (Kd.R_away HO_6.out (fun _ hk => hk.2)); replace hx297_0 := (cell_far (p := ⟨gb296, 0, none⟩) (by first | (rw [add_block]; exact hn297_0) | (show (Addr.add _ _).block ≠ _; rw [add_block]; exact hn297_0) | exact hn297_0) (.int .i64 ((rd_T26 t291 x20_1).f0))).trans hx297_0; replace hx297_1 := (cell_far (p := ⟨gb296, 0, none⟩) (by first | (rw [add_block]; exact hn297_0) | (show (Addr.add _ _).block ≠ _; rw [add_block]; exact hn297_0) | exact hn297_0) (.int .i64 ((rd_T26 t291 x20_1).f0))).trans hx297_1; replace hx297_0 := (cell_far (p := ⟨gb296, 1, none⟩) (by first | (rw [add_block]; exact hn297_1) | (show (Addr.add _ _).block ≠ _; rw [add_block]; exact hn297_1) | exact hn297_1) (.int .i64 ((rd_T26 t291 x20_1).f1))).trans hx297_0; replace hx297_1 := (cell_far (p := ⟨gb296, 1, none⟩) (by first | (rw [add_block]; exact hn297_1) | (show (Addr.add _ _).block ≠ _; rw [add_block]; exact hn297_1) | exact hn297_1) (.int .i64 ((rd_T26 t291 x20_1).f1))).trans hx297_1; (try have hy297_0 := fun (n_ : Nat) => (show ((((w19.drewN n_).setCell ⟨gb296, 0, none⟩ (.int .i64 ((rd_T26 t291 x20_1).f0))).setCell ⟨gb296, 1, none⟩ (.int .i64 ((rd_T26 t291 x20_1).f1)))).cell? _ = some _ from hx297_0)); (try have hy297_1 := fun (n_ : Nat) => (show ((((w19.drewN n_).setCell ⟨gb296, 0, none⟩ (.int .i64 ((rd_T26 t291 x20_1).f0))).setCell ⟨gb296, 1, none⟩ (.int .i64 ((rd_T26 t291 x20_1).f1)))).cell? _ = some _ from hx297_1)); clear hn297_0; clear hn297_1; replace p297 := eq_true p297; replace q297 := eq_true q297)))
          go_ret2
          exact ⟨by first | rfl | (simp [errW_none, errW_some] <;> rfl) | (simp [*, errW_none, errW_some] <;> rfl), by repeat (first | (with_reducible first | exact HB.out | apply bA | apply bN | apply bD | refine bX ?_ (by assumption)) | exact HB.out)⟩
         rw [if_neg c18] at H
         have c18b0 : decide (1 < (t291.length : Int)) = false := decide_eq_false c18
         have c18b1 : decide (1 < t291.length) = false := decide_eq_false (by omega)
         clear c18
         have H' := Am H
         clear H
         have p295 : 0 ≤ (x20_1 : Int) := of_decide_eq_true (by first | (with_reducible assumption) | assumption)
         have q295 : x20_1 < (t291.length : Int) := of_decide_eq_true (by first | (with_reducible assumption) | assumption)
         obtain ⟨ad295, e295, hx295_0, hx295_1⟩ := at_T26 (Kd.R_reads' HO_18.out).2.2 x20_1 p295 q295
         cases e295
         replace p295 := eq_true p295
         replace q295 := eq_true q295
         go_wp2_with (first | ((with_reducible refine gate_dst (N := 9) rfl ?_); (try (refine gate_guard (by rfl) ?_; dsimp only)); refine box_event ?hg (N := 9) ?hd (cs := #[.int .i64 0, .int .i64 0]) (t := 26) ?hr ?_; (case hd => rfl); (case hg => rfl); (case hr => first | (go_simp; done) | (go_simp; rfl)); intro gb296 hg w22 hbox hb; have n0_ := Am (Kd.R_below (Kd.R_elderB (by (with_reducible repeat (first | apply Kd.R_alloc | apply Kd.R_drewN | apply Kd.R_drew)); exact HO_6.out) gb296 (Nat.le_of_eq hg.symm)) hb); have n1_ := Am (Kd.R_below (Kd.R_elderB (by (with_reducible repeat (first | apply Kd.R_alloc | apply Kd.R_drewN | apply Kd.R_drew)); exact HO_18.out) gb296 (Nat.le_of_eq hg.symm)) hb); have hp0 := hpA BK290.out hb (fun _ _ h_ => by (with_reducible repeat (first | refine kN ?_ _ | refine kD ?_ | refine kA ?_ _)); exact h_); have hv := hvK (w := w) hb (by repeat (first | (with_reducible first | exact HB.out | apply bA | apply bN | apply bD | refine bX ?_ (by assumption)) | exact HB.out)); have n3_ := Am (bT hv hb); have n4_ := Am (hbox); have GW296 := kG hg hv; have GE296 := kG hg hv; have hp1 := hpK BK290.out hb (fun _ _ h_ => by (with_reducible repeat (first | refine kN ?_ _ | refine kD ?_ | refine kA ?_ _)); exact h_); have NB290_296 := kX hg (hp1 BK290.out); have NB296_290 := kY hg (hp1 BK290.out); clear HO_6; clear HO_18; clear HB; have HO_6 := n0_; have HO_18 := n1_; replace BK290 := hp0 BK290; have HB := n3_; have BK296 := n4_; clear n0_ n1_ n3_ n4_ hp0 hp1 hv; clear hb hbox hg; have hnb23 := NB296_290.out; have hnc23 := NB290_296.out; have hcz24_0 : w22.cell? ⟨gb296, 0, none⟩ = some (.int .i64 0) := (kC BK296.out 0).trans rfl; have hcz24_1 : w22.cell? ⟨gb296, 1, none⟩ = some (.int .i64 0) := (kC BK296.out 1).trans rfl; have hfz24_0 := kF BK296.out 0; have hfz24_1 := kF BK296.out 1; have p297 : 0 ≤ (0 : Int) := (by omega); have q297 : 0 < (t291.length : Int) := of_decide_eq_true (by first | (with_reducible assumption) | assumption); obtain ⟨ad297, e297, hx297_0, hx297_1⟩ := at_T26 (Kd.R_reads' HO_6.out).2.2 0 p297 q297; obtain rfl : ad295 = ad297 := (by injection e297); have qi297 : (0 < t291.length) = True := eq_true (by omega); (try rw [show ((0 : Int)).toNat = 0 from rfl] at hx297_0); (try rw [show 0 * 2 = 0 from rfl] at hx297_0); (try rw [Addr.add_zero'] at hx297_0); (try rw [show ((0 : Int)).toNat = 0 from rfl] at hx297_1); (try rw [show 0 * 2 = 0 from rfl] at hx297_1); (try rw [Addr.add_zero'] at hx297_1); have hn297_0 : ad295.block ≠ gb296 := Kd.own_blk (Kd.R_away HO_6.out (fun _ hk => hk.2)); have hn297_1 : ad295.block ≠ gb296 := Kd.own_blk (Kd.R_away HO_6.out (fun _ hk => hk.2)); replace hx297_0 := (cell_far (p := ⟨gb296, 0, none⟩) (by first | (rw [add_block]; exact hn297_0) | (show (Addr.add _ _).block ≠ _; rw [add_block]; exact hn297_0) | exact hn297_0) (.int .i64 ((rd_T26 t291 x20_1).f0))).trans hx297_0; replace hx297_1 := (cell_far (p := ⟨gb296, 0, none⟩) (by first | (rw [add_block]; exact hn297_0) | (show (Addr.add _ _).block ≠ _; rw [add_block]; exact hn297_0) | exact hn297_0) (.int .i64 ((rd_T26 t291 x20_1).f0))).trans hx297_1; replace hx297_0 := (cell_far (p := ⟨gb296, 1, none⟩) (by first | (rw [add_block]; exact hn297_1) | (show (Addr.add _ _).block ≠ _; rw [add_block]; exact hn297_1) | exact hn297_1) (.int .i64 ((rd_T26 t291 x20_1).f1))).trans hx297_0; replace hx297_1 := (cell_far (p := ⟨gb296, 1, none⟩) (by first | (rw [add_block]; exact hn297_1) | (show (Addr.add _ _).block ≠ _; rw [add_block]; exact hn297_1) | exact hn297_1) (.int .i64 ((rd_T26 t291 x20_1).f1))).trans hx297_1; (try have hy297_0 := fun (n_ : Nat) => (show ((((w22.drewN n_).setCell ⟨gb296, 0, none⟩ (.int .i64 ((rd_T26 t291 x20_1).f0))).setCell ⟨gb296, 1, none⟩ (.int .i64 ((rd_T26 t291 x20_1).f1)))).cell? _ = some _ from hx297_0)); (try have hy297_1 := fun (n_ : Nat) => (show ((((w22.drewN n_).setCell ⟨gb296, 0, none⟩ (.int .i64 ((rd_T26 t291 x20_1).f0))).setCell ⟨gb296, 1, none⟩ (.int .i64 ((rd_T26 t291 x20_1).f1)))).cell? _ = some _ from hx297_1)); clear hn297_0; clear hn297_1; replace p297 := eq_true p297; replace q297 := eq_true q297))
         repeat (go_quiet (first | ((with_reducible refine gate_dst (N := 9) rfl ?_); (try (refine gate_guard (by rfl) ?_; dsimp only)); refine box_event ?hg (N := 9) ?hd (cs := #[.int .i64 0, .int .i64 0]) (t := 26) ?hr ?_; (case hd => rfl); (case hg => rfl); (case hr => first | (go_simp; done) | (go_simp; rfl)); intro gb296 hg w22 hbox hb; have n0_ := Am (Kd.R_below (Kd.R_elderB (by (with_reducible repeat (first | apply Kd.R_alloc | apply Kd.R_drewN | apply Kd.R_drew)); exact HO_6.out) gb296 (Nat.le_of_eq hg.symm)) hb); have n1_ := Am (Kd.R_below (Kd.R_elderB (by (with_reducible repeat (first | apply Kd.R_alloc | apply Kd.R_drewN | apply Kd.R_drew)); exact HO_18.out) gb296 (Nat.le_of_eq hg.symm)) hb); have hp0 := hpA BK290.out hb (fun _ _ h_ => by (with_reducible repeat (first | refine kN ?_ _ | refine kD ?_ | refine kA ?_ _)); exact h_); have hv := hvK (w := w) hb (by repeat (first | (with_reducible first | exact HB.out | apply bA | apply bN | apply bD | refine bX ?_ (by assumption)) | exact HB.out)); have n3_ := Am (bT hv hb); have n4_ := Am (hbox); have GW296 := kG hg hv; have GE296 := kG hg hv; have hp1 := hpK BK290.out hb (fun _ _ h_ => by (with_reducible repeat (first | refine kN ?_ _ | refine kD ?_ | refine kA ?_ _)); exact h_); have NB290_296 := kX hg (hp1 BK290.out); have NB296_290 := kY hg (hp1 BK290.out); clear HO_6; clear HO_18; clear HB; have HO_6 := n0_; have HO_18 := n1_; replace BK290 := hp0 BK290; have HB := n3_; have BK296 := n4_; clear n0_ n1_ n3_ n4_ hp0 hp1 hv; clear hb hbox hg; have hnb23 := NB296_290.out; have hnc23 := NB290_296.out; have hcz24_0 : w22.cell? ⟨gb296, 0, none⟩ = some (.int .i64 0) := (kC BK296.out 0).trans rfl; have hcz24_1 : w22.cell? ⟨gb296, 1, none⟩ = some (.int .i64 0) := (kC BK296.out 1).trans rfl; have hfz24_0 := kF BK296.out 0; have hfz24_1 := kF BK296.out 1; have p297 : 0 ≤ (0 : Int) := (by omega); have q297 : 0 < (t291.length : Int) := of_decide_eq_true (by first | (with_reducible assumption) | assumption); obtain ⟨ad297, e297, hx297_0, hx297_1⟩ := at_T26 (Kd.R_reads' HO_6.out).2.2 0 p297 q297; obtain rfl : ad295 = ad297 := (by injection e297); have qi297 : (0 < t291.length) = True := eq_true (by omega); (try rw [show ((0 : Int)).toNat = 0 from rfl] at hx297_0); (try rw [show 0 * 2 = 0 from rfl] at hx297_0); (try rw [Addr.add_zero'] at hx297_0); (try rw [show ((0 : Int)).toNat = 0 from rfl] at hx297_1); (try rw [show 0 * 2 = 0 from rfl] at hx297_1); (try rw [Addr.add_zero'] at hx297_1); have hn297_0 : ad295.block ≠ gb296 := Kd.own_blk (Kd.R_away HO_6.out (fun _ hk => hk.2)); have hn297_1 : ad295.block ≠ gb296 := Kd.own_blk (Kd.R_away HO_6.out (fun _ hk => hk.2)); replace hx297_0 := (cell_far (p := ⟨gb296, 0, none⟩) (by first | (rw [add_block]; exact hn297_0) | (show (Addr.add _ _).block ≠ _; rw [add_block]; exact hn297_0) | exact hn297_0) (.int .i64 ((rd_T26 t291 x20_1).f0))).trans hx297_0; replace hx297_1 := (cell_far (p := ⟨gb296, 0, none⟩) (by first | (rw [add_block]; exact hn297_0) | (show (Addr.add _ _).block ≠ _; rw [add_block]; exact hn297_0) | exact hn297_0) (.int .i64 ((rd_T26 t291 x20_1).f0))).trans hx297_1; replace hx297_0 := (cell_far (p := ⟨gb296, 1, none⟩) (by first | (rw [add_block]; exact hn297_1) | (show (Addr.add _ _).block ≠ _; rw [add_block]; exact hn297_1) | exact hn297_1) (.int .i64 ((rd_T26 t291 x20_1).f1))).trans hx297_0; replace hx297_1 := (cell_far (p := ⟨gb296, 1, none⟩) (by first | (rw [add_block]; exact hn297_1) | (show (Addr.add _ _).block ≠ _; rw [add_block]; exact hn297_1) | exact hn297_1) (.int .i64 ((rd_T26 t291 x20_1).f1))).trans hx297_1; (try have hy297_0 := fun (n_ : Nat) => (show ((((w22.drewN n_).setCell ⟨gb296, 0, none⟩ (.int .i64 ((rd_T26 t291 x20_1).f0))).setCell ⟨gb296, 1, none⟩ (.int .i64 ((rd_T26 t291 x20_1).f1)))).cell? _ = some _ from hx297_0)); (try have hy297_1 := fun (n_ : Nat) => (show ((((w22.drewN n_).setCell ⟨gb296, 0, none⟩ (.int .i64 ((rd_T26 t291 x20_1).f0))).setCell ⟨gb296, 1, none⟩ (.int .i64 ((rd_T26 t291 x20_1).f1)))).cell? _ = some _ from hx297_1)); clear hn297_0; clear hn297_1; replace p297 := eq_true p297; replace q297 := eq_true q297)); try go_wp2_with (first | ((with_reducible refine gate_dst (N := 9) rfl ?_); (try (refine gate_guard (by rfl) ?_; dsimp only)); refine box_event ?hg (N := 9) ?hd (cs := #[.int .i64 0, .int .i64 0]) (t := 26) ?hr ?_; (case hd => rfl); (case hg => rfl); (case hr => first | (go_simp; done) | (go_simp; rfl)); intro gb296 hg w22 hbox hb; have n0_ := Am (Kd.R_below (Kd.R_elderB (by (with_reducible repeat (first | apply Kd.R_alloc | apply Kd.R_drewN | apply Kd.R_drew)); exact HO_6.out) gb296 (Nat.le_of_eq hg.symm)) hb); have n1_ := Am (Kd.R_below (Kd.R_elderB (by (with_reducible repeat (first | apply Kd.R_alloc | apply Kd.R_drewN | apply Kd.R_drew)); exact HO_18.out) gb296 (Nat.le_of_eq hg.symm)) hb); have n2_ := Am (kB (g := gb290) (o := .cells #[.int .i64 a1_0, .int .i64 a1_1] 26 (0, 0)) (by (with_reducible repeat (first | refine kN ?_ _ | refine kD ?_ | refine kA ?_ _)); exact BK290.out) hb); have n3_ := Am (bT (by repeat (first | (with_reducible first | exact HB.out | apply bA | apply bN | apply bD | refine bX ?_ (by assumption)) | exact HB.out)) hb); have n4_ := Am (hbox); have n5_ := Am ((by rw [hg]; exact (bZ (by repeat (first | (with_reducible first | exact HB.out | apply bA | apply bN | apply bD | refine bX ?_ (by assumption)) | exact HB.out))) : w.heap.size ≤ gb296)); have n6_ := Am ((by rw [hg]; exact (bZ (by repeat (first | (with_reducible first | exact HB.out | apply bA | apply bN | apply bD | refine bX ?_ (by assumption)) | exact HB.out))) : w.heap.size ≤ gb296)); have n7_ := Am ((by rw [hg]; exact Nat.ne_of_lt (kL (g := gb290) (o := .cells #[.int .i64 a1_0, .int .i64 a1_1] 26 (0, 0)) (by (with_reducible repeat (first | refine kN ?_ _ | refine kD ?_ | refine kA ?_ _)); exact BK290.out)) : gb290 ≠ gb296)); have n8_ := Am ((by rw [hg]; exact Nat.ne_of_gt (kL (g := gb290) (o := .cells #[.int .i64 a1_0, .int .i64 a1_1] 26 (0, 0)) (by (with_reducible repeat (first | refine kN ?_ _ | refine kD ?_ | refine kA ?_ _)); exact BK290.out)) : gb296 ≠ gb290)); clear HO_6; clear HO_18; clear BK290; clear HB; have HO_6 := n0_; have HO_18 := n1_; have BK290 := n2_; have HB := n3_; have BK296 := n4_; have GW296 := n5_; have GE296 := n6_; have NB290_296 := n7_; have NB296_290 := n8_; clear n0_ n1_ n2_ n3_ n4_ n5_ n6_ n7_ n8_; clear hb hbox hg; have hnb23 := NB296_290.out; have hnc23 := NB290_296.out; have hcz24_0 : w22.cell? ⟨gb296, 0, none⟩ = some (.int .i64 0) := (kC BK296.out 0).trans rfl; have hcz24_1 : w22.cell? ⟨gb296, 1, none⟩ = some (.int .i64 0) := (kC BK296.out 1).trans rfl; have hfz24_0 := kF BK296.out 0; have hfz24_1 := kF BK296.out 1; have p297 : 0 ≤ (0 : Int) := (by omega); have q297 : 0 < (t291.length : Int) := of_decide_eq_true (by first | (with_reducible assumption) | assumption); obtain ⟨ad297, e297, hx297_0, hx297_1⟩ := at_T26 (Kd.R_reads' HO_6.out).2.2 0 p297 q297; obtain rfl : ad295 = ad297 := (by injection e297); have qi297 : (0 < t291.length) = True := eq_true (by omega); (try rw [show ((0 : Int)).toNat = 0 from rfl] at hx297_0); (try rw [show 0 * 2 = 0 from rfl] at hx297_0); (try rw [Addr.add_zero'] at hx297_0); (try rw [show ((0 : Int)).toNat = 0 from rfl] at hx297_1); (try rw [show 0 * 2 = 0 from rfl] at hx297_1); (try rw [Addr.add_zero'] at hx297_1); have hn297_0 : ad295.block ≠ gb296 := Kd.own_blk (Kd.R_away HO_6.out (fun _ hk => hk.2)); have hn297_1 : ad295.block ≠ gb296 := Kd.own_blk (Kd.R_away HO_6.out (fun _ hk => hk.2)); replace hx297_0 := (cell_far (p := ⟨gb296, 0, none⟩) (by first | (rw [add_block]; exact hn297_0) | (show (Addr.add _ _).block ≠ _; rw [add_block]; exact hn297_0) | exact hn297_0) (.int .i64 ((rd_T26 t291 x20_1).f0))).trans hx297_0; replace hx297_1 := (cell_far (p := ⟨gb296, 0, none⟩) (by first | (rw [add_block]; exact hn297_0) | (show (Addr.add _ _).block ≠ _; rw [add_block]; exact hn297_0) | exact hn297_0) (.int .i64 ((rd_T26 t291 x20_1).f0))).trans hx297_1; replace hx297_0 := (cell_far (p := ⟨gb296, 1, none⟩) (by first | (rw [add_block]; exact hn297_1) | (show (Addr.add _ _).block ≠ _; rw [add_block]; exact hn297_1) | exact hn297_1) (.int .i64 ((rd_T26 t291 x20_1).f1))).trans hx297_0; replace hx297_1 := (cell_far (p := ⟨gb296, 1, none⟩) (by first | (rw [add_block]; exact hn297_1) | (show (Addr.add _ _).block ≠ _; rw [add_block]; exact hn297_1) | exact hn297_1) (.int .i64 ((rd_T26 t291 x20_1).f1))).trans hx297_1; (try have hy297_0 := fun (n_ : Nat) => (show ((((w22.drewN n_).setCell ⟨gb296, 0, none⟩ (.int .i64 ((rd_T26 t291 x20_1).f0))).setCell ⟨gb296, 1, none⟩ (.int .i64 ((rd_T26 t291 x20_1).f1)))).cell? _ = some _ from hx297_0)); (try have hy297_1 := fun (n_ : Nat) => (show ((((w22.drewN n_).setCell ⟨gb296, 0, none⟩ (.int .i64 ((rd_T26 t291 x20_1).f0))).setCell ⟨gb296, 1, none⟩ (.int .i64 ((rd_T26 t291 x20_1).f1)))).cell? _ = some _ from hx297_1)); clear hn297_0; clear hn297_1; replace p297 := eq_true p297; replace q297 := eq_true q297)))
         go_roundg k1
         case measure => have := HK1.out; omega
         case rel => exact ⟨(wrap64 (x20_1 + 1)), (by first | rfl | (simp; done) | (simp [*]; done)), H', ⟨by have := HK1.out; omega⟩, ⟨by (with_reducible repeat (first | apply Kd.R_alloc | apply Kd.R_drewN | apply Kd.R_drew)); exact Kd.R_mono (Kd.R_far (p := ⟨gb296, 1, none⟩) (Kd.R_far (p := ⟨gb296, 0, none⟩) (Kd.R_mono HO_6.out (fun k_ hk => (⟨hk, hk.2⟩ : _ ∧ k_ ≠ gb296))) (fun _ hk => hk.2) (.int .i64 ((rd_T26 t291 x20_1).f0))) (fun _ hk => hk.2) (.int .i64 ((rd_T26 t291 x20_1).f1))) (fun _ hk => hk.1.1)⟩, ⟨by (with_reducible repeat (first | apply Kd.R_alloc | apply Kd.R_drewN | apply Kd.R_drew)); exact Kd.R_mono (Kd.R_far (p := ⟨gb296, 1, none⟩) (Kd.R_far (p := ⟨gb296, 0, none⟩) (Kd.R_mono HO_18.out (fun k_ hk => (⟨hk, hk.2⟩ : _ ∧ k_ ≠ gb296))) (fun _ hk => hk.2) (.int .i64 ((rd_T26 t291 x20_1).f0))) (fun _ hk => hk.2) (.int .i64 ((rd_T26 t291 x20_1).f1))) (fun _ hk => hk.1.1)⟩, ⟨by (with_reducible repeat (first | refine kN ?_ _ | refine kD ?_ | refine kA ?_ _)); refine kR ?_ NB290_296.out _; (with_reducible repeat (first | refine kN ?_ _ | refine kD ?_ | refine kA ?_ _)); refine kR ?_ NB290_296.out _; (with_reducible repeat (first | refine kN ?_ _ | refine kD ?_ | refine kA ?_ _)); exact BK290.out⟩, ⟨by repeat (first | (with_reducible first | exact HB.out | apply bA | apply bN | apply bD | refine bX ?_ (by assumption)) | exact HB.out)⟩⟩
        rw [if_neg c17] at H
        have c17b0 : (((rd_T26 t291 x20_1).f0) == 0) = false := beq_eq_false_iff_ne.mpr c17
        have c17b1 : (((rd_T26 t291 x20_1).f0) != 0) = true := bne_iff_ne.mpr c17
        have H' := Am H
        clear H
        have p295 : 0 ≤ (x20_1 : Int) := of_decide_eq_true (by first | (with_reducible assumption) | assumption)
        have q295 : x20_1 < (t291.length : Int) := of_decide_eq_true (by first | (with_reducible assumption) | assumption)
        obtain ⟨ad295, e295, hx295_0, hx295_1⟩ := at_T26 (Kd.R_reads' HO_18.out).2.2 x20_1 p295 q295
        cases e295
        replace p295 := eq_true p295
        replace q295 := eq_true q295
        go_wp2_with (first | ((with_reducible refine gate_dst (N := 9) rfl ?_); (try (refine gate_guard (by rfl) ?_; dsimp only)); refine box_event ?hg (N := 9) ?hd (cs := #[.int .i64 0, .int .i64 0]) (t := 26) ?hr ?_; (case hd => rfl); (case hg => rfl); (case hr => first | (go_simp; done) | (go_simp; rfl)); intro gb296 hg w25 hbox hb; have n0_ := Am (Kd.R_below (Kd.R_elderB (by (with_reducible repeat (first | apply Kd.R_alloc | apply Kd.R_drewN | apply Kd.R_drew)); exact HO_6.out) gb296 (Nat.le_of_eq hg.symm)) hb); have n1_ := Am (Kd.R_below (Kd.R_elderB (by (with_reducible repeat (first | apply Kd.R_alloc | apply Kd.R_drewN | apply Kd.R_drew)); exact HO_18.out) gb296 (Nat.le_of_eq hg.symm)) hb); have hp0 := hpA BK290.out hb (fun _ _ h_ => by (with_reducible repeat (first | refine kN ?_ _ | refine kD ?_ | refine kA ?_ _)); exact h_); have hv := hvK (w := w) hb (by repeat (first | (with_reducible first | exact HB.out | apply bA | apply bN | apply bD | refine bX ?_ (by assumption)) | exact HB.out)); have n3_ := Am (bT hv hb); have n4_ := Am (hbox); have GW296 := kG hg hv; have GE296 := kG hg hv; have hp1 := hpK BK290.out hb (fun _ _ h_ => by (with_reducible repeat (first | refine kN ?_ _ | refine kD ?_ | refine kA ?_ _)); exact h_); have NB290_296 := kX hg (hp1 BK290.out); have NB296_290 := kY hg (hp1 BK290.out); clear HO_6; clear HO_18; clear HB; have HO_6 := n0_; have HO_18 := n1_; replace BK290 := hp0 BK290; have HB := n3_; have BK296 := n4_; clear n0_ n1_ n3_ n4_ hp0 hp1 hv; clear hb hbox hg; have hnb26 := NB296_290.out; have hnc26 := NB290_296.out; have hcz27_0 : w25.cell? ⟨gb296, 0, none⟩ = some (.int .i64 0) := (kC BK296.out 0).trans rfl; have hcz27_1 : w25.cell? ⟨gb296, 1, none⟩ = some (.int .i64 0) := (kC BK296.out 1).trans rfl; have hfz27_0 := kF BK296.out 0; have hfz27_1 := kF BK296.out 1; have p297 : 0 ≤ (0 : Int) := (by omega); have q297 : 0 < (t291.length : Int) := of_decide_eq_true (by first | (with_reducible assumption) | assumption); obtain ⟨ad297, e297, hx297_0, hx297_1⟩ := at_T26 (Kd.R_reads' HO_6.out).2.2 0 p297 q297; obtain rfl : ad295 = ad297 := (by injection e297); have qi297 : (0 < t291.length) = True := eq_true (by omega); (try rw [show ((0 : Int)).toNat = 0 from rfl] at hx297_0); (try rw [show 0 * 2 = 0 from rfl] at hx297_0); (try rw [Addr.add_zero'] at hx297_0); (try rw [show ((0 : Int)).toNat = 0 from rfl] at hx297_1); (try rw [show 0 * 2 = 0 from rfl] at hx297_1); (try rw [Addr.add_zero'] at hx297_1); have hn297_0 : ad295.block ≠ gb296 := Kd.own_blk (Kd.R_away HO_6.out (fun _ hk => hk.2)); have hn297_1 : ad295.block ≠ gb296 := Kd.own_blk (Kd.R_away HO_6.out (fun _ hk => hk.2)); replace hx297_0 := (cell_far (p := ⟨gb296, 0, none⟩) (by first | (rw [add_block]; exact hn297_0) | (show (Addr.add _ _).block ≠ _; rw [add_block]; exact hn297_0) | exact hn297_0) (.int .i64 ((rd_T26 t291 x20_1).f0))).trans hx297_0; replace hx297_1 := (cell_far (p := ⟨gb296, 0, none⟩) (by first | (rw [add_block]; exact hn297_0) | (show (Addr.add _ _).block ≠ _; rw [add_block]; exact hn297_0) | exact hn297_0) (.int .i64 ((rd_T26 t291 x20_1).f0))).trans hx297_1; replace hx297_0 := (cell_far (p := ⟨gb296, 1, none⟩) (by first | (rw [add_block]; exact hn297_1) | (show (Addr.add _ _).block ≠ _; rw [add_block]; exact hn297_1) | exact hn297_1) (.int .i64 ((rd_T26 t291 x20_1).f1))).trans hx297_0; replace hx297_1 := (cell_far (p := ⟨gb296, 1, none⟩) (by first | (rw [add_block]; exact hn297_1) | (show (Addr.add _ _).block ≠ _; rw [add_block]; exact hn297_1) | exact hn297_1) (.int .i64 ((rd_T26 t291 x20_1).f1))).trans hx297_1; (try have hy297_0 := fun (n_ : Nat) => (show ((((w25.drewN n_).setCell ⟨gb296, 0, none⟩ (.int .i64 ((rd_T26 t291 x20_1).f0))).setCell ⟨gb296, 1, none⟩ (.int .i64 ((rd_T26 t291 x20_1).f1)))).cell? _ = some _ from hx297_0)); (try have hy297_1 := fun (n_ : Nat) => (show ((((w25.drewN n_).setCell ⟨gb296, 0, none⟩ (.int .i64 ((rd_T26 t291 x20_1).f0))).setCell ⟨gb296, 1, none⟩ (.int .i64 ((rd_T26 t291 x20_1).f1)))).cell? _ = some _ from hx297_1)); clear hn297_0; clear hn297_1; replace p297 := eq_true p297; replace q297 := eq_true q297))
        repeat (go_quiet (first | ((with_reducible refine gate_dst (N := 9) rfl ?_); (try (refine gate_guard (by rfl) ?_; dsimp only)); refine box_event ?hg (N := 9) ?hd (cs := #[.int .i64 0, .int .i64 0]) (t := 26) ?hr ?_; (case hd => rfl); (case hg => rfl); (case hr => first | (go_simp; done) | (go_simp; rfl)); intro gb296 hg w25 hbox hb; have n0_ := Am (Kd.R_below (Kd.R_elderB (by (with_reducible repeat (first | apply Kd.R_alloc | apply Kd.R_drewN | apply Kd.R_drew)); exact HO_6.out) gb296 (Nat.le_of_eq hg.symm)) hb); have n1_ := Am (Kd.R_below (Kd.R_elderB (by (with_reducible repeat (first | apply Kd.R_alloc | apply Kd.R_drewN | apply Kd.R_drew)); exact HO_18.out) gb296 (Nat.le_of_eq hg.symm)) hb); have hp0 := hpA BK290.out hb (fun _ _ h_ => by (with_reducible repeat (first | refine kN ?_ _ | refine kD ?_ | refine kA ?_ _)); exact h_); have hv := hvK (w := w) hb (by repeat (first | (with_reducible first | exact HB.out | apply bA | apply bN | apply bD | refine bX ?_ (by assumption)) | exact HB.out)); have n3_ := Am (bT hv hb); have n4_ := Am (hbox); have GW296 := kG hg hv; have GE296 := kG hg hv; have hp1 := hpK BK290.out hb (fun _ _ h_ => by (with_reducible repeat (first | refine kN ?_ _ | refine kD ?_ | refine kA ?_ _)); exact h_); have NB290_296 := kX hg (hp1 BK290.out); have NB296_290 := kY hg (hp1 BK290.out); clear HO_6; clear HO_18; clear HB; have HO_6 := n0_; have HO_18 := n1_; replace BK290 := hp0 BK290; have HB := n3_; have BK296 := n4_; clear n0_ n1_ n3_ n4_ hp0 hp1 hv; clear hb hbox hg; have hnb26 := NB296_290.out; have hnc26 := NB290_296.out; have hcz27_0 : w25.cell? ⟨gb296, 0, none⟩ = some (.int .i64 0) := (kC BK296.out 0).trans rfl; have hcz27_1 : w25.cell? ⟨gb296, 1, none⟩ = some (.int .i64 0) := (kC BK296.out 1).trans rfl; have hfz27_0 := kF BK296.out 0; have hfz27_1 := kF BK296.out 1; have p297 : 0 ≤ (0 : Int) := (by omega); have q297 : 0 < (t291.length : Int) := of_decide_eq_true (by first | (with_reducible assumption) | assumption); obtain ⟨ad297, e297, hx297_0, hx297_1⟩ := at_T26 (Kd.R_reads' HO_6.out).2.2 0 p297 q297; obtain rfl : ad295 = ad297 := (by injection e297); have qi297 : (0 < t291.length) = True := eq_true (by omega); (try rw [show ((0 : Int)).toNat = 0 from rfl] at hx297_0); (try rw [show 0 * 2 = 0 from rfl] at hx297_0); (try rw [Addr.add_zero'] at hx297_0); (try rw [show ((0 : Int)).toNat = 0 from rfl] at hx297_1); (try rw [show 0 * 2 = 0 from rfl] at hx297_1); (try rw [Addr.add_zero'] at hx297_1); have hn297_0 : ad295.block ≠ gb296 := Kd.own_blk (Kd.R_away HO_6.out (fun _ hk => hk.2)); have hn297_1 : ad295.block ≠ gb296 := Kd.own_blk (Kd.R_away HO_6.out (fun _ hk => hk.2)); replace hx297_0 := (cell_far (p := ⟨gb296, 0, none⟩) (by first | (rw [add_block]; exact hn297_0) | (show (Addr.add _ _).block ≠ _; rw [add_block]; exact hn297_0) | exact hn297_0) (.int .i64 ((rd_T26 t291 x20_1).f0))).trans hx297_0; replace hx297_1 := (cell_far (p := ⟨gb296, 0, none⟩) (by first | (rw [add_block]; exact hn297_0) | (show (Addr.add _ _).block ≠ _; rw [add_block]; exact hn297_0) | exact hn297_0) (.int .i64 ((rd_T26 t291 x20_1).f0))).trans hx297_1; replace hx297_0 := (cell_far (p := ⟨gb296, 1, none⟩) (by first | (rw [add_block]; exact hn297_1) | (show (Addr.add _ _).block ≠ _; rw [add_block]; exact hn297_1) | exact hn297_1) (.int .i64 ((rd_T26 t291 x20_1).f1))).trans hx297_0; replace hx297_1 := (cell_far (p := ⟨gb296, 1, none⟩) (by first | (rw [add_block]; exact hn297_1) | (show (Addr.add _ _).block ≠ _; rw [add_block]; exact hn297_1) | exact hn297_1) (.int .i64 ((rd_T26 t291 x20_1).f1))).trans hx297_1; (try have hy297_0 := fun (n_ : Nat) => (show ((((w25.drewN n_).setCell ⟨gb296, 0, none⟩ (.int .i64 ((rd_T26 t291 x20_1).f0))).setCell ⟨gb296, 1, none⟩ (.int .i64 ((rd_T26 t291 x20_1).f1)))).cell? _ = some _ from hx297_0)); (try have hy297_1 := fun (n_ : Nat) => (show ((((w25.drewN n_).setCell ⟨gb296, 0, none⟩ (.int .i64 ((rd_T26 t291 x20_1).f0))).setCell ⟨gb296, 1, none⟩ (.int .i64 ((rd_T26 t291 x20_1).f1)))).cell? _ = some _ from hx297_1)); clear hn297_0; clear hn297_1; replace p297 := eq_true p297; replace q297 := eq_true q297)); try go_wp2_with (first | ((with_reducible refine gate_dst (N := 9) rfl ?_); (try (refine gate_guard (by rfl) ?_; dsimp only)); refine box_event ?hg (N := 9) ?hd (cs := #[.int .i64 0, .int .i64 0]) (t := 26) ?hr ?_; (case hd => rfl); (case hg => rfl); (case hr => first | (go_simp; done) | (go_simp; rfl)); intro gb296 hg w25 hbox hb; have n0_ := Am (Kd.R_below (Kd.R_elderB (by (with_reducible repeat (first | apply Kd.R_alloc | apply Kd.R_drewN | apply Kd.R_drew)); exact HO_6.out) gb296 (Nat.le_of_eq hg.symm)) hb); have n1_ := Am (Kd.R_below (Kd.R_elderB (by (with_reducible repeat (first | apply Kd.R_alloc | apply Kd.R_drewN | apply Kd.R_drew)); exact HO_18.out) gb296 (Nat.le_of_eq hg.symm)) hb); have n2_ := Am (kB (g := gb290) (o := .cells #[.int .i64 a1_0, .int .i64 a1_1] 26 (0, 0)) (by (with_reducible repeat (first | refine kN ?_ _ | refine kD ?_ | refine kA ?_ _)); exact BK290.out) hb); have n3_ := Am (bT (by repeat (first | (with_reducible first | exact HB.out | apply bA | apply bN | apply bD | refine bX ?_ (by assumption)) | exact HB.out)) hb); have n4_ := Am (hbox); have n5_ := Am ((by rw [hg]; exact (bZ (by repeat (first | (with_reducible first | exact HB.out | apply bA | apply bN | apply bD | refine bX ?_ (by assumption)) | exact HB.out))) : w.heap.size ≤ gb296)); have n6_ := Am ((by rw [hg]; exact (bZ (by repeat (first | (with_reducible first | exact HB.out | apply bA | apply bN | apply bD | refine bX ?_ (by assumption)) | exact HB.out))) : w.heap.size ≤ gb296)); have n7_ := Am ((by rw [hg]; exact Nat.ne_of_lt (kL (g := gb290) (o := .cells #[.int .i64 a1_0, .int .i64 a1_1] 26 (0, 0)) (by (with_reducible repeat (first | refine kN ?_ _ | refine kD ?_ | refine kA ?_ _)); exact BK290.out)) : gb290 ≠ gb296)); have n8_ := Am ((by rw [hg]; exact Nat.ne_of_gt (kL (g := gb290) (o := .cells #[.int .i64 a1_0, .int .i64 a1_1] 26 (0, 0)) (by (with_reducible repeat (first | refine kN ?_ _ | refine kD ?_ | refine kA ?_ _)); exact BK290.out)) : gb296 ≠ gb290)); clear HO_6; clear HO_18; clear BK290; clear HB; have HO_6 := n0_; have HO_18 := n1_; have BK290 := n2_; have HB := n3_; have BK296 := n4_; have GW296 := n5_; have GE296 := n6_; have NB290_296 := n7_; have NB296_290 := n8_; clear n0_ n1_ n2_ n3_ n4_ n5_ n6_ n7_ n8_; clear hb hbox hg; have hnb26 := NB296_290.out; have hnc26 := NB290_296.out; have hcz27_0 : w25.cell? ⟨gb296, 0, none⟩ = some (.int .i64 0) := (kC BK296.out 0).trans rfl; have hcz27_1 : w25.cell? ⟨gb296, 1, none⟩ = some (.int .i64 0) := (kC BK296.out 1).trans rfl; have hfz27_0 := kF BK296.out 0; have hfz27_1 := kF BK296.out 1; have p297 : 0 ≤ (0 : Int) := (by omega); have q297 : 0 < (t291.length : Int) := of_decide_eq_true (by first | (with_reducible assumption) | assumption); obtain ⟨ad297, e297, hx297_0, hx297_1⟩ := at_T26 (Kd.R_reads' HO_6.out).2.2 0 p297 q297; obtain rfl : ad295 = ad297 := (by injection e297); have qi297 : (0 < t291.length) = True := eq_true (by omega); (try rw [show ((0 : Int)).toNat = 0 from rfl] at hx297_0); (try rw [show 0 * 2 = 0 from rfl] at hx297_0); (try rw [Addr.add_zero'] at hx297_0); (try rw [show ((0 : Int)).toNat = 0 from rfl] at hx297_1); (try rw [show 0 * 2 = 0 from rfl] at hx297_1); (try rw [Addr.add_zero'] at hx297_1); have hn297_0 : ad295.block ≠ gb296 := Kd.own_blk (Kd.R_away HO_6.out (fun _ hk => hk.2)); have hn297_1 : ad295.block ≠ gb296 := Kd.own_blk (Kd.R_away HO_6.out (fun _ hk => hk.2)); replace hx297_0 := (cell_far (p := ⟨gb296, 0, none⟩) (by first | (rw [add_block]; exact hn297_0) | (show (Addr.add _ _).block ≠ _; rw [add_block]; exact hn297_0) | exact hn297_0) (.int .i64 ((rd_T26 t291 x20_1).f0))).trans hx297_0; replace hx297_1 := (cell_far (p := ⟨gb296, 0, none⟩) (by first | (rw [add_block]; exact hn297_0) | (show (Addr.add _ _).block ≠ _; rw [add_block]; exact hn297_0) | exact hn297_0) (.int .i64 ((rd_T26 t291 x20_1).f0))).trans hx297_1; replace hx297_0 := (cell_far (p := ⟨gb296, 1, none⟩) (by first | (rw [add_block]; exact hn297_1) | (show (Addr.add _ _).block ≠ _; rw [add_block]; exact hn297_1) | exact hn297_1) (.int .i64 ((rd_T26 t291 x20_1).f1))).trans hx297_0; replace hx297_1 := (cell_far (p := ⟨gb296, 1, none⟩) (by first | (rw [add_block]; exact hn297_1) | (show (Addr.add _ _).block ≠ _; rw [add_block]; exact hn297_1) | exact hn297_1) (.int .i64 ((rd_T26 t291 x20_1).f1))).trans hx297_1; (try have hy297_0 := fun (n_ : Nat) => (show ((((w25.drewN n_).setCell ⟨gb296, 0, none⟩ (.int .i64 ((rd_T26 t291 x20_1).f0))).setCell ⟨gb296, 1, none⟩ (.int .i64 ((rd_T26 t291 x20_1).f1)))).cell? _ = some _ from hx297_0)); (try have hy297_1 := fun (n_ : Nat) => (show ((((w25.drewN n_).setCell ⟨gb296, 0, none⟩ (.int .i64 ((rd_T26 t291 x20_1).f0))).setCell ⟨gb296, 1, none⟩ (.int .i64 ((rd_T26 t291 x20_1).f1)))).cell? _ = some _ from hx297_1)); clear hn297_0; clear hn297_1; replace p297 := eq_true p297; replace q297 := eq_true q297)))
        go_roundg k1
        case measure => have := HK1.out; omega
        case rel => exact ⟨(wrap64 (x20_1 + 1)), (by first | rfl | (simp; done) | (simp [*]; done)), H', ⟨by have := HK1.out; omega⟩, ⟨by (with_reducible repeat (first | apply Kd.R_alloc | apply Kd.R_drewN | apply Kd.R_drew)); exact Kd.R_mono (Kd.R_far (p := ⟨gb296, 1, none⟩) (Kd.R_far (p := ⟨gb296, 0, none⟩) (Kd.R_mono HO_6.out (fun k_ hk => (⟨hk, hk.2⟩ : _ ∧ k_ ≠ gb296))) (fun _ hk => hk.2) (.int .i64 ((rd_T26 t291 x20_1).f0))) (fun _ hk => hk.2) (.int .i64 ((rd_T26 t291 x20_1).f1))) (fun _ hk => hk.1.1)⟩, ⟨by (with_reducible repeat (first | apply Kd.R_alloc | apply Kd.R_drewN | apply Kd.R_drew)); exact Kd.R_mono (Kd.R_far (p := ⟨gb296, 1, none⟩) (Kd.R_far (p := ⟨gb296, 0, none⟩) (Kd.R_mono HO_18.out (fun k_ hk => (⟨hk, hk.2⟩ : _ ∧ k_ ≠ gb296))) (fun _ hk => hk.2) (.int .i64 ((rd_T26 t291 x20_1).f0))) (fun _ hk => hk.2) (.int .i64 ((rd_T26 t291 x20_1).f1))) (fun _ hk => hk.1.1)⟩, ⟨by (with_reducible repeat (first | refine kN ?_ _ | refine kD ?_ | refine kA ?_ _)); refine kR ?_ NB290_296.out _; (with_reducible repeat (first | refine kN ?_ _ | refine kD ?_ | refine kA ?_ _)); refine kR ?_ NB290_296.out _; (with_reducible repeat (first | refine kN ?_ _ | refine kD ?_ | refine kA ?_ _)); exact BK290.out⟩, ⟨by repeat (first | (with_reducible first | exact HB.out | apply bA | apply bN | apply bD | refine bX ?_ (by assumption)) | exact HB.out)⟩⟩
       rw [if_neg c12] at H
       exact absurd H (by simp)
      rw [if_neg c11] at H
      exact absurd H (by simp)
     rw [if_neg c10] at H
     exact absurd H (by simp)
    rw [if_neg c9] at H
    have c9b0 : decide (x20_1 < (t291.length : Int)) = false := decide_eq_false c9
    clear c9
    simp only [Option.some.injEq, Prod.mk.injEq] at H
    obtain ⟨rfl, rfl⟩ := H
    go_wp2
    repeat (go_quiet (fail); try go_wp2)
    go_ret2
    exact ⟨by first | rfl | (simp [errW_none, errW_some] <;> rfl) | (simp [*, errW_none, errW_some] <;> rfl), by repeat (first | (with_reducible first | exact HB.out | apply bA | apply bN | apply bD | refine bX ?_ (by assumption)) | exact HB.out)⟩
 replace c4 := Bool.eq_false_iff.mpr c4
 subst c4
 have H1 : (some (false, false)) = some (r1, r2) := by rw [if_neg (show ¬ (false = true) by decide)] at H; exact H
 clear H
 have H := H1
 clear H1
 simp only [Option.some.injEq, Prod.mk.injEq] at H
 obtain ⟨rfl, rfl⟩ := H
 go_enter Try.func40, Try.ntmps40
 go_wp2_with (first | ((with_reducible refine gate_dst (N := 3) rfl ?_); (try (refine gate_guard (by rfl) ?_; dsimp only)); refine box_event ?hg (N := 3) ?hd (cs := #[.int .i64 a1_0, .int .i64 a1_1]) (t := 26) ?hr ?_; (case hd => rfl); (case hg => rfl); (case hr => first | (go_simp; done) | (go_simp; rfl)); intro gb290 hg w28 hbox hb; have hv := hvK (w := w) hb (by repeat (first | (with_reducible first | exact HB.out | apply bA | apply bN | apply bD) | exact HB.out)); have n0_ := Am (bT hv hb); have n1_ := Am (hbox); have GW290 := kG hg hv; have GE290 := kG hg hv; clear HB; have HB := n0_; have BK290 := n1_; clear n0_ n1_ hv; clear hb hbox hg; have hcz29_0 := c20 BK290.out; have hcz29_1 := c21 BK290.out; have hfz29_0 := kF BK290.out 0; have hfz29_1 := kF BK290.out 1) | (go_at_call 43; (with_reducible refine (impl_GapsAt.calls k _ _ l0 a1_0 a1_1 t291 false _ ?side1 ?side2 A3.out).mono ?_); (case side1 => repeat (first | exact (Kd.C_below HR0.out HB.out) | (with_reducible refine Kd.C_alloc ?_ _) | (with_reducible refine Kd.C_drewN ?_ _) | (with_reducible refine Kd.C_drew ?_))); (case side2 => exact HC0.out); rintro e w30 ⟨v292, rfl, ho0, hb⟩; have n0_ := Am (Kd.R_lower (Kd.R_newB ho0 (g := gb290) (o := .cells #[.int .i64 a1_0, .int .i64 a1_1] 26 (0, 0)) (by (with_reducible repeat (first | refine kN ?_ _ | refine kD ?_ | refine kA ?_ _)); exact BK290.out)) (bZ (by repeat (first | (with_reducible first | exact HB.out | apply bA | apply bN | apply bD | refine bX ?_ (by assumption)) | exact HB.out)))); have hp0 := hpA BK290.out hb (fun _ _ h_ => by (with_reducible repeat (first | refine kN ?_ _ | refine kD ?_ | refine kA ?_ _)); exact h_); have hv := hvK (w := w) hb (by repeat (first | (with_reducible first | exact HB.out | apply bA | apply bN | apply bD | refine bX ?_ (by assumption)) | exact HB.out)); have n2_ := Am (bT hv hb); clear HB; have HO293 := n0_; replace BK290 := hp0 BK290; have HB := n2_; clear n0_ n2_ hp0 hv; (try clear hb); (try clear ho0)))
 repeat (go_quiet (first | ((with_reducible refine gate_dst (N := 3) rfl ?_); (try (refine gate_guard (by rfl) ?_; dsimp only)); refine box_event ?hg (N := 3) ?hd (cs := #[.int .i64 a1_0, .int .i64 a1_1]) (t := 26) ?hr ?_; (case hd => rfl); (case hg => rfl); (case hr => first | (go_simp; done) | (go_simp; rfl)); intro gb290 hg w28 hbox hb; have hv := hvK (w := w) hb (by repeat (first | (with_reducible first | exact HB.out | apply bA | apply bN | apply bD) | exact HB.out)); have n0_ := Am (bT hv hb); have n1_ := Am (hbox); have GW290 := kG hg hv; have GE290 := kG hg hv; clear HB; have HB := n0_; have BK290 := n1_; clear n0_ n1_ hv; clear hb hbox hg; have hcz29_0 := c20 BK290.out; have hcz29_1 := c21 BK290.out; have hfz29_0 := kF BK290.out 0; have hfz29_1 := kF BK290.out 1) | (go_at_call 43; (with_reducible refine (impl_GapsAt.calls k _ _ l0 a1_0 a1_1 t291 false _ ?side1 ?side2 A3.out).mono ?_); (case side1 => repeat (first | exact (Kd.C_below HR0.out HB.out) | (with_reducible refine Kd.C_alloc ?_ _) | (with_reducible refine Kd.C_drewN ?_ _) | (with_reducible refine Kd.C_drew ?_))); (case side2 => exact HC0.out); rintro e w30 ⟨v292, rfl, ho0, hb⟩; have n0_ := Am (Kd.R_lower (Kd.R_newB ho0 (g := gb290) (o := .cells #[.int .i64 a1_0, .int .i64 a1_1] 26 (0, 0)) (by (with_reducible repeat (first | refine kN ?_ _ | refine kD ?_ | refine kA ?_ _)); exact BK290.out)) (bZ (by repeat (first | (with_reducible first | exact HB.out | apply bA | apply bN | apply bD | refine bX ?_ (by assumption)) | exact HB.out)))); have hp0 := hpA BK290.out hb (fun _ _ h_ => by (with_reducible repeat (first | refine kN ?_ _ | refine kD ?_ | refine kA ?_ _)); exact h_); have hv := hvK (w := w) hb (by repeat (first | (with_reducible first | exact HB.out | apply bA | apply bN | apply bD | refine bX ?_ (by assumption)) | exact HB.out)); have n2_ := Am (bT hv hb); clear HB; have HO293 := n0_; replace BK290 := hp0 BK290; have HB := n2_; clear n0_ n2_ hp0 hv; (try clear hb); (try clear ho0))); try go_wp2_with (first | ((with_reducible refine gate_dst (N := 3) rfl ?_); (try (refine gate_guard (by rfl) ?_; dsimp only)); refine box_event ?hg (N := 3) ?hd (cs := #[.int .i64 a1_0, .int .i64 a1_1]) (t := 26) ?hr ?_; (case hd => rfl); (case hg => rfl); (case hr => first | (go_simp; done) | (go_simp; rfl)); intro gb290 hg w28 hbox hb; have n0_ := Am (bT (by repeat (first | (with_reducible first | exact HB.out | apply bA | apply bN | apply bD) | exact HB.out)) hb); have n1_ := Am (hbox); have n2_ := Am ((by rw [hg]; exact (bZ (by repeat (first | (with_reducible first | exact HB.out | apply bA | apply bN | apply bD) | exact HB.out))) : w.heap.size ≤ gb290)); have n3_ := Am ((by rw [hg]; exact (bZ (by repeat (first | (with_reducible first | exact HB.out | apply bA | apply bN | apply bD) | exact HB.out))) : w.heap.size ≤ gb290)); clear HB; have HB := n0_; have BK290 := n1_; have GW290 := n2_; have GE290 := n3_; clear n0_ n1_ n2_ n3_; clear hb hbox hg; have hcz29_0 := c20 BK290.out; have hcz29_1 := c21 BK290.out; have hfz29_0 := kF BK290.out 0; have hfz29_1 := kF BK290.out 1) | (go_at_call 43; (with_reducible refine (impl_GapsAt.calls k _ _ l0 a1_0 a1_1 t291 false _ ?side1 ?side2 A3.out).mono ?_); (case side1 => repeat (first | exact (Kd.C_below HR0.out HB.out) | (with_reducible refine Kd.C_alloc ?_ _) | (with_reducible refine Kd.C_drewN ?_ _) | (with_reducible refine Kd.C_drew ?_))); (case side2 => exact HC0.out); rintro e w30 ⟨v292, rfl, ho0, hb⟩; have n0_ := Am (Kd.R_lower (Kd.R_newB ho0 (g := gb290) (o := .cells #[.int .i64 a1_0, .int .i64 a1_1] 26 (0, 0)) (by (with_reducible repeat (first | refine kN ?_ _ | refine kD ?_ | refine kA ?_ _)); exact BK290.out)) (bZ (by repeat (first | (with_reducible first | exact HB.out | apply bA | apply bN | apply bD | refine bX ?_ (by assumption)) | exact HB.out)))); have n1_ := Am (kB (g := gb290) (o := .cells #[.int .i64 a1_0, .int .i64 a1_1] 26 (0, 0)) (by (with_reducible repeat (first | refine kN ?_ _ | refine kD ?_ | refine kA ?_ _)); exact BK290.out) hb); have n2_ := Am (bT (by repeat (first | (with_reducible first | exact HB.out | apply bA | apply bN | apply bD | refine bX ?_ (by assumption)) | exact HB.out)) hb); clear BK290; clear HB; have HO293 := n0_; have BK290 := n1_; have HB := n2_; clear n0_ n1_ n2_; (try clear hb); (try clear hb2); (try clear hk); (try clear hi); (try clear ho0))))
 go_ret2
 exact ⟨by first | rfl | (simp [errW_none, errW_some] <;> rfl) | (simp [*, errW_none, errW_some] <;> rfl), by repeat (first | (with_reducible first | exact HB.out | apply bA | apply bN | apply bD | refine bX ?_ (by assumption)) | exact HB.out)⟩
/-! ### laws_eqTurn: function 14 -/
def laws_eqTurn.f (a0_0 : Int) (a0_1 : Int) (a1_0 : Int) (a1_1 : Int) : Option (Bool) := if a0_0 = a1_0 then (if a0_1 = a1_1 then (some true) else (some false)) else (some false)
set_option maxHeartbeats 8000000 in
set_option maxRecDepth 100000 in
theorem laws_eqTurn.calls (a0_0 : Int) (a0_1 : Int) (a1_0 : Int) (a1_1 : Int) (r : Bool) (w : World) (h : laws_eqTurn.f a0_0 a0_1 a1_0 a1_1 = some r) :
  Calls Try.prog 14 #[.agg #[.int .i64 a0_0, .int .i64 a0_1], .agg #[.int .i64 a1_0, .int .i64 a1_1]] w fun e w' => e = .returned (.bool r) ∧ Below w.heap.size w w' := by
 have hu26 := Try.underlying26
 have HB := Am (Below.refl w.heap.size w)
 have H : (if a0_0 = a1_0 then (if a0_1 = a1_1 then (some true) else (some false)) else (some false)) = some r := h
 clear h
 by_cases c3 : a0_0 = a1_0
 ·rw [if_pos c3] at H
  have c3b0 : (a0_0 == a1_0) = true := beq_iff_eq.mpr c3
  have c3b1 : (a0_0 != a1_0) = false := bne_eq_false_iff_eq.mpr c3
  clear c3
  by_cases c4 : a0_1 = a1_1
  ·rw [if_pos c4] at H
   have c4b0 : (a0_1 == a1_1) = true := beq_iff_eq.mpr c4
   have c4b1 : (a0_1 != a1_1) = false := bne_eq_false_iff_eq.mpr c4
   clear c4
   obtain rfl := Option.some.inj H
   go_enter Try.func14, Try.ntmps14
   go_wp2_with (first | ((with_reducible refine gate_dst (N := 2) rfl ?_); refine box_event ?hg (N := 2) ?hd (cs := #[.int .i64 a0_0, .int .i64 a0_1]) (t := 26) ?hr ?_; (case hd => rfl); (case hg => rfl); (case hr => first | (go_simp; done) | (go_simp; rfl)); intro gb298 hg w5 hbox hb; have hv := hvK (w := w) hb (by repeat (first | (with_reducible first | exact HB.out | apply bA | apply bN | apply bD) | exact HB.out)); have n0_ := Am (bT hv hb); have n1_ := Am (hbox); have GW298 := kG hg hv; have GE298 := kG hg hv; clear HB; have HB := n0_; have BK298 := n1_; clear n0_ n1_ hv; clear hb hbox hg) | ((with_reducible refine gate_dst (N := 3) rfl ?_); refine box_event ?hg (N := 3) ?hd (cs := #[.int .i64 a1_0, .int .i64 a1_1]) (t := 26) ?hr ?_; (case hd => rfl); (case hg => rfl); (case hr => first | (go_simp; done) | (go_simp; rfl)); intro gb299 hg w6 hbox hb; have hp0 := hpA BK298.out hb (fun _ _ h_ => by (with_reducible repeat (first | refine kN ?_ _ | refine kD ?_ | refine kA ?_ _)); exact h_); have hv := hvK (w := w) hb (by repeat (first | (with_reducible first | exact HB.out | apply bA | apply bN | apply bD | refine bX ?_ (by assumption)) | exact HB.out)); have n1_ := Am (bT hv hb); have n2_ := Am (hbox); have GW299 := kG hg hv; have GE299 := kG hg hv; have hp1 := hpK BK298.out hb (fun _ _ h_ => by (with_reducible repeat (first | refine kN ?_ _ | refine kD ?_ | refine kA ?_ _)); exact h_); have NB298_299 := kX hg (hp1 BK298.out); have NB299_298 := kY hg (hp1 BK298.out); clear HB; replace BK298 := hp0 BK298; have HB := n1_; have BK299 := n2_; clear n1_ n2_ hp0 hp1 hv; clear hb hbox hg; have hnb7 := NB298_299.out; have hnc7 := NB299_298.out; have hcz8_0 := c20 BK298.out; have hcz8_1 := c21 BK298.out; have hfz8_0 := kF BK298.out 0; have hfz8_1 := kF BK298.out 1; have hcz9_0 : w6.cell? ⟨gb299, 0, none⟩ = some (.int .i64 a1_0) := (kC BK299.out 0).trans rfl; have hcz9_1 : w6.cell? ⟨gb299, 1, none⟩ = some (.int .i64 a1_1) := (kC BK299.out 1).trans rfl; have hfz9_0 := kF BK299.out 0; have hfz9_1 := kF BK299.out 1))
   go_ret
   exact ⟨by first | rfl | (simp [errW_none, errW_some] <;> rfl) | (simp [*, errW_none, errW_some] <;> rfl), by repeat (first | (with_reducible first | exact HB.out | apply bA | apply bN | apply bD | refine bX ?_ (by assumption)) | exact HB.out)⟩
  rw [if_neg c4] at H
  have c4b0 : (a0_1 == a1_1) = false := beq_eq_false_iff_ne.mpr c4
  have c4b1 : (a0_1 != a1_1) = true := bne_iff_ne.mpr c4
  obtain rfl := Option.some.inj H
  go_enter Try.func14, Try.ntmps14
  go_wp2_with (first | ((with_reducible refine gate_dst (N := 2) rfl ?_); refine box_event ?hg (N := 2) ?hd (cs := #[.int .i64 a0_0, .int .i64 a0_1]) (t := 26) ?hr ?_; (case hd => rfl); (case hg => rfl); (case hr => first | (go_simp; done) | (go_simp; rfl)); intro gb298 hg w10 hbox hb; have hv := hvK (w := w) hb (by repeat (first | (with_reducible first | exact HB.out | apply bA | apply bN | apply bD) | exact HB.out)); have n0_ := Am (bT hv hb); have n1_ := Am (hbox); have GW298 := kG hg hv; have GE298 := kG hg hv; clear HB; have HB := n0_; have BK298 := n1_; clear n0_ n1_ hv; clear hb hbox hg) | ((with_reducible refine gate_dst (N := 3) rfl ?_); refine box_event ?hg (N := 3) ?hd (cs := #[.int .i64 a1_0, .int .i64 a1_1]) (t := 26) ?hr ?_; (case hd => rfl); (case hg => rfl); (case hr => first | (go_simp; done) | (go_simp; rfl)); intro gb299 hg w11 hbox hb; have hp0 := hpA BK298.out hb (fun _ _ h_ => by (with_reducible repeat (first | refine kN ?_ _ | refine kD ?_ | refine kA ?_ _)); exact h_); have hv := hvK (w := w) hb (by repeat (first | (with_reducible first | exact HB.out | apply bA | apply bN | apply bD | refine bX ?_ (by assumption)) | exact HB.out)); have n1_ := Am (bT hv hb); have n2_ := Am (hbox); have GW299 := kG hg hv; have GE299 := kG hg hv; have hp1 := hpK BK298.out hb (fun _ _ h_ => by (with_reducible repeat (first | refine kN ?_ _ | refine kD ?_ | refine kA ?_ _)); exact h_); have NB298_299 := kX hg (hp1 BK298.out); have NB299_298 := kY hg (hp1 BK298.out); clear HB; replace BK298 := hp0 BK298; have HB := n1_; have BK299 := n2_; clear n1_ n2_ hp0 hp1 hv; clear hb hbox hg; have hnb12 := NB298_299.out; have hnc12 := NB299_298.out; have hcz13_0 := c20 BK298.out; have hcz13_1 := c21 BK298.out; have hfz13_0 := kF BK298.out 0; have hfz13_1 := kF BK298.out 1; have hcz14_0 : w11.cell? ⟨gb299, 0, none⟩ = some (.int .i64 a1_0) := (kC BK299.out 0).trans rfl; have hcz14_1 : w11.cell? ⟨gb299, 1, none⟩ = some (.int .i64 a1_1) := (kC BK299.out 1).trans rfl; have hfz14_0 := kF BK299.out 0; have hfz14_1 := kF BK299.out 1))
  go_ret
  exact ⟨by first | rfl | (simp [errW_none, errW_some] <;> rfl) | (simp [*, errW_none, errW_some] <;> rfl), by repeat (first | (with_reducible first | exact HB.out | apply bA | apply bN | apply bD | refine bX ?_ (by assumption)) | exact HB.out)⟩
 rw [if_neg c3] at H
 have c3b0 : (a0_0 == a1_0) = false := beq_eq_false_iff_ne.mpr c3
 have c3b1 : (a0_0 != a1_0) = true := bne_iff_ne.mpr c3
 obtain rfl := Option.some.inj H
 go_enter Try.func14, Try.ntmps14
 go_wp2_with (first | ((with_reducible refine gate_dst (N := 2) rfl ?_); refine box_event ?hg (N := 2) ?hd (cs := #[.int .i64 a0_0, .int .i64 a0_1]) (t := 26) ?hr ?_; (case hd => rfl); (case hg => rfl); (case hr => first | (go_simp; done) | (go_simp; rfl)); intro gb298 hg w15 hbox hb; have hv := hvK (w := w) hb (by repeat (first | (with_reducible first | exact HB.out | apply bA | apply bN | apply bD) | exact HB.out)); have n0_ := Am (bT hv hb); have n1_ := Am (hbox); have GW298 := kG hg hv; have GE298 := kG hg hv; clear HB; have HB := n0_; have BK298 := n1_; clear n0_ n1_ hv; clear hb hbox hg) | ((with_reducible refine gate_dst (N := 3) rfl ?_); refine box_event ?hg (N := 3) ?hd (cs := #[.int .i64 a1_0, .int .i64 a1_1]) (t := 26) ?hr ?_; (case hd => rfl); (case hg => rfl); (case hr => first | (go_simp; done) | (go_simp; rfl)); intro gb299 hg w16 hbox hb; have hp0 := hpA BK298.out hb (fun _ _ h_ => by (with_reducible repeat (first | refine kN ?_ _ | refine kD ?_ | refine kA ?_ _)); exact h_); have hv := hvK (w := w) hb (by repeat (first | (with_reducible first | exact HB.out | apply bA | apply bN | apply bD | refine bX ?_ (by assumption)) | exact HB.out)); have n1_ := Am (bT hv hb); have n2_ := Am (hbox); have GW299 := kG hg hv; have GE299 := kG hg hv; have hp1 := hpK BK298.out hb (fun _ _ h_ => by (with_reducible repeat (first | refine kN ?_ _ | refine kD ?_ | refine kA ?_ _)); exact h_); have NB298_299 := kX hg (hp1 BK298.out); have NB299_298 := kY hg (hp1 BK298.out); clear HB; replace BK298 := hp0 BK298; have HB := n1_; have BK299 := n2_; clear n1_ n2_ hp0 hp1 hv; clear hb hbox hg; have hnb17 := NB298_299.out; have hnc17 := NB299_298.out; have hcz18_0 := c20 BK298.out; have hcz18_1 := c21 BK298.out; have hfz18_0 := kF BK298.out 0; have hfz18_1 := kF BK298.out 1; have hcz19_0 : w16.cell? ⟨gb299, 0, none⟩ = some (.int .i64 a1_0) := (kC BK299.out 0).trans rfl; have hcz19_1 : w16.cell? ⟨gb299, 1, none⟩ = some (.int .i64 a1_1) := (kC BK299.out 1).trans rfl; have hfz19_0 := kF BK299.out 0; have hfz19_1 := kF BK299.out 1))
 go_ret
 exact ⟨by first | rfl | (simp [errW_none, errW_some] <;> rfl) | (simp [*, errW_none, errW_some] <;> rfl), by repeat (first | (with_reducible first | exact HB.out | apply bA | apply bN | apply bD | refine bX ?_ (by assumption)) | exact HB.out)⟩
/-! ### laws_eqHand: function 80 -/
def laws_eqHand.f (a0_0 : Int) (a0_1 : Int) (a0_2 : Int) (a1_0 : Int) (a1_1 : Int) (a1_2 : Int) : Option (Bool) := (laws_eqTurn.f a0_0 a0_1 a1_0 a1_1).bind fun t302 => (if t302 = true then (if a0_2 = a1_2 then (some true) else (some false)) else (some false))
set_option maxHeartbeats 8000000 in
set_option maxRecDepth 100000 in
theorem laws_eqHand.calls (a0_0 : Int) (a0_1 : Int) (a0_2 : Int) (a1_0 : Int) (a1_1 : Int) (a1_2 : Int) (r : Bool) (w : World) (h : laws_eqHand.f a0_0 a0_1 a0_2 a1_0 a1_1 a1_2 = some r) :
  Calls Try.prog 80 #[.agg #[.int .i64 a0_0, .int .i64 a0_1, .int .i64 a0_2], .agg #[.int .i64 a1_0, .int .i64 a1_1, .int .i64 a1_2]] w fun e w' => e = .returned (.bool r) ∧ Below w.heap.size w w' := by
 have hu30 := Try.underlying30; have hu26 := Try.underlying26
 have HB := Am (Below.refl w.heap.size w)
 have H : ((laws_eqTurn.f a0_0 a0_1 a1_0 a1_1).bind fun t302 => (if t302 = true then (if a0_2 = a1_2 then (some true) else (some false)) else (some false))) = some r := h
 clear h
 replace H := Option.bind_eq_some_iff.mp H
 obtain ⟨t302, A30, H⟩ := H
 try dsimp only at H
 have A3 := Am A30
 clear A30
 by_cases c4 : t302 = true
 ·subst c4
  have H1 : (if a0_2 = a1_2 then (some true) else (some false)) = some r := by rw [if_pos rfl] at H; exact H
  clear H
  have H := H1
  clear H1
  by_cases c5 : a0_2 = a1_2
  ·rw [if_pos c5] at H
   have c5b0 : (a0_2 == a1_2) = true := beq_iff_eq.mpr c5
   have c5b1 : (a0_2 != a1_2) = false := bne_eq_false_iff_eq.mpr c5
   clear c5
   obtain rfl := Option.some.inj H
   go_enter Try.func80, Try.ntmps80
   go_wp2_with (first | ((with_reducible refine gate_dst (N := 2) rfl ?_); refine box_event ?hg (N := 2) ?hd (cs := #[.int .i64 a0_0, .int .i64 a0_1, .int .i64 a0_2]) (t := 30) ?hr ?_; (case hd => rfl); (case hg => rfl); (case hr => first | (go_simp; done) | (go_simp; rfl)); intro gb300 hg w6 hbox hb; have hv := hvK (w := w) hb (by repeat (first | (with_reducible first | exact HB.out | apply bA | apply bN | apply bD) | exact HB.out)); have n0_ := Am (bT hv hb); have n1_ := Am (hbox); have GW300 := kG hg hv; have GE300 := kG hg hv; clear HB; have HB := n0_; have BK300 := n1_; clear n0_ n1_ hv; clear hb hbox hg) | ((with_reducible refine gate_dst (N := 3) rfl ?_); refine box_event ?hg (N := 3) ?hd (cs := #[.int .i64 a1_0, .int .i64 a1_1, .int .i64 a1_2]) (t := 30) ?hr ?_; (case hd => rfl); (case hg => rfl); (case hr => first | (go_simp; done) | (go_simp; rfl)); intro gb301 hg w7 hbox hb; have hp0 := hpA BK300.out hb (fun _ _ h_ => by (with_reducible repeat (first | refine kN ?_ _ | refine kD ?_ | refine kA ?_ _)); exact h_); have hv := hvK (w := w) hb (by repeat (first | (with_reducible first | exact HB.out | apply bA | apply bN | apply bD | refine bX ?_ (by assumption)) | exact HB.out)); have n1_ := Am (bT hv hb); have n2_ := Am (hbox); have GW301 := kG hg hv; have GE301 := kG hg hv; have hp1 := hpK BK300.out hb (fun _ _ h_ => by (with_reducible repeat (first | refine kN ?_ _ | refine kD ?_ | refine kA ?_ _)); exact h_); have NB300_301 := kX hg (hp1 BK300.out); have NB301_300 := kY hg (hp1 BK300.out); clear HB; replace BK300 := hp0 BK300; have HB := n1_; have BK301 := n2_; clear n1_ n2_ hp0 hp1 hv; clear hb hbox hg; have hnb8 := NB300_301.out; have hnc8 := NB301_300.out; have hcz9_0 := c30 BK300.out; have hcz9_1 := c31 BK300.out; have hcz9_2 := c32 BK300.out; have hfz9_0 := kF BK300.out 0; have hfz9_1 := kF BK300.out 1; have hfz9_2 := kF BK300.out 2; have hcz10_0 := c30 BK301.out; have hcz10_1 := c31 BK301.out; have hcz10_2 := c32 BK301.out; have hfz10_0 := kF BK301.out 0; have hfz10_1 := kF BK301.out 1; have hfz10_2 := kF BK301.out 2) | ((with_reducible refine gate_callee (f := 14) rfl ?_); refine goesL_ (some 9) rfl rfl Try.func14 (by kernel_rfl) rfl #[.agg #[.int .i64 a0_0, .int .i64 a0_1], .agg #[.int .i64 a1_0, .int .i64 a1_1]] rfl (by (try simp only [List.map_toArray, List.map_cons, List.map_nil]); first | done | rfl | (simp only [List.length_drop, List.length_take]; rfl)) ?_; (with_reducible refine (laws_eqTurn.calls a0_0 a0_1 a1_0 a1_1 true _ A3.out).mono ?_); rintro e w11 ⟨rfl, hb⟩; refine ⟨_, rfl, ?_⟩; have hp0 := hpA BK300.out hb (fun _ _ h_ => by (with_reducible repeat (first | refine kN ?_ _ | refine kD ?_ | refine kA ?_ _)); exact h_); have hv := hvK (w := w) hb (by repeat (first | (with_reducible first | exact HB.out | apply bA | apply bN | apply bD | refine bX ?_ (by assumption)) | exact HB.out)); have n2_ := Am (bT hv hb); clear HB; replace BK300 := hp0 BK300; replace BK301 := hp0 BK301; have HB := n2_; clear n2_ hp0 hv; (try clear hb); have hcz12_0 := c30 BK300.out; have hcz12_1 := c31 BK300.out; have hcz12_2 := c32 BK300.out; have hfz12_0 := kF BK300.out 0; have hfz12_1 := kF BK300.out 1; have hfz12_2 := kF BK300.out 2; have hcz13_0 := c30 BK301.out; have hcz13_1 := c31 BK301.out; have hcz13_2 := c32 BK301.out; have hfz13_0 := kF BK301.out 0; have hfz13_1 := kF BK301.out 1; have hfz13_2 := kF BK301.out 2))
   go_ret
   exact ⟨by first | rfl | (simp [errW_none, errW_some] <;> rfl) | (simp [*, errW_none, errW_some] <;> rfl), by repeat (first | (with_reducible first | exact HB.out | apply bA | apply bN | apply bD | refine bX ?_ (by assumption)) | exact HB.out)⟩
  rw [if_neg c5] at H
  have c5b0 : (a0_2 == a1_2) = false := beq_eq_false_iff_ne.mpr c5
  have c5b1 : (a0_2 != a1_2) = true := bne_iff_ne.mpr c5
  obtain rfl := Option.some.inj H
  go_enter Try.func80, Try.ntmps80
  go_wp2_with (first | ((with_reducible refine gate_dst (N := 2) rfl ?_); refine box_event ?hg (N := 2) ?hd (cs := #[.int .i64 a0_0, .int .i64 a0_1, .int .i64 a0_2]) (t := 30) ?hr ?_; (case hd => rfl); (case hg => rfl); (case hr => first | (go_simp; done) | (go_simp; rfl)); intro gb300 hg w14 hbox hb; have hv := hvK (w := w) hb (by repeat (first | (with_reducible first | exact HB.out | apply bA | apply bN | apply bD) | exact HB.out)); have n0_ := Am (bT hv hb); have n1_ := Am (hbox); have GW300 := kG hg hv; have GE300 := kG hg hv; clear HB; have HB := n0_; have BK300 := n1_; clear n0_ n1_ hv; clear hb hbox hg) | ((with_reducible refine gate_dst (N := 3) rfl ?_); refine box_event ?hg (N := 3) ?hd (cs := #[.int .i64 a1_0, .int .i64 a1_1, .int .i64 a1_2]) (t := 30) ?hr ?_; (case hd => rfl); (case hg => rfl); (case hr => first | (go_simp; done) | (go_simp; rfl)); intro gb301 hg w15 hbox hb; have hp0 := hpA BK300.out hb (fun _ _ h_ => by (with_reducible repeat (first | refine kN ?_ _ | refine kD ?_ | refine kA ?_ _)); exact h_); have hv := hvK (w := w) hb (by repeat (first | (with_reducible first | exact HB.out | apply bA | apply bN | apply bD | refine bX ?_ (by assumption)) | exact HB.out)); have n1_ := Am (bT hv hb); have n2_ := Am (hbox); have GW301 := kG hg hv; have GE301 := kG hg hv; have hp1 := hpK BK300.out hb (fun _ _ h_ => by (with_reducible repeat (first | refine kN ?_ _ | refine kD ?_ | refine kA ?_ _)); exact h_); have NB300_301 := kX hg (hp1 BK300.out); have NB301_300 := kY hg (hp1 BK300.out); clear HB; replace BK300 := hp0 BK300; have HB := n1_; have BK301 := n2_; clear n1_ n2_ hp0 hp1 hv; clear hb hbox hg; have hnb16 := NB300_301.out; have hnc16 := NB301_300.out; have hcz17_0 := c30 BK300.out; have hcz17_1 := c31 BK300.out; have hcz17_2 := c32 BK300.out; have hfz17_0 := kF BK300.out 0; have hfz17_1 := kF BK300.out 1; have hfz17_2 := kF BK300.out 2; have hcz18_0 := c30 BK301.out; have hcz18_1 := c31 BK301.out; have hcz18_2 := c32 BK301.out; have hfz18_0 := kF BK301.out 0; have hfz18_1 := kF BK301.out 1; have hfz18_2 := kF BK301.out 2) | ((with_reducible refine gate_callee (f := 14) rfl ?_); refine goesL_ (some 9) rfl rfl Try.func14 (by kernel_rfl) rfl #[.agg #[.int .i64 a0_0, .int .i64 a0_1], .agg #[.int .i64 a1_0, .int .i64 a1_1]] rfl (by (try simp only [List.map_toArray, List.map_cons, List.map_nil]); first | done | rfl | (simp only [List.length_drop, List.length_take]; rfl)) ?_; (with_reducible refine (laws_eqTurn.calls a0_0 a0_1 a1_0 a1_1 true _ A3.out).mono ?_); rintro e w19 ⟨rfl, hb⟩; refine ⟨_, rfl, ?_⟩; have hp0 := hpA BK300.out hb (fun _ _ h_ => by (with_reducible repeat (first | refine kN ?_ _ | refine kD ?_ | refine kA ?_ _)); exact h_); have hv := hvK (w := w) hb (by repeat (first | (with_reducible first | exact HB.out | apply bA | apply bN | apply bD | refine bX ?_ (by assumption)) | exact HB.out)); have n2_ := Am (bT hv hb); clear HB; replace BK300 := hp0 BK300; replace BK301 := hp0 BK301; have HB := n2_; clear n2_ hp0 hv; (try clear hb); have hcz20_0 := c30 BK300.out; have hcz20_1 := c31 BK300.out; have hcz20_2 := c32 BK300.out; have hfz20_0 := kF BK300.out 0; have hfz20_1 := kF BK300.out 1; have hfz20_2 := kF BK300.out 2; have hcz21_0 := c30 BK301.out; have hcz21_1 := c31 BK301.out; have hcz21_2 := c32 BK301.out; have hfz21_0 := kF BK301.out 0; have hfz21_1 := kF BK301.out 1; have hfz21_2 := kF BK301.out 2))
  go_ret
  exact ⟨by first | rfl | (simp [errW_none, errW_some] <;> rfl) | (simp [*, errW_none, errW_some] <;> rfl), by repeat (first | (with_reducible first | exact HB.out | apply bA | apply bN | apply bD | refine bX ?_ (by assumption)) | exact HB.out)⟩
 replace c4 := Bool.eq_false_iff.mpr c4
 subst c4
 have H1 : (some false) = some r := by rw [if_neg (show ¬ (false = true) by decide)] at H; exact H
 clear H
 have H := H1
 clear H1
 obtain rfl := Option.some.inj H
 go_enter Try.func80, Try.ntmps80
 go_wp2_with (first | ((with_reducible refine gate_dst (N := 2) rfl ?_); refine box_event ?hg (N := 2) ?hd (cs := #[.int .i64 a0_0, .int .i64 a0_1, .int .i64 a0_2]) (t := 30) ?hr ?_; (case hd => rfl); (case hg => rfl); (case hr => first | (go_simp; done) | (go_simp; rfl)); intro gb300 hg w22 hbox hb; have hv := hvK (w := w) hb (by repeat (first | (with_reducible first | exact HB.out | apply bA | apply bN | apply bD) | exact HB.out)); have n0_ := Am (bT hv hb); have n1_ := Am (hbox); have GW300 := kG hg hv; have GE300 := kG hg hv; clear HB; have HB := n0_; have BK300 := n1_; clear n0_ n1_ hv; clear hb hbox hg) | ((with_reducible refine gate_dst (N := 3) rfl ?_); refine box_event ?hg (N := 3) ?hd (cs := #[.int .i64 a1_0, .int .i64 a1_1, .int .i64 a1_2]) (t := 30) ?hr ?_; (case hd => rfl); (case hg => rfl); (case hr => first | (go_simp; done) | (go_simp; rfl)); intro gb301 hg w23 hbox hb; have hp0 := hpA BK300.out hb (fun _ _ h_ => by (with_reducible repeat (first | refine kN ?_ _ | refine kD ?_ | refine kA ?_ _)); exact h_); have hv := hvK (w := w) hb (by repeat (first | (with_reducible first | exact HB.out | apply bA | apply bN | apply bD | refine bX ?_ (by assumption)) | exact HB.out)); have n1_ := Am (bT hv hb); have n2_ := Am (hbox); have GW301 := kG hg hv; have GE301 := kG hg hv; have hp1 := hpK BK300.out hb (fun _ _ h_ => by (with_reducible repeat (first | refine kN ?_ _ | refine kD ?_ | refine kA ?_ _)); exact h_); have NB300_301 := kX hg (hp1 BK300.out); have NB301_300 := kY hg (hp1 BK300.out); clear HB; replace BK300 := hp0 BK300; have HB := n1_; have BK301 := n2_; clear n1_ n2_ hp0 hp1 hv; clear hb hbox hg; have hnb24 := NB300_301.out; have hnc24 := NB301_300.out; have hcz25_0 := c30 BK300.out; have hcz25_1 := c31 BK300.out; have hcz25_2 := c32 BK300.out; have hfz25_0 := kF BK300.out 0; have hfz25_1 := kF BK300.out 1; have hfz25_2 := kF BK300.out 2; have hcz26_0 := c30 BK301.out; have hcz26_1 := c31 BK301.out; have hcz26_2 := c32 BK301.out; have hfz26_0 := kF BK301.out 0; have hfz26_1 := kF BK301.out 1; have hfz26_2 := kF BK301.out 2) | ((with_reducible refine gate_callee (f := 14) rfl ?_); refine goesL_ (some 9) rfl rfl Try.func14 (by kernel_rfl) rfl #[.agg #[.int .i64 a0_0, .int .i64 a0_1], .agg #[.int .i64 a1_0, .int .i64 a1_1]] rfl (by (try simp only [List.map_toArray, List.map_cons, List.map_nil]); first | done | rfl | (simp only [List.length_drop, List.length_take]; rfl)) ?_; (with_reducible refine (laws_eqTurn.calls a0_0 a0_1 a1_0 a1_1 false _ A3.out).mono ?_); rintro e w27 ⟨rfl, hb⟩; refine ⟨_, rfl, ?_⟩; have hp0 := hpA BK300.out hb (fun _ _ h_ => by (with_reducible repeat (first | refine kN ?_ _ | refine kD ?_ | refine kA ?_ _)); exact h_); have hv := hvK (w := w) hb (by repeat (first | (with_reducible first | exact HB.out | apply bA | apply bN | apply bD | refine bX ?_ (by assumption)) | exact HB.out)); have n2_ := Am (bT hv hb); clear HB; replace BK300 := hp0 BK300; replace BK301 := hp0 BK301; have HB := n2_; clear n2_ hp0 hv; (try clear hb)))
 go_ret
 exact ⟨by first | rfl | (simp [errW_none, errW_some] <;> rfl) | (simp [*, errW_none, errW_some] <;> rfl), by repeat (first | (with_reducible first | exact HB.out | apply bA | apply bN | apply bD | refine bX ?_ (by assumption)) | exact HB.out)⟩
/-! ### laws_eqHandS: function 41 -/
def laws_eqHandS.l0 : Nat → List (S30) → List (S30) → Int → Option (Bool)
 | 0, _, _, _ => none
 | k + 1, x0, x1, x5 => if x5 < (x0.length : Int) then (if 0 ≤ x5 then (if x5 < (x1.length : Int) then ((laws_eqHand.f ((rd_T30 x0 x5).f0.f0) ((rd_T30 x0 x5).f0.f1) ((rd_T30 x0 x5).f1) ((rd_T30 x1 x5).f0.f0) ((rd_T30 x1 x5).f0.f1) ((rd_T30 x1 x5).f1)).bind fun t305 => (if t305 = true then (laws_eqHandS.l0 k x0 x1 (wrap64 (x5 + 1))) else (some false))) else (none)) else (none)) else (some true)
def laws_eqHandS.f (k : Nat) (l0 : List (S30)) (l1 : List (S30)) : Option (Bool) := if (l0.length : Int) = (l1.length : Int) then (laws_eqHandS.l0 k l0 l1 0) else (some false)
theorem laws_eqHandS.mono_l : ∀ k, (∀ y0 y1 y2, LeO (laws_eqHandS.l0 k y0 y1 y2) (laws_eqHandS.l0 (k + 1) y0 y1 y2))
 | 0 => fun _ _ _ r h => by simp [laws_eqHandS.l0] at h
 | k + 1 => by
  have ih0 := laws_eqHandS.mono_l k
  ·intro y0 y1 y2
   unfold laws_eqHandS.l0
   repeat' first
   | (with_reducible exact ih0 _ _ _)
   | (with_reducible exact LeO.refl _)
   | (with_reducible exact LeO.none _)
   | (with_reducible refine LeO.ite ?_ ?_)
   | (with_reducible refine LeO.bind ?_ (fun _ => ?_))
   | exact ih0 _ _ _
   | exact LeO.none _
   | refine LeO.ite ?_ ?_
   | refine LeO.bind ?_ (fun _ => ?_)
theorem laws_eqHandS.mono : ∀ a0 a1 k, LeO (laws_eqHandS.f k a0 a1) (laws_eqHandS.f (k + 1) a0 a1) := by
 intro a0 a1 k
 have ih0 := laws_eqHandS.mono_l k
 unfold laws_eqHandS.f
 repeat' first
   | (with_reducible exact ih0 _ _ _)
   | (with_reducible exact LeO.refl _)
   | (with_reducible exact LeO.none _)
   | (with_reducible refine LeO.ite ?_ ?_)
   | (with_reducible refine LeO.bind ?_ (fun _ => ?_))
   | exact ih0 _ _ _
   | exact LeO.none _
   | refine LeO.ite ?_ ?_
   | refine LeO.bind ?_ (fun _ => ?_)
def laws_eqHandS.T6 : Bool × List (List Nat × List Nat) := (true, [([], []), ([], []), ([0, 1], [0, 1]), ([2], [2]), ([], []), ([], []), ([4, 5], [4, 5]), ([6], [6]), ([3, 7], [3, 7]), ([8], [8])])
def laws_eqHandS.B6 : List Nat := [0, 0, 3, 7, 0, 0, 48, 112, 255, 511]
theorem laws_eqHandS.tab6 : rtab .any (opsOf Try.f41 6) = laws_eqHandS.T6 := by kernel_rfl
theorem laws_eqHandS.bits6 : waitsOk laws_eqHandS.T6.2 laws_eqHandS.B6 = true := by kernel_rfl
set_option maxHeartbeats 8000000 in
set_option maxRecDepth 100000 in
theorem laws_eqHandS.calls (k : Nat) (A0 : Option Addr) (c0 : Nat) (l0 : List (S30)) (A1 : Option Addr) (c1 : Nat) (l1 : List (S30)) (r : Bool) (w : World) (hr0 : Kd.C k30 w A0 l0.length l0) (hc0 : l0.length ≤ c0) (hr1 : Kd.C k30 w A1 l1.length l1) (hc1 : l1.length ≤ c1) (h : laws_eqHandS.f k l0 l1 = some r) :
  Calls Try.prog 41 #[.slice A0 l0.length c0, .slice A1 l1.length c1] w fun e w' => e = .returned (.bool r) ∧ Below w.heap.size w w' := by
 have hu30 := Try.underlying30
 have HR0 := Am hr0
 have HC0 := Am hc0
 clear hr0 hc0
 have HR1 := Am hr1
 have HC1 := Am hc1
 clear hr1 hc1
 have HB := Am (Below.refl w.heap.size w)
 have H : (if (l0.length : Int) = (l1.length : Int) then (laws_eqHandS.l0 k l0 l1 0) else (some false)) = some r := h
 clear h
 by_cases c3 : (l0.length : Int) = (l1.length : Int)
 ·rw [if_pos c3] at H
  have c3b0 : ((l0.length : Int) == (l1.length : Int)) = true := beq_iff_eq.mpr c3
  have c3b1 : ((l0.length : Int) != (l1.length : Int)) = false := bne_eq_false_iff_eq.mpr c3
  have c3b2 : (l0.length == l1.length) = true := by first | simpa using c3 | (simp at c3 ⊢; omega)
  clear c3
  have H' := Am H
  clear H
  go_enter Try.func41, Try.ntmps41
  go_wp2
  go_loopg [5] k (fun kq v5 w' => ∃ (x5_1 : Int), v5 = .int .i64 x5_1 ∧ Aside0 (laws_eqHandS.l0 kq l0 l1 x5_1 = some r) ∧ Aside0 (kq ≤ k) ∧ Aside0 (Below w.heap.size w w'))
  case atStart => exact ⟨(0), (by first | rfl | (simp; done) | (simp [*]; done)), H', ⟨Nat.le_refl _⟩, ⟨by repeat (first | (with_reducible first | exact HB.out | apply bA | apply bN | apply bD) | exact HB.out)⟩⟩
  case round =>
   clear H'
   (try clear c1); (try clear c3); (try clear c3b0); (try clear c3b1); (try clear c3b2)
   obtain ⟨x5_1, rfl, HA, HK1, HB⟩ := hrel
   cases gk with
   | zero => exact absurd HA.out (by simp [laws_eqHandS.l0])
   | succ k1 =>
    have H := HA.out
    clear HA
    simp only [laws_eqHandS.l0] at H
    by_cases c4 : x5_1 < (l0.length : Int)
    ·rw [if_pos c4] at H
     have c4b0 : decide (x5_1 < (l0.length : Int)) = true := decide_eq_true c4
     clear c4
     by_cases c5 : 0 ≤ x5_1
     ·rw [if_pos c5] at H
      have c5b0 : decide (0 ≤ x5_1) = true := decide_eq_true c5
      clear c5
      by_cases c6 : x5_1 < (l1.length : Int)
      ·rw [if_pos c6] at H
       have c6b0 : decide (x5_1 < (l1.length : Int)) = true := decide_eq_true c6
       clear c6
       replace H := Option.bind_eq_some_iff.mp H
       obtain ⟨t305, A70, H⟩ := H
       try dsimp only at H
       have A7 := Am A70
       clear A70
       by_cases c8 : t305 = true
       ·subst c8
        have H1 : (laws_eqHandS.l0 k1 l0 l1 (wrap64 (x5_1 + 1))) = some r := by rw [if_pos rfl] at H; exact H
        clear H
        have H := H1
        clear H1
        have H' := Am H
        clear H
        try go_wp2
        have n0_ := Am (bD HB.out)
        clear HB
        have HB := n0_
        clear n0_
        have p303 : 0 ≤ (x5_1 : Int) := of_decide_eq_true (by first | (with_reducible assumption) | assumption)
        have q303 : x5_1 < (l0.length : Int) := of_decide_eq_true (by first | (with_reducible assumption) | assumption)
        obtain ⟨ad303, e303, hx303_0, hx303_1, hx303_2⟩ := at_T30 HR0.out x5_1 p303 q303
        have hw303_2 := hx303_2; have hw303_1 := hx303_1; have hw303_0 := hx303_0
        cases e303
        replace hx303_0 := (HB.out.cell (World.block_lt_of_cell? w _ hx303_0)).trans hx303_0
        replace hx303_1 := (HB.out.cell (World.block_lt_of_cell? w _ hx303_1)).trans hx303_1
        replace hx303_2 := (HB.out.cell (World.block_lt_of_cell? w _ hx303_2)).trans hx303_2
        replace p303 := eq_true p303
        replace q303 := eq_true q303
        have p304 : 0 ≤ (x5_1 : Int) := of_decide_eq_true (by first | (with_reducible assumption) | assumption)
        have q304 : x5_1 < (l1.length : Int) := of_decide_eq_true (by first | (with_reducible assumption) | assumption)
        obtain ⟨ad304, e304, hx304_0, hx304_1, hx304_2⟩ := at_T30 HR1.out x5_1 p304 q304
        have hw304_2 := hx304_2; have hw304_1 := hx304_1; have hw304_0 := hx304_0
        cases e304
        replace hx304_0 := (HB.out.cell (World.block_lt_of_cell? w _ hx304_0)).trans hx304_0
        replace hx304_1 := (HB.out.cell (World.block_lt_of_cell? w _ hx304_1)).trans hx304_1
        replace hx304_2 := (HB.out.cell (World.block_lt_of_cell? w _ hx304_2)).trans hx304_2
        replace p304 := eq_true p304
        replace q304 := eq_true q304
        refine start_ (n := 10) (S := fun w' => w'.cell? (ad303.add ((x5_1).toNat * 3)) = some (.int .i64 ((rd_T30 l0 x5_1).f0.f0)) ∧ w'.cell? ⟨(ad303.add ((x5_1).toNat * 3)).block, (ad303.add ((x5_1).toNat * 3)).off + 1, none⟩ = some (.int .i64 ((rd_T30 l0 x5_1).f0.f1)) ∧ w'.cell? ⟨(ad303.add ((x5_1).toNat * 3)).block, (ad303.add ((x5_1).toNat * 3)).off + 2, none⟩ = some (.int .i64 ((rd_T30 l0 x5_1).f1)) ∧ w'.cell? (ad304.add ((x5_1).toNat * 3)) = some (.int .i64 ((rd_T30 l1 x5_1).f0.f0)) ∧ w'.cell? ⟨(ad304.add ((x5_1).toNat * 3)).block, (ad304.add ((x5_1).toNat * 3)).off + 1, none⟩ = some (.int .i64 ((rd_T30 l1 x5_1).f0.f1)) ∧ w'.cell? ⟨(ad304.add ((x5_1).toNat * 3)).block, (ad304.add ((x5_1).toNat * 3)).off + 2, none⟩ = some (.int .i64 ((rd_T30 l1 x5_1).f1))) (ds := []) (pT 10 0) (by kernel_rfl) rfl rfl ⟨((HB.out.cell (World.block_lt_of_cell? w _ hw303_0)).trans hw303_0), ((HB.out.cell (World.block_lt_of_cell? w _ hw303_1)).trans hw303_1), ((HB.out.cell (World.block_lt_of_cell? w _ hw303_2)).trans hw303_2), ((HB.out.cell (World.block_lt_of_cell? w _ hw304_0)).trans hw304_0), ((HB.out.cell (World.block_lt_of_cell? w _ hw304_1)).trans hw304_1), ((HB.out.cell (World.block_lt_of_cell? w _ hw304_2)).trans hw304_2)⟩ (fun hHeld => ?_); refine with_tabW laws_eqHandS.tab6 laws_eqHandS.bits6 (fun HT_ HW_ => ?_)
        generalize wr.drew = w9 at HB hx303_0 hx303_1 hx303_2 hx304_0 hx304_1 hx304_2 hHeld ⊢
        iterate 3
         refine pI (v := ?_) (a' := ?_) rfl (any_of HT_.out (by kernel_rfl)) (fun _ _ _ h => h) (Or.inl ⟨by rfl, ?_⟩) ?_ ?_
         rotate_left
         ·intro w'
          go_simp
          with_reducible rfl
         rotate_left
         ·show Act.put _ (some _) _ = _
          simp only [Act.put, List.setIfInBounds_toArray, List.set_cons_zero, List.set_cons_succ, i64_w, i32_w]
          rfl
        refine pure_ (i := 4) (N := some 21) (v := ?_) (a' := ?_) #[true, true, true, false, true, false, false, false, false, false] rfl rfl (any_of HT_.out (by kernel_rfl)) (fun _ _ _ h => h) (Or.inl ⟨by rfl, ?_⟩) ?_ ?_
        rotate_left
        ·intro w'
         go_simp
         with_reducible rfl
        rotate_left
        ·simp only [Act.put, List.setIfInBounds_toArray, List.set_cons_zero, List.set_cons_succ, i64_w, i32_w]
         rfl
        refine pure_ (i := 5) (N := some 22) (v := ?_) (a' := ?_) #[true, true, true, false, true, true, false, false, false, false] rfl rfl (any_of HT_.out (by kernel_rfl)) (fun _ _ _ h => h) (Or.inl ⟨by rfl, ?_⟩) ?_ ?_
        rotate_left
        ·intro w'
         go_simp
         with_reducible rfl
        rotate_left
        ·simp only [Act.put, List.setIfInBounds_toArray, List.set_cons_zero, List.set_cons_succ, i64_w, i32_w]
         rfl
        refine pure_ (i := 6) (N := some 23) (v := ?_) (a' := ?_) #[true, true, true, false, true, true, true, false, false, false] rfl rfl (any_of HT_.out (by kernel_rfl)) (fun _ _ _ h => h) (Or.inl ⟨by rfl, ?_⟩) ?_ ?_
        rotate_left
        ·intro w'
         go_simp
         with_reducible rfl
        rotate_left
        ·simp only [Act.put, List.setIfInBounds_toArray, List.set_cons_zero, List.set_cons_succ, i64_w, i32_w]
         rfl
        refine take_ (i := 3) (N := some 20) (v := ?_) (a' := ?_) (pT 10 7) rfl rfl (take_ofW HT_.out HW_.out (by kernel_rfl)) (fun _ _ _ h => h) (Or.inl ⟨by rfl, ?_⟩) hHeld ?_ ?_
        rotate_left
        ·rintro w' ⟨s0, s1, s2, s3, s4, s5⟩
         go_simp
         with_reducible rfl
        rotate_left
        ·simp only [Act.put, List.setIfInBounds_toArray, List.set_cons_zero, List.set_cons_succ, i64_w, i32_w]
         rfl
        refine tI (v := ?_) (a' := ?_) rfl (take_ofW HT_.out HW_.out (by kernel_rfl)) (fun _ _ _ h => h) (Or.inl ⟨by rfl, ?_⟩) hHeld ?_ ?_
        rotate_left
        ·rintro w' ⟨s0, s1, s2, s3, s4, s5⟩
         go_simp
         with_reducible rfl
        rotate_left
        ·show Act.put _ (some _) _ = _
         simp only [Act.put, List.setIfInBounds_toArray, List.set_cons_zero, List.set_cons_succ, i64_w, i32_w]
         rfl
        refine one_ (i := 8) (N := some 25) (pT 10 9) rfl rfl (one_of HT_.out (by kernel_rfl)) (by decide) (fun K hK => ?_)
        refine goes_ Try.func80 (by kernel_rfl) rfl #[.agg #[.int .i64 ((rd_T30 l0 x5_1).f0.f0), .int .i64 ((rd_T30 l0 x5_1).f0.f1), .int .i64 ((rd_T30 l0 x5_1).f1)], .agg #[.int .i64 ((rd_T30 l1 x5_1).f0.f0), .int .i64 ((rd_T30 l1 x5_1).f0.f1), .int .i64 ((rd_T30 l1 x5_1).f1)]] (by rfl) rfl rfl (by (try simp only [List.map_toArray, List.map_cons, List.map_nil]); first | done | rfl | (simp only [List.length_drop, List.length_take]; rfl)) ?_
        with_reducible refine (laws_eqHand.calls ((rd_T30 l0 x5_1).f0.f0) ((rd_T30 l0 x5_1).f0.f1) ((rd_T30 l0 x5_1).f1) ((rd_T30 l1 x5_1).f0.f0) ((rd_T30 l1 x5_1).f0.f1) ((rd_T30 l1 x5_1).f1) true _ A7.out).mono ?_
        rintro e w10 ⟨rfl, hb⟩
        refine ⟨_, rfl, ?_⟩
        have hv := hvK (w := w) hb (by repeat (first | (with_reducible first | exact HB.out | apply bA | apply bN | apply bD) | exact HB.out))
        have n0_ := Am (bT hv hb)
        clear HB
        have HB := n0_
        clear n0_ hv
        (try clear hb)
        refine hK.out _ _ ⟨((HB.out.cell (World.block_lt_of_cell? w _ hw303_0)).trans hw303_0), ((HB.out.cell (World.block_lt_of_cell? w _ hw303_1)).trans hw303_1), ((HB.out.cell (World.block_lt_of_cell? w _ hw303_2)).trans hw303_2), ((HB.out.cell (World.block_lt_of_cell? w _ hw304_0)).trans hw304_0), ((HB.out.cell (World.block_lt_of_cell? w _ hw304_1)).trans hw304_1), ((HB.out.cell (World.block_lt_of_cell? w _ hw304_2)).trans hw304_2)⟩ (fun hHeld => ?_)
        clear hK K
        refine norm_ (a' := ?_) ?_ ?_
        rotate_left
        ·show Act.put _ (some 25) _ = _
         simp only [Act.put, List.setIfInBounds_toArray, List.set_cons_zero, List.set_cons_succ, i64_w, i32_w]
         rfl
        refine pI (v := ?_) (a' := ?_) rfl (any_of HT_.out (by kernel_rfl)) (fun _ _ _ h => h) (Or.inl ⟨by rfl, ?_⟩) ?_ ?_
        rotate_left
        ·intro w'
         go_simp
         with_reducible rfl
        rotate_left
        ·show Act.put _ (some _) _ = _
         simp only [Act.put, List.setIfInBounds_toArray, List.set_cons_zero, List.set_cons_succ, i64_w, i32_w]
         rfl
        refine done_ (done_of HT_.out (by kernel_rfl)) ?_
        try go_wp2
        go_roundg k1
        case measure => have := HK1.out; omega
        case rel => exact ⟨(wrap64 (x5_1 + 1)), (by first | rfl | (simp; done) | (simp [*]; done)), H', ⟨by have := HK1.out; omega⟩, ⟨by repeat (first | (with_reducible first | exact HB.out | apply bA | apply bN | apply bD) | exact HB.out)⟩⟩
       replace c8 := Bool.eq_false_iff.mpr c8
       subst c8
       have H1 : (some false) = some r := by rw [if_neg (show ¬ (false = true) by decide)] at H; exact H
       clear H
       have H := H1
       clear H1
       obtain rfl := Option.some.inj H
       try go_wp2
       have n0_ := Am (bD HB.out)
       clear HB
       have HB := n0_
       clear n0_
       have p303 : 0 ≤ (x5_1 : Int) := of_decide_eq_true (by first | (with_reducible assumption) | assumption)
       have q303 : x5_1 < (l0.length : Int) := of_decide_eq_true (by first | (with_reducible assumption) | assumption)
       obtain ⟨ad303, e303, hx303_0, hx303_1, hx303_2⟩ := at_T30 HR0.out x5_1 p303 q303
       have hw303_2 := hx303_2; have hw303_1 := hx303_1; have hw303_0 := hx303_0
       cases e303
       replace hx303_0 := (HB.out.cell (World.block_lt_of_cell? w _ hx303_0)).trans hx303_0
       replace hx303_1 := (HB.out.cell (World.block_lt_of_cell? w _ hx303_1)).trans hx303_1
       replace hx303_2 := (HB.out.cell (World.block_lt_of_cell? w _ hx303_2)).trans hx303_2
       replace p303 := eq_true p303
       replace q303 := eq_true q303
       have p304 : 0 ≤ (x5_1 : Int) := of_decide_eq_true (by first | (with_reducible assumption) | assumption)
       have q304 : x5_1 < (l1.length : Int) := of_decide_eq_true (by first | (with_reducible assumption) | assumption)
       obtain ⟨ad304, e304, hx304_0, hx304_1, hx304_2⟩ := at_T30 HR1.out x5_1 p304 q304
       have hw304_2 := hx304_2; have hw304_1 := hx304_1; have hw304_0 := hx304_0
       cases e304
       replace hx304_0 := (HB.out.cell (World.block_lt_of_cell? w _ hx304_0)).trans hx304_0
       replace hx304_1 := (HB.out.cell (World.block_lt_of_cell? w _ hx304_1)).trans hx304_1
       replace hx304_2 := (HB.out.cell (World.block_lt_of_cell? w _ hx304_2)).trans hx304_2
       replace p304 := eq_true p304
       replace q304 := eq_true q304
       refine start_ (n := 10) (S := fun w' => w'.cell? (ad303.add ((x5_1).toNat * 3)) = some (.int .i64 ((rd_T30 l0 x5_1).f0.f0)) ∧ w'.cell? ⟨(ad303.add ((x5_1).toNat * 3)).block, (ad303.add ((x5_1).toNat * 3)).off + 1, none⟩ = some (.int .i64 ((rd_T30 l0 x5_1).f0.f1)) ∧ w'.cell? ⟨(ad303.add ((x5_1).toNat * 3)).block, (ad303.add ((x5_1).toNat * 3)).off + 2, none⟩ = some (.int .i64 ((rd_T30 l0 x5_1).f1)) ∧ w'.cell? (ad304.add ((x5_1).toNat * 3)) = some (.int .i64 ((rd_T30 l1 x5_1).f0.f0)) ∧ w'.cell? ⟨(ad304.add ((x5_1).toNat * 3)).block, (ad304.add ((x5_1).toNat * 3)).off + 1, none⟩ = some (.int .i64 ((rd_T30 l1 x5_1).f0.f1)) ∧ w'.cell? ⟨(ad304.add ((x5_1).toNat * 3)).block, (ad304.add ((x5_1).toNat * 3)).off + 2, none⟩ = some (.int .i64 ((rd_T30 l1 x5_1).f1))) (ds := []) (pT 10 0) (by kernel_rfl) rfl rfl ⟨((HB.out.cell (World.block_lt_of_cell? w _ hw303_0)).trans hw303_0), ((HB.out.cell (World.block_lt_of_cell? w _ hw303_1)).trans hw303_1), ((HB.out.cell (World.block_lt_of_cell? w _ hw303_2)).trans hw303_2), ((HB.out.cell (World.block_lt_of_cell? w _ hw304_0)).trans hw304_0), ((HB.out.cell (World.block_lt_of_cell? w _ hw304_1)).trans hw304_1), ((HB.out.cell (World.block_lt_of_cell? w _ hw304_2)).trans hw304_2)⟩ (fun hHeld => ?_); refine with_tabW laws_eqHandS.tab6 laws_eqHandS.bits6 (fun HT_ HW_ => ?_)
       generalize wr.drew = w11 at HB hx303_0 hx303_1 hx303_2 hx304_0 hx304_1 hx304_2 hHeld ⊢
       iterate 3
        refine pI (v := ?_) (a' := ?_) rfl (any_of HT_.out (by kernel_rfl)) (fun _ _ _ h => h) (Or.inl ⟨by rfl, ?_⟩) ?_ ?_
        rotate_left
        ·intro w'
         go_simp
         with_reducible rfl
        rotate_left
        ·show Act.put _ (some _) _ = _
         simp only [Act.put, List.setIfInBounds_toArray, List.set_cons_zero, List.set_cons_succ, i64_w, i32_w]
         rfl
       refine pure_ (i := 4) (N := some 21) (v := ?_) (a' := ?_) #[true, true, true, false, true, false, false, false, false, false] rfl rfl (any_of HT_.out (by kernel_rfl)) (fun _ _ _ h => h) (Or.inl ⟨by rfl, ?_⟩) ?_ ?_
       rotate_left
       ·intro w'
        go_simp
        with_reducible rfl
       rotate_left
       ·simp only [Act.put, List.setIfInBounds_toArray, List.set_cons_zero, List.set_cons_succ, i64_w, i32_w]
        rfl
       refine pure_ (i := 5) (N := some 22) (v := ?_) (a' := ?_) #[true, true, true, false, true, true, false, false, false, false] rfl rfl (any_of HT_.out (by kernel_rfl)) (fun _ _ _ h => h) (Or.inl ⟨by rfl, ?_⟩) ?_ ?_
       rotate_left
       ·intro w'
        go_simp
        with_reducible rfl
       rotate_left
       ·simp only [Act.put, List.setIfInBounds_toArray, List.set_cons_zero, List.set_cons_succ, i64_w, i32_w]
        rfl
       refine pure_ (i := 6) (N := some 23) (v := ?_) (a' := ?_) #[true, true, true, false, true, true, true, false, false, false] rfl rfl (any_of HT_.out (by kernel_rfl)) (fun _ _ _ h => h) (Or.inl ⟨by rfl, ?_⟩) ?_ ?_
       rotate_left
       ·intro w'
        go_simp
        with_reducible rfl
       rotate_left
       ·simp only [Act.put, List.setIfInBounds_toArray, List.set_cons_zero, List.set_cons_succ, i64_w, i32_w]
        rfl
       refine take_ (i := 3) (N := some 20) (v := ?_) (a' := ?_) (pT 10 7) rfl rfl (take_ofW HT_.out HW_.out (by kernel_rfl)) (fun _ _ _ h => h) (Or.inl ⟨by rfl, ?_⟩) hHeld ?_ ?_
       rotate_left
       ·rintro w' ⟨s0, s1, s2, s3, s4, s5⟩
        go_simp
        with_reducible rfl
       rotate_left
       ·simp only [Act.put, List.setIfInBounds_toArray, List.set_cons_zero, List.set_cons_succ, i64_w, i32_w]
        rfl
       refine tI (v := ?_) (a' := ?_) rfl (take_ofW HT_.out HW_.out (by kernel_rfl)) (fun _ _ _ h => h) (Or.inl ⟨by rfl, ?_⟩) hHeld ?_ ?_
       rotate_left
       ·rintro w' ⟨s0, s1, s2, s3, s4, s5⟩
        go_simp
        with_reducible rfl
       rotate_left
       ·show Act.put _ (some _) _ = _
        simp only [Act.put, List.setIfInBounds_toArray, List.set_cons_zero, List.set_cons_succ, i64_w, i32_w]
        rfl
       refine one_ (i := 8) (N := some 25) (pT 10 9) rfl rfl (one_of HT_.out (by kernel_rfl)) (by decide) (fun K hK => ?_)
       refine goes_ Try.func80 (by kernel_rfl) rfl #[.agg #[.int .i64 ((rd_T30 l0 x5_1).f0.f0), .int .i64 ((rd_T30 l0 x5_1).f0.f1), .int .i64 ((rd_T30 l0 x5_1).f1)], .agg #[.int .i64 ((rd_T30 l1 x5_1).f0.f0), .int .i64 ((rd_T30 l1 x5_1).f0.f1), .int .i64 ((rd_T30 l1 x5_1).f1)]] (by rfl) rfl rfl (by (try simp only [List.map_toArray, List.map_cons, List.map_nil]); first | done | rfl | (simp only [List.length_drop, List.length_take]; rfl)) ?_
       with_reducible refine (laws_eqHand.calls ((rd_T30 l0 x5_1).f0.f0) ((rd_T30 l0 x5_1).f0.f1) ((rd_T30 l0 x5_1).f1) ((rd_T30 l1 x5_1).f0.f0) ((rd_T30 l1 x5_1).f0.f1) ((rd_T30 l1 x5_1).f1) false _ A7.out).mono ?_
       rintro e w12 ⟨rfl, hb⟩
       refine ⟨_, rfl, ?_⟩
       have hv := hvK (w := w) hb (by repeat (first | (with_reducible first | exact HB.out | apply bA | apply bN | apply bD) | exact HB.out))
       have n0_ := Am (bT hv hb)
       clear HB
       have HB := n0_
       clear n0_ hv
       (try clear hb)
       refine hK.out _ _ ⟨((HB.out.cell (World.block_lt_of_cell? w _ hw303_0)).trans hw303_0), ((HB.out.cell (World.block_lt_of_cell? w _ hw303_1)).trans hw303_1), ((HB.out.cell (World.block_lt_of_cell? w _ hw303_2)).trans hw303_2), ((HB.out.cell (World.block_lt_of_cell? w _ hw304_0)).trans hw304_0), ((HB.out.cell (World.block_lt_of_cell? w _ hw304_1)).trans hw304_1), ((HB.out.cell (World.block_lt_of_cell? w _ hw304_2)).trans hw304_2)⟩ (fun hHeld => ?_)
       clear hK K
       refine norm_ (a' := ?_) ?_ ?_
       rotate_left
       ·show Act.put _ (some 25) _ = _
        simp only [Act.put, List.setIfInBounds_toArray, List.set_cons_zero, List.set_cons_succ, i64_w, i32_w]
        rfl
       refine pI (v := ?_) (a' := ?_) rfl (any_of HT_.out (by kernel_rfl)) (fun _ _ _ h => h) (Or.inl ⟨by rfl, ?_⟩) ?_ ?_
       rotate_left
       ·intro w'
        go_simp
        with_reducible rfl
       rotate_left
       ·show Act.put _ (some _) _ = _
        simp only [Act.put, List.setIfInBounds_toArray, List.set_cons_zero, List.set_cons_succ, i64_w, i32_w]
        rfl
       refine done_ (done_of HT_.out (by kernel_rfl)) ?_
       try go_wp2
       go_ret
       exact ⟨by first | rfl | (simp [errW_none, errW_some] <;> rfl) | (simp [*, errW_none, errW_some] <;> rfl), by repeat (first | (with_reducible first | exact HB.out | apply bA | apply bN | apply bD) | exact HB.out)⟩
      rw [if_neg c6] at H
      exact absurd H (by simp)
     rw [if_neg c5] at H
     exact absurd H (by simp)
    rw [if_neg c4] at H
    have c4b0 : decide (x5_1 < (l0.length : Int)) = false := decide_eq_false c4
    clear c4
    obtain rfl := Option.some.inj H
    go_wp2
    go_ret
    exact ⟨by first | rfl | (simp [errW_none, errW_some] <;> rfl) | (simp [*, errW_none, errW_some] <;> rfl), by repeat (first | (with_reducible first | exact HB.out | apply bA | apply bN | apply bD) | exact HB.out)⟩
 rw [if_neg c3] at H
 have c3b0 : ((l0.length : Int) == (l1.length : Int)) = false := beq_eq_false_iff_ne.mpr c3
 have c3b1 : ((l0.length : Int) != (l1.length : Int)) = true := bne_iff_ne.mpr c3
 have c3b2 : (l0.length == l1.length) = false := by first | simpa using c3 | (simp at c3 ⊢; omega)
 obtain rfl := Option.some.inj H
 go_enter Try.func41, Try.ntmps41
 go_wp2
 go_ret
 exact ⟨by first | rfl | (simp [errW_none, errW_some] <;> rfl) | (simp [*, errW_none, errW_some] <;> rfl), by repeat (first | (with_reducible first | exact HB.out | apply bA | apply bN | apply bD) | exact HB.out)⟩
end Go.Proofs.Ytioggbokjfdoaaa.PFnExactAreSpread
