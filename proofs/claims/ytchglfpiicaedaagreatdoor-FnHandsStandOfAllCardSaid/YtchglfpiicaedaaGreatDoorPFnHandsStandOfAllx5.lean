-- WRITTEN BY A PROGRAM OF THIS SESSION (wip/tools): its own text, not the kit's printed one.
import Derived.Test.YtchglfpiicaedaaGreatDoorItoa
import Derived.Shelf.Strconv.Itoa3
import Derived.Lib.SmallJoins
import Derived.Lib.LaidTab
import Derived.Shelf.Strconv.ErrVarAll
import Derived.Shelf.Strings.Search3
import Derived.Lib.IndexLaws
import Derived.Lib.AtoiErrMem
import Derived.Test.YtchglfpiicaedaaGreatDoorPFnHandsStandOfAllx0
import Derived.Test.YtchglfpiicaedaaGreatDoorPFnHandsStandOfAllx2
import Derived.Test.YtchglfpiicaedaaGreatDoorPFnHandsStandOfAllx3
import Derived.Test.YtchglfpiicaedaaGreatDoorPFnHandsStandOfAllx4
namespace Go.Proofs.YtchglfpiicaedaaGreatDoor.PFnHandsStandOfAll
open Go.RowKit Go.Proofs.YtchglfpiicaedaaGreatDoorW.PrintWords Go.Proofs.YtchglfpiicaedaaGreatDoorW.PrintLast Go.Proofs.YtchglfpiicaedaaGreatDoorW.PrintMore
attribute [local go_sem] max2_int min2_int max_two min_two max_three min_three max_four min_four   -- for this text's walks alone
set_option linter.unusedVariables false
set_option linter.unusedSimpArgs false

/-! ### impl_TimesWithLong: function 16 -/
def impl_TimesWithLong.f (k : Nat) (a0 : Int) (a1_0 : Int) (a1_1 : Int) : Option ((List (S23)) × Bool) := (impl_isTime.f k a0 a1_0 a1_1).bind fun t239 => (if t239 = true then ((impl_roots.f k a1_0 a1_1 a0).bind fun bt240 => ((impl_ifTurns.f k bt240.1 bt240.2).bind fun bt244 => (some (bt244.1, bt244.2)))) else (some (([] : List (S23)), false)))
theorem impl_TimesWithLong.mono : ∀ a0 a1 a2 k, LeO (impl_TimesWithLong.f k a0 a1 a2) (impl_TimesWithLong.f (k + 1) a0 a1 a2) := by
 intro a0 a1 a2 k
 unfold impl_TimesWithLong.f
 repeat' first
   | (with_reducible exact impl_ifTurns.mono _ _ _)
   | (with_reducible exact impl_isTime.mono _ _ _ _)
   | (with_reducible exact impl_roots.mono _ _ _ _)
   | (with_reducible exact LeO.refl _)
   | (with_reducible exact LeO.none _)
   | (with_reducible refine LeO.ite ?_ ?_)
   | (with_reducible refine LeO.bind ?_ (fun _ => ?_))
   | exact impl_ifTurns.mono _ _ _
   | exact impl_isTime.mono _ _ _ _
   | exact impl_roots.mono _ _ _ _
   | exact LeO.none _
   | refine LeO.ite ?_ ?_
   | refine LeO.bind ?_ (fun _ => ?_)
set_option maxHeartbeats 8000000 in
set_option maxRecDepth 100000 in
theorem impl_TimesWithLong.calls (k : Nat) (a0 : Int) (a1_0 : Int) (a1_1 : Int) (r1 : List (S23)) (r2 : Bool) (w : World) (h : impl_TimesWithLong.f k a0 a1_0 a1_1 = some (r1, r2)) :
  Calls Tryz.prog 16 #[.int .i64 a0, .agg #[.int .i64 a1_0, .int .i64 a1_1]] w fun e w' => ∃ v0_ : Value, e = .returned (.tuple #[v0_, .bool r2]) ∧ Kd.R k23 23 w' w.heap.size (fun _ => True) v0_ r1 ∧ Below w.heap.size w w' := by
 have hu23 := Tryz.underlying23
 have HB := Am (Below.refl w.heap.size w)
 have H : ((impl_isTime.f k a0 a1_0 a1_1).bind fun t239 => (if t239 = true then ((impl_roots.f k a1_0 a1_1 a0).bind fun bt240 => ((impl_ifTurns.f k bt240.1 bt240.2).bind fun bt244 => (some (bt244.1, bt244.2)))) else (some (([] : List (S23)), false)))) = some (r1, r2) := h
 clear h
 replace H := Option.bind_eq_some_iff.mp H
 obtain ⟨t239, A30, H⟩ := H
 try dsimp only at H
 have A3 := Am A30
 clear A30
 by_cases c4 : t239 = true
 ·subst c4
  have H1 : ((impl_roots.f k a1_0 a1_1 a0).bind fun bt240 => ((impl_ifTurns.f k bt240.1 bt240.2).bind fun bt244 => (some (bt244.1, bt244.2)))) = some (r1, r2) := by rw [if_pos rfl] at H; exact H
  clear H
  have H := H1
  clear H1
  replace H := Option.bind_eq_some_iff.mp H
  obtain ⟨⟨t240, t243⟩, A50, H⟩ := H
  try dsimp only at H
  have A5 := Am A50
  clear A50
  replace H := Option.bind_eq_some_iff.mp H
  obtain ⟨⟨t244, t247⟩, A60, H⟩ := H
  try dsimp only at H
  have A6 := Am A60
  clear A60
  focus
   simp only [Option.some.injEq, Prod.mk.injEq] at H
   obtain ⟨rfl, rfl⟩ := H
   go_enter Tryz.func16, Tryz.ntmps16
   go_wp2_with (first | ((with_reducible refine gate_dst (N := 3) rfl ?_); refine bE 3 #[.int .i64 a1_0, .int .i64 a1_1] 23 ?_; intro gb238 hg w7 hbox hb; have hv := vK HB hb; have n0_ := Am (bT hv hb); have n1_ := Am (hbox); have GE238 := kG hg hv; clear HB; have HB := n0_; have BK238 := n1_; clear n0_ n1_ hv; clear hb hbox hg; have zq8 := zc2 BK238) | ((with_reducible refine gate_callee (f := 27) rfl ?_); refine gL (some 8) Tryz.func27 #[.int .i64 a0, .agg #[.int .i64 a1_0, .int .i64 a1_1]] rfl ?_; (with_reducible refine (impl_isTime.calls k a0 a1_0 a1_1 true _ A3.out).mono ?_); rintro e w9 ⟨rfl, hb⟩; refine ⟨_, rfl, ?_⟩; have hp0 := pA BK238 hb; have hv := vK HB hb; have n1_ := Am (bT hv hb); clear HB; replace BK238 := hp0 BK238; have HB := n1_; clear n1_ hp0 hv; (try clear hb); have zq10 := zc2 BK238) | ((with_reducible refine gate_callee (f := 37) rfl ?_); refine gL (some 12) Tryz.func37 #[.agg #[.int .i64 a1_0, .int .i64 a1_1], .int .i64 a0] rfl ?_; (with_reducible refine (impl_roots.calls k a1_0 a1_1 a0 t240 t243 _ A5.out).mono ?_); rintro e w11 ⟨v241, rfl, ho0, hb⟩; refine ⟨_, rfl, ?_⟩; have n0_ := Am (Kd.R_lower (Kd.R_newB ho0 (g := gb238) (o := .cells #[.int .i64 a1_0, .int .i64 a1_1] 23 (0, 0)) (kU BK238)) (bZ (by repeat (first | (with_reducible first | exact HB.out | apply bA | apply bN | apply bD | refine bX ?_ (by assumption)) | exact HB.out)))); have hp0 := pA BK238 hb; have hv := vK HB hb; have n2_ := Am (bT hv hb); clear HB; have HO242 := n0_; replace BK238 := hp0 BK238; have HB := n2_; clear n0_ n2_ hp0 hv; (try clear hb); (try clear ho0); obtain ⟨Ao12, co12, eo12⟩ := Kd.R_slice HO242.out; subst eo12) | ((with_reducible refine gate_callee (f := 36) rfl ?_); refine gL (some 15) Tryz.func36 #[.slice Ao12 t240.length co12, .bool t243] rfl ?_; (with_reducible refine (impl_ifTurns.calls k (fun k_ => some k_ = (.slice Ao12 t240.length co12 : Value).ownBlock) (.slice Ao12 t240.length co12) t240 t243 t244 t247 w _ ?side1 ?side2 A6.out).mono ?_); (case side1 => repeat (first | (with_reducible first | exact HB.out | apply bA | apply bN | apply bD | refine bX ?_ (by assumption)) | exact HB.out)); (case side2 => exact Kd.R_tight rfl HO242.out); rintro e w13 ⟨v245, rfl, ho0, hb, hkp⟩; refine ⟨_, rfl, ?_⟩; have n0_ := Am (blk_kept (kU BK238) hkp (fun hs_ => (fun e_ => (Kd.R_away HO242.out (fun _ hk => hk.2)) e_) hs_)); have n1_ := Am (Kd.R_mono (ok' := fun k_ => k_ ≠ gb238) ho0 (fun k_ hk_ => Or.elim hk_ (fun hs_ => fun e_ => (Kd.R_away HO242.out (fun _ hk => hk.2)) (by rw [← e_]; exact hs_)) (fun hn_ => (Kd.freshB (g := gb238) (o := .cells #[.int .i64 a1_0, .int .i64 a1_1] 23 (0, 0)) (kU BK238) k_ hn_)))); have n2_ := Am (hb); clear BK238; clear HB; clear HO242; have BK238 := n0_; have HO246 := n1_; have HB := n2_; clear n0_ n1_ n2_; (try clear hb); (try clear hkp); (try clear ho0)))
   go_ret2
   exact ⟨_, by first | rfl | (simp [errW_none, errW_some] <;> rfl) | (simp [*, errW_none, errW_some] <;> rfl), by (with_reducible repeat (first | apply Kd.R_alloc | apply Kd.R_drewN | apply Kd.R_drew)); exact Kd.R_mono HO246.out (fun _ hk => trivial), by repeat (first | (with_reducible first | exact HB.out | apply bA | apply bN | apply bD | refine bX ?_ (by assumption)) | exact HB.out)⟩
 replace c4 := Bool.eq_false_iff.mpr c4
 subst c4
 have H1 : (some (([] : List (S23)), false)) = some (r1, r2) := by rw [if_neg (show ¬ (false = true) by decide)] at H; exact H
 clear H
 have H := H1
 clear H1
 focus
  simp only [Option.some.injEq, Prod.mk.injEq] at H
  obtain ⟨rfl, rfl⟩ := H
  go_enter Tryz.func16, Tryz.ntmps16
  go_wp2_with (first | ((with_reducible refine gate_dst (N := 3) rfl ?_); refine bE 3 #[.int .i64 a1_0, .int .i64 a1_1] 23 ?_; intro gb238 hg w14 hbox hb; have hv := vK HB hb; have n0_ := Am (bT hv hb); have n1_ := Am (hbox); have GE238 := kG hg hv; clear HB; have HB := n0_; have BK238 := n1_; clear n0_ n1_ hv; clear hb hbox hg; have zq15 := zc2 BK238) | ((with_reducible refine gate_callee (f := 27) rfl ?_); refine gL (some 8) Tryz.func27 #[.int .i64 a0, .agg #[.int .i64 a1_0, .int .i64 a1_1]] rfl ?_; (with_reducible refine (impl_isTime.calls k a0 a1_0 a1_1 false _ A3.out).mono ?_); rintro e w16 ⟨rfl, hb⟩; refine ⟨_, rfl, ?_⟩; have hp0 := pA BK238 hb; have hv := vK HB hb; have n1_ := Am (bT hv hb); clear HB; replace BK238 := hp0 BK238; have HB := n1_; clear n1_ hp0 hv; (try clear hb)))
  go_ret2
  exact ⟨_, by first | rfl | (simp [errW_none, errW_some] <;> rfl) | (simp [*, errW_none, errW_some] <;> rfl), by first | exact Kd.R_nil _ _ _ _ _ | exact Kd.N_nil _ _ _ _ _ | exact Kd.V_nil _ _ _ _ _ | exact Kd.Q_nil _ _ _ _ _ | exact Kd.S_nil _ _ _ _ _, by repeat (first | (with_reducible first | exact HB.out | apply bA | apply bN | apply bD | refine bX ?_ (by assumption)) | exact HB.out)⟩
/-! ### spec_TimesWithLong: function 17 -/
def spec_TimesWithLong.l0 : Nat → Int → List (S23) → Int → Int → Int → Option ((List (S23)) × Bool)
 | 0, _, _, _, _, _ => none
 | k + 1, x0, x6, x7, x249000, x249001 => if x7 < x0 then ((spec_diMake.f k (wrap64 (x249000 + (wrap64 (x7 * x249001)))) (wrap64 (x249001 * x0))).bind fun bt250 => (if bt250.2.2 = true then (if x6.length < 8796093022208 then (spec_TimesWithLong.l0 k x0 (x6 ++ [(⟨bt250.1, bt250.2.1⟩ : S23)]) (wrap64 (x7 + 1)) x249000 x249001) else (none)) else (some (([] : List (S23)), false)))) else (some (x6, true))
def spec_TimesWithLong.f (k : Nat) (a0 : Int) (a1_0 : Int) (a1_1 : Int) : Option ((List (S23)) × Bool) := (spec_diAsked.f k a0 a1_0 a1_1).bind fun t249 => (if t249 = true then (spec_TimesWithLong.l0 k a0 ([] : List (S23)) 0 a1_0 a1_1) else (some (([] : List (S23)), false)))
theorem spec_TimesWithLong.mono_l : ∀ k, (∀ y0 y1 y2 y3 y4, LeO (spec_TimesWithLong.l0 k y0 y1 y2 y3 y4) (spec_TimesWithLong.l0 (k + 1) y0 y1 y2 y3 y4))
 | 0 => fun _ _ _ _ _ r h => by simp [spec_TimesWithLong.l0] at h
 | k + 1 => by
  have ih0 := spec_TimesWithLong.mono_l k
  ·intro y0 y1 y2 y3 y4
   unfold spec_TimesWithLong.l0
   repeat' first
   | (with_reducible apply ih0)
   | (with_reducible exact spec_diAsked.mono _ _ _ _)
   | (with_reducible exact spec_diMake.mono _ _ _)
   | (with_reducible exact LeO.refl _)
   | (with_reducible exact LeO.none _)
   | (with_reducible refine LeO.ite ?_ ?_)
   | (with_reducible refine LeO.bind ?_ (fun _ => ?_))
   | apply ih0
   | exact spec_diAsked.mono _ _ _ _
   | exact spec_diMake.mono _ _ _
   | exact LeO.none _
   | refine LeO.ite ?_ ?_
   | refine LeO.bind ?_ (fun _ => ?_)
theorem spec_TimesWithLong.mono : ∀ a0 a1 a2 k, LeO (spec_TimesWithLong.f k a0 a1 a2) (spec_TimesWithLong.f (k + 1) a0 a1 a2) := by
 intro a0 a1 a2 k
 have ih0 := spec_TimesWithLong.mono_l k
 unfold spec_TimesWithLong.f
 repeat' first
   | (with_reducible apply ih0)
   | (with_reducible exact spec_diAsked.mono _ _ _ _)
   | (with_reducible exact spec_diMake.mono _ _ _)
   | (with_reducible exact LeO.refl _)
   | (with_reducible exact LeO.none _)
   | (with_reducible refine LeO.ite ?_ ?_)
   | (with_reducible refine LeO.bind ?_ (fun _ => ?_))
   | apply ih0
   | exact spec_diAsked.mono _ _ _ _
   | exact spec_diMake.mono _ _ _
   | exact LeO.none _
   | refine LeO.ite ?_ ?_
   | refine LeO.bind ?_ (fun _ => ?_)
set_option maxHeartbeats 8000000 in
set_option maxRecDepth 100000 in
theorem spec_TimesWithLong.calls (k : Nat) (a0 : Int) (a1_0 : Int) (a1_1 : Int) (r1 : List (S23)) (r2 : Bool) (w : World) (h : spec_TimesWithLong.f k a0 a1_0 a1_1 = some (r1, r2)) :
  Calls Tryz.prog 17 #[.int .i64 a0, .agg #[.int .i64 a1_0, .int .i64 a1_1]] w fun e w' => ∃ v0_ : Value, e = .returned (.tuple #[v0_, .bool r2]) ∧ Kd.R k23 23 w' w.heap.size (fun _ => True) v0_ r1 ∧ Below w.heap.size w w' := by
 have hu23 := Tryz.underlying23
 have HB := Am (Below.refl w.heap.size w)
 have H : ((spec_diAsked.f k a0 a1_0 a1_1).bind fun t249 => (if t249 = true then (spec_TimesWithLong.l0 k a0 ([] : List (S23)) 0 a1_0 a1_1) else (some (([] : List (S23)), false)))) = some (r1, r2) := h
 clear h
 replace H := Option.bind_eq_some_iff.mp H
 obtain ⟨t249, A30, H⟩ := H
 try dsimp only at H
 have A3 := Am A30
 clear A30
 by_cases c4 : t249 = true
 ·subst c4
  have H1 : (spec_TimesWithLong.l0 k a0 ([] : List (S23)) 0 a1_0 a1_1) = some (r1, r2) := by rw [if_pos rfl] at H; exact H
  clear H
  have H := H1
  clear H1
  have H' := Am H
  clear H
  go_enter Tryz.func17, Tryz.ntmps17
  go_wp2_with (first | ((with_reducible refine gate_dst (N := 3) rfl ?_); refine bE 3 #[.int .i64 a1_0, .int .i64 a1_1] 23 ?_; intro gb248 hg w5 hbox hb; have hv := vK HB hb; have n0_ := Am (bT hv hb); have n1_ := Am (hbox); have GE248 := kG hg hv; clear HB; have HB := n0_; have BK248 := n1_; clear n0_ n1_ hv; clear hb hbox hg; have zq6 := zc2 BK248) | ((with_reducible refine gate_callee (f := 29) rfl ?_); refine gL (some 12) Tryz.func29 #[.int .i64 a0, .agg #[.int .i64 a1_0, .int .i64 a1_1]] rfl ?_; (with_reducible refine (spec_diAsked.calls k a0 a1_0 a1_1 true _ A3.out).mono ?_); rintro e w7 ⟨rfl, hb⟩; refine ⟨_, rfl, ?_⟩; have hp0 := pA BK248 hb; have hv := vK HB hb; have n1_ := Am (bT hv hb); clear HB; replace BK248 := hp0 BK248; have HB := n1_; clear n1_ hp0 hv; (try clear hb)))
  go_loopg [6, 7] k (fun kq v6 v7 w' => ∃ (x6_1 : List (S23)) (x7_1 : Int), v7 = .int .i64 x7_1 ∧ Aside0 (spec_TimesWithLong.l0 kq a0 x6_1 x7_1 a1_0 a1_1 = some (r1, r2)) ∧ Aside0 (kq ≤ k) ∧ Aside0 (Kd.R k23 23 w' w.heap.size (fun k_ => k_ ≠ gb248) v6 x6_1) ∧ Aside0 (w'.heap[gb248]? = some (.cells #[.int .i64 a1_0, .int .i64 a1_1] 23 (0, 0))) ∧ Aside0 (Below w.heap.size w w'))
  case atStart => exact ⟨(([] : List (S23))), (0), (by first | rfl | (simp; done) | (simp [*]; done)), H', ⟨Nat.le_refl _⟩, ⟨by first | exact Kd.R_nil _ _ _ _ _ | exact Kd.N_nil _ _ _ _ _ | exact Kd.V_nil _ _ _ _ _ | exact Kd.Q_nil _ _ _ _ _ | exact Kd.S_nil _ _ _ _ _⟩, kV BK248, ⟨by repeat (first | (with_reducible first | exact HB.out | apply bA | apply bN | apply bD | refine bX ?_ (by assumption)) | exact HB.out)⟩⟩
  case round =>
   clear H'
   (try clear c4); (try clear zq6)
   obtain ⟨x6_1, x7_1, rfl, HA, HK1, HO_6, BK248, HB⟩ := hrel
   cases gk with
   | zero => exact absurd HA.out (by simp [spec_TimesWithLong.l0])
   | succ k1 =>
    have H := HA.out
    clear HA
    simp only [spec_TimesWithLong.l0] at H
    by_cases c8 : x7_1 < a0
    ·rw [if_pos c8] at H
     have c8b0 : decide (x7_1 < a0) = true := decide_eq_true c8
     clear c8
     replace H := Option.bind_eq_some_iff.mp H
     obtain ⟨⟨t250, t251, t252⟩, A90, H⟩ := H
     try dsimp only at H
     have A9 := Am A90
     clear A90
     by_cases c10 : t252 = true
     ·subst c10
      have H1 : (if x6_1.length < 8796093022208 then (spec_TimesWithLong.l0 k1 a0 (x6_1 ++ [(⟨t250, t251⟩ : S23)]) (wrap64 (x7_1 + 1)) a1_0 a1_1) else (none)) = some (r1, r2) := by rw [if_pos rfl] at H; exact H
      clear H
      have H := H1
      clear H1
      by_cases c11 : x6_1.length < 8796093022208
      ·rw [if_pos c11] at H
       have LMc11 := Am c11
       clear c11
       obtain ⟨y254, hy254⟩ : ∃ y_ : List (S23), y_ = (x6_1 ++ [(⟨t250, t251⟩ : S23)]) := ⟨_, rfl⟩
       replace H : (spec_TimesWithLong.l0 k1 a0 y254 (wrap64 (x7_1 + 1)) a1_0 a1_1) = some (r1, r2) := by first | (rw [hy254]; with_reducible exact H) | (have H2_ := (Option.bind_some _ _).symm.trans H; rw [hy254]; with_reducible exact H2_) | (have H2_ := (Option.bind_some _ _).symm.trans H; with_reducible exact H2_) | with_reducible exact H | (rw [hy254]; exact H) | exact H
       have Ny254 := Am hy254
       clear hy254
       focus
        have H' := Am H
        clear H
        have zq12 := zc2 BK248
        go_wp2_with (first | ((with_reducible refine gate_callee (f := 38) rfl ?_); refine gL (some 31) Tryz.func38 #[.int .i64 (wrap64 (a1_0 + (wrap64 (x7_1 * a1_1)))), .int .i64 (wrap64 (a1_1 * a0))] rfl ?_; (with_reducible refine (spec_diMake.calls k1 (wrap64 (a1_0 + (wrap64 (x7_1 * a1_1)))) (wrap64 (a1_1 * a0)) t250 t251 true _ A9.out).mono ?_); rintro e w13 ⟨rfl, hb⟩; refine ⟨_, rfl, ?_⟩; have n0_ := Am (Kd.R_below (kW HO_6) hb); have hp0 := pA BK248 hb; have hv := vK HB hb; have n2_ := Am (bT hv hb); clear HO_6; clear HB; have HO_6 := n0_; replace BK248 := hp0 BK248; have HB := n2_; clear n0_ n2_ hp0 hv; (try clear hb)) | ((with_reducible refine gate_dst (N := 8) rfl ?_); refine bE 8 #[.int .i64 0, .int .i64 0] 23 ?_; intro gb253 hg w14 hbox hb; have n0_ := Am (Kd.R_below (Kd.R_elderB (kW HO_6) gb253 (Nat.le_of_eq hg.symm)) hb); have hp0 := pA BK248 hb; have hv := vK HB hb; have n2_ := Am (bT hv hb); have n3_ := Am (hbox); have GE253 := kG hg hv; have hp1 := pK BK248 hb; obtain ⟨NB248_253, NB253_248⟩ := kXY hg hp1 BK248; clear HO_6; clear HB; have HO_6 := n0_; replace BK248 := hp0 BK248; have HB := n2_; have BK253 := n3_; clear n0_ n2_ n3_ hp0 hp1 hv; clear hb hbox hg; have nq15 := kO NB253_248; have zq16 := zc2 BK253) | ((with_reducible refine gate_builtin (b := .append) (xs := #[.tmp 36, .tmp 38]) rfl ?_); at_builtin; refine Kd.R_append k23 (w0 := w) w.heap.size rfl (.tmp 36) (.tmp 38) 28 23 (.agg #[(.int .i64 0), (.int .i64 0)]) 16 rfl Tryz.underlying28 info23 rfl (by decide) (by omega) u6 x6_1 (⟨t250, t251⟩ : S23) [.int .i64 t250, .int .i64 t251] (fun k_ => k_ ≠ gb248 ∧ k_ ≠ gb253) (fun _ => False) rfl (by first | (go_simp; done) | (go_simp; rfl)) ?aP (fun _ hk => hk.elim) ?aF ?aO ?aB ?aS ?aL ?_; (case aP => exact k23_mkM _ _ _ (⟨t250, t251⟩ : S23)); (case aB => exact (by repeat (first | (with_reducible first | exact HB.out | apply bA | apply bN | apply bD | refine bX ?_ (by assumption)) | exact HB.out))); (case aF => exact (fun k_ hk => ⟨Kd.freshB (g := gb248) (o := .cells #[.int .i64 a1_0, .int .i64 a1_1] 23 (0, 0)) (by (with_reducible repeat (first | refine kN ?_ _ | refine kD ?_ | refine kA ?_ _)); refine kR ?_ NB248_253.out _; (with_reducible repeat (first | refine kN ?_ _ | refine kD ?_ | refine kA ?_ _)); refine kR ?_ NB248_253.out _; (with_reducible repeat (first | refine kN ?_ _ | refine kD ?_ | refine kA ?_ _)); exact BK248.out) k_ hk, Kd.freshB (g := gb253) (o := .cells #[.int .i64 t250, .int .i64 t251] 23 (0, 0)) (by (with_reducible repeat (first | refine kN ?_ _ | refine kD ?_ | refine kA ?_ _)); refine kP (cs := #[.int .i64 t250, .int .i64 0]) ?_ 1 _ rfl; (with_reducible repeat (first | refine kN ?_ _ | refine kD ?_ | refine kA ?_ _)); refine kP (cs := #[.int .i64 0, .int .i64 0]) ?_ 0 _ rfl; (with_reducible repeat (first | refine kN ?_ _ | refine kD ?_ | refine kA ?_ _)); exact BK253.out) k_ hk⟩)); (case aO => exact (by (with_reducible repeat (first | apply Kd.R_alloc | apply Kd.R_drewN | apply Kd.R_drew)); exact Kd.R_mono (Kd.R_far (p := ⟨gb253, 1, none⟩) (Kd.R_far (p := ⟨gb253, 0, none⟩) (Kd.R_mono HO_6.out (fun k_ hk => (⟨hk, hk.2⟩ : _ ∧ k_ ≠ gb253))) (fun _ hk => hk.2) (.int .i64 t250)) (fun _ hk => hk.2) (.int .i64 t251)) (fun _ hk => ⟨hk.1.1, hk.1.2⟩))); (case aS => exact (bZ (by repeat (first | (with_reducible first | exact HB.out | apply bA | apply bN | apply bD | refine bX ?_ (by assumption)) | exact HB.out)))); (case aL => have := LMc11.out; omega); intro v255 w17 ho hb hg hat; rw [← Ny254.out] at ho; have n0_ := Am (blk_grown (g := gb248) (o := .cells #[.int .i64 a1_0, .int .i64 a1_1] 23 (0, 0)) (by (with_reducible repeat (first | refine kN ?_ _ | refine kD ?_ | refine kA ?_ _)); refine kR ?_ NB248_253.out _; (with_reducible repeat (first | refine kN ?_ _ | refine kD ?_ | refine kA ?_ _)); refine kR ?_ NB248_253.out _; (with_reducible repeat (first | refine kN ?_ _ | refine kD ?_ | refine kA ?_ _)); exact BK248.out) hg (Kd.R_away HO_6.out (fun _ hk => hk.1))); have n1_ := Am (blk_grown (g := gb253) (o := .cells #[.int .i64 t250, .int .i64 t251] 23 (0, 0)) (by (with_reducible repeat (first | refine kN ?_ _ | refine kD ?_ | refine kA ?_ _)); refine kP (cs := #[.int .i64 t250, .int .i64 0]) ?_ 1 _ rfl; (with_reducible repeat (first | refine kN ?_ _ | refine kD ?_ | refine kA ?_ _)); refine kP (cs := #[.int .i64 0, .int .i64 0]) ?_ 0 _ rfl; (with_reducible repeat (first | refine kN ?_ _ | refine kD ?_ | refine kA ?_ _)); exact BK253.out) hg (Kd.R_away HO_6.out (fun _ hk => hk.2))); have n2_ := Am (hb); have n3_ := Am (ho); clear BK248; clear BK253; clear HB; clear HO_6; have BK248 := n0_; have BK253 := n1_; have HB := n2_; have HO256 := n3_; clear n0_ n1_ n2_ n3_; clear ho hb hg hat))
        go_roundg k1
        case measure => have := HK1.out; omega
        case rel => exact ⟨(y254), (wrap64 (x7_1 + 1)), (by first | rfl | (simp; done) | (simp [*]; done)), H', ⟨by have := HK1.out; omega⟩, ⟨by (with_reducible repeat (first | apply Kd.R_alloc | apply Kd.R_drewN | apply Kd.R_drew)); exact Kd.R_mono HO256.out (fun _ hk => hk.1)⟩, kV BK248, ⟨by repeat (first | (with_reducible first | exact HB.out | apply bA | apply bN | apply bD | refine bX ?_ (by assumption)) | exact HB.out)⟩⟩
      rw [if_neg c11] at H
      exact absurd H (by simp)
     replace c10 := Bool.eq_false_iff.mpr c10
     subst c10
     have H1 : (some (([] : List (S23)), false)) = some (r1, r2) := by rw [if_neg (show ¬ (false = true) by decide)] at H; exact H
     clear H
     have H := H1
     clear H1
     focus
      simp only [Option.some.injEq, Prod.mk.injEq] at H
      obtain ⟨rfl, rfl⟩ := H
      have zq18 := zc2 BK248
      go_wp2_with (first | ((with_reducible refine gate_callee (f := 38) rfl ?_); refine gL (some 31) Tryz.func38 #[.int .i64 (wrap64 (a1_0 + (wrap64 (x7_1 * a1_1)))), .int .i64 (wrap64 (a1_1 * a0))] rfl ?_; (with_reducible refine (spec_diMake.calls k1 (wrap64 (a1_0 + (wrap64 (x7_1 * a1_1)))) (wrap64 (a1_1 * a0)) t250 t251 false _ A9.out).mono ?_); rintro e w19 ⟨rfl, hb⟩; refine ⟨_, rfl, ?_⟩; have n0_ := Am (Kd.R_below (kW HO_6) hb); have hp0 := pA BK248 hb; have hv := vK HB hb; have n2_ := Am (bT hv hb); clear HO_6; clear HB; have HO_6 := n0_; replace BK248 := hp0 BK248; have HB := n2_; clear n0_ n2_ hp0 hv; (try clear hb)) | ((with_reducible refine gate_dst (N := 8) rfl ?_); refine bE 8 #[.int .i64 0, .int .i64 0] 23 ?_; intro gb253 hg w20 hbox hb; have n0_ := Am (Kd.R_below (Kd.R_elderB (kW HO_6) gb253 (Nat.le_of_eq hg.symm)) hb); have hp0 := pA BK248 hb; have hv := vK HB hb; have n2_ := Am (bT hv hb); have n3_ := Am (hbox); have GE253 := kG hg hv; have hp1 := pK BK248 hb; obtain ⟨NB248_253, NB253_248⟩ := kXY hg hp1 BK248; clear HO_6; clear HB; have HO_6 := n0_; replace BK248 := hp0 BK248; have HB := n2_; have BK253 := n3_; clear n0_ n2_ n3_ hp0 hp1 hv; clear hb hbox hg; have nq21 := kO NB253_248; have zq22 := zc2 BK253))
      go_ret2
      exact ⟨_, by first | rfl | (simp [errW_none, errW_some] <;> rfl) | (simp [*, errW_none, errW_some] <;> rfl), by first | exact Kd.R_nil _ _ _ _ _ | exact Kd.N_nil _ _ _ _ _ | exact Kd.V_nil _ _ _ _ _ | exact Kd.Q_nil _ _ _ _ _ | exact Kd.S_nil _ _ _ _ _, by repeat (first | (with_reducible first | exact HB.out | apply bA | apply bN | apply bD | refine bX ?_ (by assumption)) | exact HB.out)⟩
    rw [if_neg c8] at H
    have c8b0 : decide (x7_1 < a0) = false := decide_eq_false c8
    clear c8
    focus
     simp only [Option.some.injEq, Prod.mk.injEq] at H
     obtain ⟨rfl, rfl⟩ := H
     go_wp2
     go_ret2
     exact ⟨_, by first | rfl | (simp [errW_none, errW_some] <;> rfl) | (simp [*, errW_none, errW_some] <;> rfl), by (with_reducible repeat (first | apply Kd.R_alloc | apply Kd.R_drewN | apply Kd.R_drew)); exact Kd.R_mono HO_6.out (fun _ hk => trivial), by repeat (first | (with_reducible first | exact HB.out | apply bA | apply bN | apply bD | refine bX ?_ (by assumption)) | exact HB.out)⟩
 replace c4 := Bool.eq_false_iff.mpr c4
 subst c4
 have H1 : (some (([] : List (S23)), false)) = some (r1, r2) := by rw [if_neg (show ¬ (false = true) by decide)] at H; exact H
 clear H
 have H := H1
 clear H1
 focus
  simp only [Option.some.injEq, Prod.mk.injEq] at H
  obtain ⟨rfl, rfl⟩ := H
  go_enter Tryz.func17, Tryz.ntmps17
  go_wp2_with (first | ((with_reducible refine gate_dst (N := 3) rfl ?_); refine bE 3 #[.int .i64 a1_0, .int .i64 a1_1] 23 ?_; intro gb248 hg w23 hbox hb; have hv := vK HB hb; have n0_ := Am (bT hv hb); have n1_ := Am (hbox); have GE248 := kG hg hv; clear HB; have HB := n0_; have BK248 := n1_; clear n0_ n1_ hv; clear hb hbox hg; have zq24 := zc2 BK248) | ((with_reducible refine gate_callee (f := 29) rfl ?_); refine gL (some 12) Tryz.func29 #[.int .i64 a0, .agg #[.int .i64 a1_0, .int .i64 a1_1]] rfl ?_; (with_reducible refine (spec_diAsked.calls k a0 a1_0 a1_1 false _ A3.out).mono ?_); rintro e w25 ⟨rfl, hb⟩; refine ⟨_, rfl, ?_⟩; have hp0 := pA BK248 hb; have hv := vK HB hb; have n1_ := Am (bT hv hb); clear HB; replace BK248 := hp0 BK248; have HB := n1_; clear n1_ hp0 hv; (try clear hb)))
  go_ret2
  exact ⟨_, by first | rfl | (simp [errW_none, errW_some] <;> rfl) | (simp [*, errW_none, errW_some] <;> rfl), by first | exact Kd.R_nil _ _ _ _ _ | exact Kd.N_nil _ _ _ _ _ | exact Kd.V_nil _ _ _ _ _ | exact Kd.Q_nil _ _ _ _ _ | exact Kd.S_nil _ _ _ _ _, by repeat (first | (with_reducible first | exact HB.out | apply bA | apply bN | apply bD | refine bX ?_ (by assumption)) | exact HB.out)⟩
/-- What is laid of the library: the table of powers of ten, the two errors. -/
def TabsAll (w : World) : Prop := Lib.TabIs Tryz.prog w "internal/strconv.uint64pow10" .u64 Lib.pow10Tab ∧ (∃ tp p, w.var? Tryz.prog "strconv.ErrSyntax" = some #[.iface tp p]) ∧ (∃ tp p, w.var? Tryz.prog "strconv.ErrRange" = some #[.iface tp p])
theorem tabs_stay {w w' : World} (h : TabsAll w) (hb : Below w.heap.size w w') : TabsAll w' := by
 obtain ⟨h1, ⟨tp2, p2, h2⟩, ⟨tp3, p3, h3⟩⟩ := h
 obtain ⟨g1, e1⟩ : ∃ g, Tryz.prog.globalNamed "internal/strconv.uint64pow10" = some g := Option.isSome_iff_exists.mp (by kernel_rfl)
 obtain ⟨g2, e2⟩ : ∃ g, Tryz.prog.globalNamed "strconv.ErrSyntax" = some g := Option.isSome_iff_exists.mp (by kernel_rfl)
 obtain ⟨g3, e3⟩ : ∃ g, Tryz.prog.globalNamed "strconv.ErrRange" = some g := Option.isSome_iff_exists.mp (by kernel_rfl)
 exact ⟨Go.Joins.tab_stays e1 h1 hb (Nat.le_refl _), ⟨tp2, p2, Go.Joins.var_stays e2 h2 hb (Nat.le_refl _)⟩, ⟨tp3, p3, Go.Joins.var_stays e3 h3 hb (Nat.le_refl _)⟩⟩
/-! ### strconv_Itoa_41: function 41 -/
def strconv_Itoa_41.f (a0 : Int) : Option (ByteArray) := if -9223372036854775808 ≤ a0 ∧ a0 ≤ 9223372036854775807 then some ⟨(Lib.itoa a0).toArray⟩ else none
theorem strconv_Itoa_41.calls (a0 : Int) (r : ByteArray) (w : World) (htab_ : TabsAll w) (h : strconv_Itoa_41.f a0 = some r) :
  Calls Tryz.prog 41 #[.int .i64 a0] w fun e w' => e = .returned (.string r) ∧ Below w.heap.size w w' := by
 unfold strconv_Itoa_41.f at h
 by_cases hc : -9223372036854775808 ≤ a0 ∧ a0 ≤ 9223372036854775807
 ·rw [if_pos hc] at h
  obtain rfl := Option.some.inj h
  refine (Any.strconv_Itoa Tryz.itoaLay a0 hc.1 hc.2 w htab_.1).mono ?_
  rintro e w' ⟨rfl, k, os, rfl⟩
  exact ⟨rfl, ⟨rfl, rfl, rfl, by show w.heap.size ≤ (w.heap ++ os).size; rw [Array.size_append]; omega, fun q hq => by show (w.heap ++ os)[q]? = w.heap[q]?; rw [Array.getElem?_append_left hq]⟩⟩
 ·rw [if_neg hc] at h; cases h
theorem Tryz.tabGlobal : ∃ g, Tryz.prog.globalNamed "internal/strconv.uint64pow10" = some g := Option.isSome_iff_exists.mp (by kernel_rfl)

/-! ### impl_twoDigits: function 39 -/
def impl_twoDigits.f (a0 : Int) : Option (ByteArray) := if a0 < 10 then ((strconv_Itoa_41.f a0).bind fun t257 => (if 1 + t257.size ≤ 9223372036854775807 then (some ((⟨#[48]⟩ : ByteArray) ++ t257)) else (none))) else ((strconv_Itoa_41.f a0).bind fun t258 => (some t258))
set_option maxHeartbeats 8000000 in
set_option maxRecDepth 100000 in
theorem impl_twoDigits.calls (a0 : Int) (r : ByteArray) (w : World) (htab_ : TabsAll w) (h : impl_twoDigits.f a0 = some r) :
  Calls Tryz.prog 39 #[.int .i64 a0] w fun e w' => e = .returned (.string r) ∧ Below w.heap.size w w' := by
 have TABH_ := Am htab_
 clear htab_
 have HB := Am (Below.refl w.heap.size w)
 have H : (if a0 < 10 then ((strconv_Itoa_41.f a0).bind fun t257 => (if 1 + t257.size ≤ 9223372036854775807 then (some ((⟨#[48]⟩ : ByteArray) ++ t257)) else (none))) else ((strconv_Itoa_41.f a0).bind fun t258 => (some t258))) = some r := h
 clear h
 by_cases c2 : a0 < 10
 ·rw [if_pos c2] at H
  have c2b0 : decide (a0 < 10) = true := decide_eq_true c2
  clear c2
  replace H := Option.bind_eq_some_iff.mp H
  obtain ⟨t257, A30, H⟩ := H
  try dsimp only at H
  have A3 := Am A30
  clear A30
  by_cases c4 : 1 + t257.size ≤ 9223372036854775807
  ·rw [if_pos c4] at H
   have c4b0 := eq_true c4
   have c4b1 : decide (1 + t257.size ≤ 9223372036854775807) = true := decide_eq_true c4
   try have c4b2 : (9223372036854775807 < 1 + t257.size) = False := eq_false (Nat.not_lt.2 c4)
   focus
    obtain rfl := Option.some.inj H
    go_enter Tryz.func39, Tryz.ntmps39
    go_wp2_with (first | ((with_reducible refine gate_callee (f := 41) rfl ?_); refine gL (some 6) Tryz.func41 #[.int .i64 a0] rfl ?_; (with_reducible refine (strconv_Itoa_41.calls a0 t257 _ (tabs_stay TABH_.out (show Below w.heap.size w _ from by repeat (first | (with_reducible first | exact HB.out | apply bA | apply bN | apply bD) | exact HB.out))) A3.out).mono ?_); rintro e w5 ⟨rfl, hb⟩; refine ⟨_, rfl, ?_⟩; have hv := vK HB hb; have n0_ := Am (bT hv hb); clear HB; have HB := n0_; clear n0_ hv; (try clear hb)))
    go_ret
    exact ⟨by first | rfl | (simp [errW_none, errW_some] <;> rfl) | (simp [*, errW_none, errW_some] <;> rfl), by repeat (first | (with_reducible first | exact HB.out | apply bA | apply bN | apply bD) | exact HB.out)⟩
  rw [if_neg c4] at H
  exact absurd H (by simp)
 rw [if_neg c2] at H
 have c2b0 : decide (a0 < 10) = false := decide_eq_false c2
 clear c2
 replace H := Option.bind_eq_some_iff.mp H
 obtain ⟨t258, A60, H⟩ := H
 try dsimp only at H
 have A6 := Am A60
 clear A60
 focus
  obtain rfl := Option.some.inj H
  go_enter Tryz.func39, Tryz.ntmps39
  go_wp2_with (first | ((with_reducible refine gate_callee (f := 41) rfl ?_); refine gL (some 9) Tryz.func41 #[.int .i64 a0] rfl ?_; (with_reducible refine (strconv_Itoa_41.calls a0 t258 _ (tabs_stay TABH_.out (show Below w.heap.size w _ from by repeat (first | (with_reducible first | exact HB.out | apply bA | apply bN | apply bD) | exact HB.out))) A6.out).mono ?_); rintro e w7 ⟨rfl, hb⟩; refine ⟨_, rfl, ?_⟩; have hv := vK HB hb; have n0_ := Am (bT hv hb); clear HB; have HB := n0_; clear n0_ hv; (try clear hb)))
  go_ret
  exact ⟨by first | rfl | (simp [errW_none, errW_some] <;> rfl) | (simp [*, errW_none, errW_some] <;> rfl), by repeat (first | (with_reducible first | exact HB.out | apply bA | apply bN | apply bD) | exact HB.out)⟩
end Go.Proofs.YtchglfpiicaedaaGreatDoor.PFnHandsStandOfAll
