-- WRITTEN BY A PROGRAM OF THIS SESSION (wip/tools): its own text, not the kit's printed one.
import Derived.Test.YtnffmifjleebpaaPFnHandsSpreadOfAllx0
import Derived.Test.YtnffmifjleebpaaPFnHandsSpreadOfAllx2
import Derived.Test.YtnffmifjleebpaaPFnHandsSpreadOfAllx3
import Derived.Test.YtnffmifjleebpaaPFnHandsSpreadOfAllx6
import Derived.Test.YtnffmifjleebpaaPFnHandsSpreadOfAllx8
namespace Go.Proofs.Ytnffmifjleebpaa.PFnHandsSpreadOfAll
open Go.RowKit Go.Proofs.YtnffmifjleebpaaW.PrintWords Go.Proofs.YtnffmifjleebpaaW.PrintLast Go.Proofs.YtnffmifjleebpaaW.PrintMore
attribute [local go_sem] max2_int min2_int max_two min_two max_three min_three max_four min_four   -- for this text's walks alone
set_option linter.unusedVariables false
set_option linter.unusedSimpArgs false

attribute [local go_sem high] eqA26
/-! ### laws_kHands: function 12 -/
def laws_kHands.l0 : Nat → List (S26) → List (S26) → Int → Int → Option (Bool)
 | 0, _, _, _, _ => none
 | k + 1, x0, x1, x12, x13 => if x13 < x12 then (if 0 ≤ x13 then (if x13 < (x0.length : Int) then (if x13 < (x1.length : Int) then (if ((!(((rd_T26 x0 x13).f0.f0) == ((rd_T26 x1 x13).f0.f0)) || (!(((rd_T26 x0 x13).f0.f1) == ((rd_T26 x1 x13).f0.f1)))) || (!(((rd_T26 x0 x13).f1) == ((rd_T26 x1 x13).f1)))) = true then (some false) else (laws_kHands.l0 k x0 x1 x12 (wrap64 (x13 + 1)))) else (none)) else (none)) else (none)) else (some true)
def laws_kHands.f (k : Nat) (l0 : List (S26)) (l1 : List (S26)) : Option (Bool) := if (l0.length : Int) = (l1.length : Int) then (laws_kHands.l0 k l0 l1 (l0.length : Int) 0) else (some false)
theorem laws_kHands.mono_l : ∀ k, (∀ y0 y1 y2 y3, LeO (laws_kHands.l0 k y0 y1 y2 y3) (laws_kHands.l0 (k + 1) y0 y1 y2 y3))
 | 0 => fun _ _ _ _ r h => by simp [laws_kHands.l0] at h
 | k + 1 => by
  have ih0 := laws_kHands.mono_l k
  ·intro y0 y1 y2 y3
   unfold laws_kHands.l0
   repeat' first
   | (with_reducible apply ih0)
   | (with_reducible exact LeO.refl _)
   | (with_reducible exact LeO.none _)
   | (with_reducible refine LeO.ite ?_ ?_)
   | (with_reducible refine LeO.bind ?_ (fun _ => ?_))
   | apply ih0
   | exact LeO.none _
   | refine LeO.ite ?_ ?_
   | refine LeO.bind ?_ (fun _ => ?_)
theorem laws_kHands.mono : ∀ a0 a1 k, LeO (laws_kHands.f k a0 a1) (laws_kHands.f (k + 1) a0 a1) := by
 intro a0 a1 k
 have ih0 := laws_kHands.mono_l k
 unfold laws_kHands.f
 repeat' first
   | (with_reducible apply ih0)
   | (with_reducible exact LeO.refl _)
   | (with_reducible exact LeO.none _)
   | (with_reducible refine LeO.ite ?_ ?_)
   | (with_reducible refine LeO.bind ?_ (fun _ => ?_))
   | apply ih0
   | exact LeO.none _
   | refine LeO.ite ?_ ?_
   | refine LeO.bind ?_ (fun _ => ?_)
set_option maxHeartbeats 8000000 in
set_option maxRecDepth 100000 in
theorem laws_kHands.calls (k : Nat) (A0 : Option Addr) (c0 : Nat) (l0 : List (S26)) (A1 : Option Addr) (c1 : Nat) (l1 : List (S26)) (r : Bool) (w : World) (hr0 : Kd.C k26 w A0 l0.length l0) (hc0 : l0.length ≤ c0) (hr1 : Kd.C k26 w A1 l1.length l1) (hc1 : l1.length ≤ c1) (h : laws_kHands.f k l0 l1 = some r) :
  Calls Try.prog 12 #[.slice A0 l0.length c0, .slice A1 l1.length c1] w fun e w' => e = .returned (.bool r) ∧ Drawn0 w w' := by
 have hu26 := Try.underlying26
 have HR0 := Am hr0
 have HC0 := Am hc0
 clear hr0 hc0
 have HR1 := Am hr1
 have HC1 := Am hc1
 clear hr1 hc1
 have H : (if (l0.length : Int) = (l1.length : Int) then (laws_kHands.l0 k l0 l1 (l0.length : Int) 0) else (some false)) = some r := h
 clear h
 by_cases c3 : (l0.length : Int) = (l1.length : Int)
 ·rw [if_pos c3] at H
  have c3b0 : ((l0.length : Int) == (l1.length : Int)) = true := beq_iff_eq.mpr c3
  have c3b1 : ((l0.length : Int) != (l1.length : Int)) = false := bne_eq_false_iff_eq.mpr c3
  have c3b2 : (l0.length == l1.length) = true := by first | simpa using c3 | (simp at c3 ⊢; omega)
  clear c3
  have H' := Am H
  clear H
  go_enter Try.func12, Try.ntmps12
  go_wp2
  repeat (go_quiet (fail); try go_wp2)
  go_loopg [13] k (fun kq v13 w' => ∃ (x13_1 : Int), v13 = .int .i64 x13_1 ∧ Aside0 (laws_kHands.l0 kq l0 l1 (l0.length : Int) x13_1 = some r) ∧ Aside0 (kq ≤ k) ∧ Drawn0 w w')
  case atStart => exact ⟨(0), (by first | rfl | (simp; done) | (simp [*]; done)), H', ⟨Nat.le_refl _⟩, by repeat (first | exact Drawn0.refl _ | apply Drawn0.step)⟩
  case round =>
   clear H'
   (try clear c1); (try clear c3); (try clear c3b0); (try clear c3b1); (try clear c3b2)
   obtain ⟨x13_1, rfl, HA, HK1, ⟨m1, rfl⟩⟩ := hrel
   cases gk with
   | zero => exact absurd HA.out (by simp [laws_kHands.l0])
   | succ k1 =>
    have H := HA.out
    clear HA
    simp only [laws_kHands.l0] at H
    by_cases c4 : x13_1 < (l0.length : Int)
    ·rw [if_pos c4] at H
     have c4b0 : decide (x13_1 < (l0.length : Int)) = true := decide_eq_true c4
     clear c4
     by_cases c5 : 0 ≤ x13_1
     ·rw [if_pos c5] at H
      have c5b0 : decide (0 ≤ x13_1) = true := decide_eq_true c5
      clear c5
      by_cases c6 : x13_1 < (l0.length : Int)
      ·rw [if_pos c6] at H
       have c6b0 : decide (x13_1 < (l0.length : Int)) = true := decide_eq_true c6
       clear c6
       by_cases c7 : x13_1 < (l1.length : Int)
       ·rw [if_pos c7] at H
        have c7b0 : decide (x13_1 < (l1.length : Int)) = true := decide_eq_true c7
        clear c7
        by_cases c8 : ((!(((rd_T26 l0 x13_1).f0.f0) == ((rd_T26 l1 x13_1).f0.f0)) || (!(((rd_T26 l0 x13_1).f0.f1) == ((rd_T26 l1 x13_1).f0.f1)))) || (!(((rd_T26 l0 x13_1).f1) == ((rd_T26 l1 x13_1).f1)))) = true
        ·rw [if_pos c8] at H
         have c8b0 : ((!(((rd_T26 l0 x13_1).f0.f0) == ((rd_T26 l1 x13_1).f0.f0)) || (!(((rd_T26 l0 x13_1).f0.f1) == ((rd_T26 l1 x13_1).f0.f1)))) || (!(((rd_T26 l0 x13_1).f1) == ((rd_T26 l1 x13_1).f1)))) = true := c8
         clear c8
         focus
          obtain rfl := Option.some.inj H
          have p315 : 0 ≤ (x13_1 : Int) := of_decide_eq_true (by first | (with_reducible assumption) | assumption)
          have q315 : x13_1 < (l0.length : Int) := of_decide_eq_true (by first | (with_reducible assumption) | assumption)
          obtain ⟨ad315, e315, hx315_0, hx315_1, hx315_2⟩ := at_T26 HR0.out x13_1 p315 q315
          cases e315
          replace p315 := eq_true p315
          replace q315 := eq_true q315
          have p316 : 0 ≤ (x13_1 : Int) := of_decide_eq_true (by first | (with_reducible assumption) | assumption)
          have q316 : x13_1 < (l1.length : Int) := of_decide_eq_true (by first | (with_reducible assumption) | assumption)
          obtain ⟨ad316, e316, hx316_0, hx316_1, hx316_2⟩ := at_T26 HR1.out x13_1 p316 q316
          cases e316
          replace p316 := eq_true p316
          replace q316 := eq_true q316
          go_wp2
          repeat (go_quiet (fail); try go_wp2)
          go_ret
          exact ⟨by first | rfl | (simp; done) | (simp [*]; done), by repeat (first | exact Drawn0.refl _ | apply Drawn0.step)⟩
        rw [if_neg c8] at H
        have c8b0 : ((!(((rd_T26 l0 x13_1).f0.f0) == ((rd_T26 l1 x13_1).f0.f0)) || (!(((rd_T26 l0 x13_1).f0.f1) == ((rd_T26 l1 x13_1).f0.f1)))) || (!(((rd_T26 l0 x13_1).f1) == ((rd_T26 l1 x13_1).f1)))) = false := by simpa using c8
        clear c8
        focus
         have H' := Am H
         clear H
         have p315 : 0 ≤ (x13_1 : Int) := of_decide_eq_true (by first | (with_reducible assumption) | assumption)
         have q315 : x13_1 < (l0.length : Int) := of_decide_eq_true (by first | (with_reducible assumption) | assumption)
         obtain ⟨ad315, e315, hx315_0, hx315_1, hx315_2⟩ := at_T26 HR0.out x13_1 p315 q315
         cases e315
         replace p315 := eq_true p315
         replace q315 := eq_true q315
         have p316 : 0 ≤ (x13_1 : Int) := of_decide_eq_true (by first | (with_reducible assumption) | assumption)
         have q316 : x13_1 < (l1.length : Int) := of_decide_eq_true (by first | (with_reducible assumption) | assumption)
         obtain ⟨ad316, e316, hx316_0, hx316_1, hx316_2⟩ := at_T26 HR1.out x13_1 p316 q316
         cases e316
         replace p316 := eq_true p316
         replace q316 := eq_true q316
         go_wp2
         repeat (go_quiet (fail); try go_wp2)
         go_roundg k1
         case measure => have := HK1.out; omega
         case rel => exact ⟨(wrap64 (x13_1 + 1)), (by first | rfl | (simp; done) | (simp [*]; done)), H', ⟨by have := HK1.out; omega⟩, by repeat (first | exact Drawn0.refl _ | apply Drawn0.step)⟩
       rw [if_neg c7] at H
       exact absurd H (by simp)
      rw [if_neg c6] at H
      exact absurd H (by simp)
     rw [if_neg c5] at H
     exact absurd H (by simp)
    rw [if_neg c4] at H
    have c4b0 : decide (x13_1 < (l0.length : Int)) = false := decide_eq_false c4
    clear c4
    focus
     obtain rfl := Option.some.inj H
     go_wp2
     repeat (go_quiet (fail); try go_wp2)
     go_ret
     exact ⟨by first | rfl | (simp; done) | (simp [*]; done), by repeat (first | exact Drawn0.refl _ | apply Drawn0.step)⟩
 rw [if_neg c3] at H
 have c3b0 : ((l0.length : Int) == (l1.length : Int)) = false := beq_eq_false_iff_ne.mpr c3
 have c3b1 : ((l0.length : Int) != (l1.length : Int)) = true := bne_iff_ne.mpr c3
 have c3b2 : (l0.length == l1.length) = false := by first | simpa using c3 | (simp at c3 ⊢; omega)
 focus
  obtain rfl := Option.some.inj H
  go_enter Try.func12, Try.ntmps12
  go_wp2
  repeat (go_quiet (fail); try go_wp2)
  go_ret
  exact ⟨by first | rfl | (simp; done) | (simp [*]; done), by repeat (first | exact Drawn0.refl _ | apply Drawn0.step)⟩
/-! ### impl_CountMeets: function 13 -/
def impl_CountMeets.f (k : Nat) (a0_0 : Int) (a0_1 : Int) (a0_2 : Int) (a1_0 : Int) (a1_1 : Int) (a1_2 : Int) : Option (Int × Bool) := (impl_areHands.f k (([(⟨(⟨a0_0, a0_1⟩ : S24), a0_2⟩ : S26), (⟨(⟨a1_0, a1_1⟩ : S24), a1_2⟩ : S26)] : List (S26)))).bind fun t322 => (if t322 = true then (if a0_2 = a1_2 then (some (0, false)) else (some (mx (wrap64 (a0_2 - a1_2)) (wrap64 (a1_2 - a0_2)), true))) else (some (0, false)))
theorem impl_CountMeets.mono : ∀ a0 a1 a2 a3 a4 a5 k, LeO (impl_CountMeets.f k a0 a1 a2 a3 a4 a5) (impl_CountMeets.f (k + 1) a0 a1 a2 a3 a4 a5) := by
 intro a0 a1 a2 a3 a4 a5 k
 unfold impl_CountMeets.f
 repeat' first
   | (with_reducible exact impl_areHands.mono _ _)
   | (with_reducible exact LeO.refl _)
   | (with_reducible exact LeO.none _)
   | (with_reducible refine LeO.ite ?_ ?_)
   | (with_reducible refine LeO.bind ?_ (fun _ => ?_))
   | exact impl_areHands.mono _ _
   | exact LeO.none _
   | refine LeO.ite ?_ ?_
   | refine LeO.bind ?_ (fun _ => ?_)
set_option maxHeartbeats 8000000 in
set_option maxRecDepth 100000 in
theorem impl_CountMeets.calls (k : Nat) (a0_0 : Int) (a0_1 : Int) (a0_2 : Int) (a1_0 : Int) (a1_1 : Int) (a1_2 : Int) (r1 : Int) (r2 : Bool) (w : World) (h : impl_CountMeets.f k a0_0 a0_1 a0_2 a1_0 a1_1 a1_2 = some (r1, r2)) :
  Calls Try.prog 13 #[.agg #[.int .i64 a0_0, .int .i64 a0_1, .int .i64 a0_2], .agg #[.int .i64 a1_0, .int .i64 a1_1, .int .i64 a1_2]] w fun e w' => e = .returned (.tuple #[.int .i64 r1, .bool r2]) ∧ Below w.heap.size w w' := by
 have hu26 := Try.underlying26
 have HB := Am (Below.refl w.heap.size w)
 have H : ((impl_areHands.f k (([(⟨(⟨a0_0, a0_1⟩ : S24), a0_2⟩ : S26), (⟨(⟨a1_0, a1_1⟩ : S24), a1_2⟩ : S26)] : List (S26)))).bind fun t322 => (if t322 = true then (if a0_2 = a1_2 then (some (0, false)) else (some (mx (wrap64 (a0_2 - a1_2)) (wrap64 (a1_2 - a0_2)), true))) else (some (0, false)))) = some (r1, r2) := h
 clear h
 obtain ⟨y319, hy319⟩ : ∃ y_ : List (S26), y_ = (([(⟨(⟨a0_0, a0_1⟩ : S24), a0_2⟩ : S26), (⟨(⟨a1_0, a1_1⟩ : S24), a1_2⟩ : S26)] : List (S26))) := ⟨_, rfl⟩
 replace H : ((impl_areHands.f k y319).bind fun t322 => (if t322 = true then (if a0_2 = a1_2 then (some (0, false)) else (some (mx (wrap64 (a0_2 - a1_2)) (wrap64 (a1_2 - a0_2)), true))) else (some (0, false)))) = some (r1, r2) := by first | (rw [hy319]; with_reducible exact H) | (have H2_ := (Option.bind_some _ _).symm.trans H; rw [hy319]; with_reducible exact H2_) | (have H2_ := (Option.bind_some _ _).symm.trans H; with_reducible exact H2_) | with_reducible exact H | (rw [hy319]; exact H) | exact H
 have Ny319 := Am hy319
 clear hy319
 replace H := Option.bind_eq_some_iff.mp H
 obtain ⟨t322, A30, H⟩ := H
 try dsimp only at H
 have A3 := Am A30
 clear A30
 by_cases c4 : t322 = true
 ·subst c4
  have H1 : (if a0_2 = a1_2 then (some (0, false)) else (some (mx (wrap64 (a0_2 - a1_2)) (wrap64 (a1_2 - a0_2)), true))) = some (r1, r2) := by rw [if_pos rfl] at H; exact H
  clear H
  have H := H1
  clear H1
  by_cases c5 : a0_2 = a1_2
  ·rw [if_pos c5] at H
   have c5b0 : (a0_2 == a1_2) = true := beq_iff_eq.mpr c5
   have c5b1 : (a0_2 != a1_2) = false := bne_eq_false_iff_eq.mpr c5
   clear c5
   focus
    simp only [Option.some.injEq, Prod.mk.injEq] at H
    obtain ⟨rfl, rfl⟩ := H
    go_enter Try.func13, Try.ntmps13
    go_wp2_with (first | ((with_reducible refine gate_dst (N := 2) rfl ?_); refine bE 2 #[.int .i64 a0_0, .int .i64 a0_1, .int .i64 a0_2] 26 ?_; intro gb317 hg w6 hbox hb; have hv := vK HB hb; have n0_ := Am (bT hv hb); have n1_ := Am (hbox); have GE317 := kG hg hv; clear HB; have HB := n0_; have BK317 := n1_; clear n0_ n1_ hv; clear hb hbox hg) | ((with_reducible refine gate_dst (N := 3) rfl ?_); refine bE 3 #[.int .i64 a1_0, .int .i64 a1_1, .int .i64 a1_2] 26 ?_; intro gb318 hg w7 hbox hb; have hp0 := pA BK317 hb; have hv := vK HB hb; have n1_ := Am (bT hv hb); have n2_ := Am (hbox); have GE318 := kG hg hv; have hp1 := pK BK317 hb; obtain ⟨NB317_318, NB318_317⟩ := kXY hg hp1 BK317; clear HB; replace BK317 := hp0 BK317; have HB := n1_; have BK318 := n2_; clear n1_ n2_ hp0 hp1 hv; clear hb hbox hg; have nq8 := kO NB317_318; have zq9 := c3 BK317; have zq10 := c3 BK318) | ((with_reducible refine gate_dst (N := 8) rfl ?_); refine Kd.R_lit k26 _ 26 ?hg (N := 8) ?hd (xs := ([(⟨(⟨a0_0, a0_1⟩ : S24), a0_2⟩ : S26), (⟨(⟨a1_0, a1_1⟩ : S24), a1_2⟩ : S26)] : List (S26))) (inner := [.int .i64 a0_0, .int .i64 a0_1, .int .i64 a0_2, .int .i64 a1_0, .int .i64 a1_1, .int .i64 a1_2]) (ok := fun _ => True) (okp := fun _ => True) ?hr ?hp (fun _ hk => hk) trivial (Below.refl _ _) (Nat.le_refl _) (by simp) ?_; (case hd => rfl); (case hg => rfl); (case hr => first | (go_simp; done) | (go_simp; rfl)); (case hp => exact (Reps.c3 (show Kd.M k26 _ _ _ (⟨(⟨a0_0, a0_1⟩ : S24), a0_2⟩ : S26) [.int .i64 a0_0, .int .i64 a0_1, .int .i64 a0_2] from (k26_mkM _ _ _ (⟨(⟨a0_0, a0_1⟩ : S24), a0_2⟩ : S26) )) (Reps.c3 (show Kd.M k26 _ _ _ (⟨(⟨a1_0, a1_1⟩ : S24), a1_2⟩ : S26) [.int .i64 a1_0, .int .i64 a1_1, .int .i64 a1_2] from (k26_mkM _ _ _ (⟨(⟨a1_0, a1_1⟩ : S24), a1_2⟩ : S26) )) (Reps.none _ _)))); intro v320 w11 ho12 hb hg_ hnew_; clear hg_ hnew_; (first | rw [← Ny319.out] at ho12 | (simp only [Int.reduceToNat] at ho12; rw [← Ny319.out] at ho12)); have n0_ := Am (Kd.R_lower (Kd.R_newB (Kd.R_newB ho12 (g := gb317) (o := .cells #[.int .i64 a0_0, .int .i64 a0_1, .int .i64 a0_2] 26 (0, 0)) (kU BK317)) (g := gb318) (o := .cells #[.int .i64 a1_0, .int .i64 a1_1, .int .i64 a1_2] 26 (0, 0)) (kU BK318)) (bZ (by repeat (first | (with_reducible first | exact HB.out | apply bA | apply bN | apply bD | refine bX ?_ (by assumption)) | exact HB.out)))); have hp0 := pA BK317 hb; have hv := vK HB hb; have n3_ := Am (bT hv hb); clear HB; have HO321 := n0_; replace BK317 := hp0 BK317; replace BK318 := hp0 BK318; have HB := n3_; clear n0_ n3_ hp0 hv; clear hb ho12; obtain ⟨Ao13, co13, eo13⟩ := Kd.R_slice HO321.out; subst eo13) | ((with_reducible refine gate_callee (f := 20) rfl ?_); refine gL (some 9) Try.func20 #[.slice Ao13 y319.length co13] rfl ?_; (with_reducible refine (impl_areHands.calls k _ _ y319 true _ ?side1 ?side2 A3.out).mono ?_); (case side1 => repeat (first | exact (Kd.R_reads' HO321.out).2.2 | (with_reducible refine Kd.C_alloc ?_ _) | (with_reducible refine Kd.C_drewN ?_ _) | (with_reducible refine Kd.C_drew ?_))); (case side2 => exact (Kd.R_reads' HO321.out).2.1); rintro e w14 ⟨rfl, hb⟩; refine ⟨_, rfl, ?_⟩; have n0_ := Am (Kd.R_below (kW HO321) hb); have hp0 := pA BK317 hb; have hv := vK HB hb; have n3_ := Am (bT hv hb); clear HO321; clear HB; have HO321 := n0_; replace BK317 := hp0 BK317; replace BK318 := hp0 BK318; have HB := n3_; clear n0_ n3_ hp0 hv; (try clear hb); have zq15 := c3 BK317; have zq16 := c3 BK318))
    go_ret2
    exact ⟨by first | rfl | (simp [errW_none, errW_some] <;> rfl) | (simp [*, errW_none, errW_some] <;> rfl), by repeat (first | (with_reducible first | exact HB.out | apply bA | apply bN | apply bD | refine bX ?_ (by assumption)) | exact HB.out)⟩
  rw [if_neg c5] at H
  have c5b0 : (a0_2 == a1_2) = false := beq_eq_false_iff_ne.mpr c5
  have c5b1 : (a0_2 != a1_2) = true := bne_iff_ne.mpr c5
  obtain ⟨ji17, hji17⟩ : ∃ j_ : Int, (mx (wrap64 (a0_2 - a1_2)) (wrap64 (a1_2 - a0_2))) = j_ := ⟨_, rfl⟩
  replace H : (some (ji17, true)) = some (r1, r2) := by first | (rw [hji17] at H; exact H) | (simp only [hji17] at H ⊢; exact H)
  (try rw [hji17] at A3)
  have hji17_ : (if (wrap64 (a0_2 - a1_2)) < (wrap64 (a1_2 - a0_2)) then (wrap64 (a1_2 - a0_2)) else (wrap64 (a0_2 - a1_2))) = ji17 := hji17
  focus
   simp only [Option.some.injEq, Prod.mk.injEq] at H
   obtain ⟨rfl, rfl⟩ := H
   go_enter Try.func13, Try.ntmps13
   go_wp2_with (first | ((with_reducible refine gate_dst (N := 2) rfl ?_); refine bE 2 #[.int .i64 a0_0, .int .i64 a0_1, .int .i64 a0_2] 26 ?_; intro gb317 hg w18 hbox hb; have hv := vK HB hb; have n0_ := Am (bT hv hb); have n1_ := Am (hbox); have GE317 := kG hg hv; clear HB; have HB := n0_; have BK317 := n1_; clear n0_ n1_ hv; clear hb hbox hg) | ((with_reducible refine gate_dst (N := 3) rfl ?_); refine bE 3 #[.int .i64 a1_0, .int .i64 a1_1, .int .i64 a1_2] 26 ?_; intro gb318 hg w19 hbox hb; have hp0 := pA BK317 hb; have hv := vK HB hb; have n1_ := Am (bT hv hb); have n2_ := Am (hbox); have GE318 := kG hg hv; have hp1 := pK BK317 hb; obtain ⟨NB317_318, NB318_317⟩ := kXY hg hp1 BK317; clear HB; replace BK317 := hp0 BK317; have HB := n1_; have BK318 := n2_; clear n1_ n2_ hp0 hp1 hv; clear hb hbox hg; have nq20 := kO NB317_318; have zq21 := c3 BK317; have zq22 := c3 BK318) | ((with_reducible refine gate_dst (N := 8) rfl ?_); refine Kd.R_lit k26 _ 26 ?hg (N := 8) ?hd (xs := ([(⟨(⟨a0_0, a0_1⟩ : S24), a0_2⟩ : S26), (⟨(⟨a1_0, a1_1⟩ : S24), a1_2⟩ : S26)] : List (S26))) (inner := [.int .i64 a0_0, .int .i64 a0_1, .int .i64 a0_2, .int .i64 a1_0, .int .i64 a1_1, .int .i64 a1_2]) (ok := fun _ => True) (okp := fun _ => True) ?hr ?hp (fun _ hk => hk) trivial (Below.refl _ _) (Nat.le_refl _) (by simp) ?_; (case hd => rfl); (case hg => rfl); (case hr => first | (go_simp; done) | (go_simp; rfl)); (case hp => exact (Reps.c3 (show Kd.M k26 _ _ _ (⟨(⟨a0_0, a0_1⟩ : S24), a0_2⟩ : S26) [.int .i64 a0_0, .int .i64 a0_1, .int .i64 a0_2] from (k26_mkM _ _ _ (⟨(⟨a0_0, a0_1⟩ : S24), a0_2⟩ : S26) )) (Reps.c3 (show Kd.M k26 _ _ _ (⟨(⟨a1_0, a1_1⟩ : S24), a1_2⟩ : S26) [.int .i64 a1_0, .int .i64 a1_1, .int .i64 a1_2] from (k26_mkM _ _ _ (⟨(⟨a1_0, a1_1⟩ : S24), a1_2⟩ : S26) )) (Reps.none _ _)))); intro v320 w23 ho24 hb hg_ hnew_; clear hg_ hnew_; (first | rw [← Ny319.out] at ho24 | (simp only [Int.reduceToNat] at ho24; rw [← Ny319.out] at ho24)); have n0_ := Am (Kd.R_lower (Kd.R_newB (Kd.R_newB ho24 (g := gb317) (o := .cells #[.int .i64 a0_0, .int .i64 a0_1, .int .i64 a0_2] 26 (0, 0)) (kU BK317)) (g := gb318) (o := .cells #[.int .i64 a1_0, .int .i64 a1_1, .int .i64 a1_2] 26 (0, 0)) (kU BK318)) (bZ (by repeat (first | (with_reducible first | exact HB.out | apply bA | apply bN | apply bD | refine bX ?_ (by assumption)) | exact HB.out)))); have hp0 := pA BK317 hb; have hv := vK HB hb; have n3_ := Am (bT hv hb); clear HB; have HO321 := n0_; replace BK317 := hp0 BK317; replace BK318 := hp0 BK318; have HB := n3_; clear n0_ n3_ hp0 hv; clear hb ho24; obtain ⟨Ao25, co25, eo25⟩ := Kd.R_slice HO321.out; subst eo25) | ((with_reducible refine gate_callee (f := 20) rfl ?_); refine gL (some 9) Try.func20 #[.slice Ao25 y319.length co25] rfl ?_; (with_reducible refine (impl_areHands.calls k _ _ y319 true _ ?side1 ?side2 A3.out).mono ?_); (case side1 => repeat (first | exact (Kd.R_reads' HO321.out).2.2 | (with_reducible refine Kd.C_alloc ?_ _) | (with_reducible refine Kd.C_drewN ?_ _) | (with_reducible refine Kd.C_drew ?_))); (case side2 => exact (Kd.R_reads' HO321.out).2.1); rintro e w26 ⟨rfl, hb⟩; refine ⟨_, rfl, ?_⟩; have n0_ := Am (Kd.R_below (kW HO321) hb); have hp0 := pA BK317 hb; have hv := vK HB hb; have n3_ := Am (bT hv hb); clear HO321; clear HB; have HO321 := n0_; replace BK317 := hp0 BK317; replace BK318 := hp0 BK318; have HB := n3_; clear n0_ n3_ hp0 hv; (try clear hb); have zq27 := c3 BK317; have zq28 := c3 BK318))
   go_ret2
   exact ⟨by first | rfl | (simp [errW_none, errW_some] <;> rfl) | (simp only [← hji17]; first | rfl | (simp [errW_none, errW_some] <;> rfl)) | (simp [*, errW_none, errW_some] <;> rfl), by repeat (first | (with_reducible first | exact HB.out | apply bA | apply bN | apply bD | refine bX ?_ (by assumption)) | exact HB.out)⟩
 replace c4 := Bool.eq_false_iff.mpr c4
 subst c4
 have H1 : (some (0, false)) = some (r1, r2) := by rw [if_neg (show ¬ (false = true) by decide)] at H; exact H
 clear H
 have H := H1
 clear H1
 focus
  simp only [Option.some.injEq, Prod.mk.injEq] at H
  obtain ⟨rfl, rfl⟩ := H
  go_enter Try.func13, Try.ntmps13
  go_wp2_with (first | ((with_reducible refine gate_dst (N := 2) rfl ?_); refine bE 2 #[.int .i64 a0_0, .int .i64 a0_1, .int .i64 a0_2] 26 ?_; intro gb317 hg w29 hbox hb; have hv := vK HB hb; have n0_ := Am (bT hv hb); have n1_ := Am (hbox); have GE317 := kG hg hv; clear HB; have HB := n0_; have BK317 := n1_; clear n0_ n1_ hv; clear hb hbox hg) | ((with_reducible refine gate_dst (N := 3) rfl ?_); refine bE 3 #[.int .i64 a1_0, .int .i64 a1_1, .int .i64 a1_2] 26 ?_; intro gb318 hg w30 hbox hb; have hp0 := pA BK317 hb; have hv := vK HB hb; have n1_ := Am (bT hv hb); have n2_ := Am (hbox); have GE318 := kG hg hv; have hp1 := pK BK317 hb; obtain ⟨NB317_318, NB318_317⟩ := kXY hg hp1 BK317; clear HB; replace BK317 := hp0 BK317; have HB := n1_; have BK318 := n2_; clear n1_ n2_ hp0 hp1 hv; clear hb hbox hg; have nq31 := kO NB317_318; have zq32 := c3 BK317; have zq33 := c3 BK318) | ((with_reducible refine gate_dst (N := 8) rfl ?_); refine Kd.R_lit k26 _ 26 ?hg (N := 8) ?hd (xs := ([(⟨(⟨a0_0, a0_1⟩ : S24), a0_2⟩ : S26), (⟨(⟨a1_0, a1_1⟩ : S24), a1_2⟩ : S26)] : List (S26))) (inner := [.int .i64 a0_0, .int .i64 a0_1, .int .i64 a0_2, .int .i64 a1_0, .int .i64 a1_1, .int .i64 a1_2]) (ok := fun _ => True) (okp := fun _ => True) ?hr ?hp (fun _ hk => hk) trivial (Below.refl _ _) (Nat.le_refl _) (by simp) ?_; (case hd => rfl); (case hg => rfl); (case hr => first | (go_simp; done) | (go_simp; rfl)); (case hp => exact (Reps.c3 (show Kd.M k26 _ _ _ (⟨(⟨a0_0, a0_1⟩ : S24), a0_2⟩ : S26) [.int .i64 a0_0, .int .i64 a0_1, .int .i64 a0_2] from (k26_mkM _ _ _ (⟨(⟨a0_0, a0_1⟩ : S24), a0_2⟩ : S26) )) (Reps.c3 (show Kd.M k26 _ _ _ (⟨(⟨a1_0, a1_1⟩ : S24), a1_2⟩ : S26) [.int .i64 a1_0, .int .i64 a1_1, .int .i64 a1_2] from (k26_mkM _ _ _ (⟨(⟨a1_0, a1_1⟩ : S24), a1_2⟩ : S26) )) (Reps.none _ _)))); intro v320 w34 ho35 hb hg_ hnew_; clear hg_ hnew_; (first | rw [← Ny319.out] at ho35 | (simp only [Int.reduceToNat] at ho35; rw [← Ny319.out] at ho35)); have n0_ := Am (Kd.R_lower (Kd.R_newB (Kd.R_newB ho35 (g := gb317) (o := .cells #[.int .i64 a0_0, .int .i64 a0_1, .int .i64 a0_2] 26 (0, 0)) (kU BK317)) (g := gb318) (o := .cells #[.int .i64 a1_0, .int .i64 a1_1, .int .i64 a1_2] 26 (0, 0)) (kU BK318)) (bZ (by repeat (first | (with_reducible first | exact HB.out | apply bA | apply bN | apply bD | refine bX ?_ (by assumption)) | exact HB.out)))); have hp0 := pA BK317 hb; have hv := vK HB hb; have n3_ := Am (bT hv hb); clear HB; have HO321 := n0_; replace BK317 := hp0 BK317; replace BK318 := hp0 BK318; have HB := n3_; clear n0_ n3_ hp0 hv; clear hb ho35; obtain ⟨Ao36, co36, eo36⟩ := Kd.R_slice HO321.out; subst eo36) | ((with_reducible refine gate_callee (f := 20) rfl ?_); refine gL (some 9) Try.func20 #[.slice Ao36 y319.length co36] rfl ?_; (with_reducible refine (impl_areHands.calls k _ _ y319 false _ ?side1 ?side2 A3.out).mono ?_); (case side1 => repeat (first | exact (Kd.R_reads' HO321.out).2.2 | (with_reducible refine Kd.C_alloc ?_ _) | (with_reducible refine Kd.C_drewN ?_ _) | (with_reducible refine Kd.C_drew ?_))); (case side2 => exact (Kd.R_reads' HO321.out).2.1); rintro e w37 ⟨rfl, hb⟩; refine ⟨_, rfl, ?_⟩; have n0_ := Am (Kd.R_below (kW HO321) hb); have hp0 := pA BK317 hb; have hv := vK HB hb; have n3_ := Am (bT hv hb); clear HO321; clear HB; have HO321 := n0_; replace BK317 := hp0 BK317; replace BK318 := hp0 BK318; have HB := n3_; clear n0_ n3_ hp0 hv; (try clear hb)))
  go_ret2
  exact ⟨by first | rfl | (simp [errW_none, errW_some] <;> rfl) | (simp [*, errW_none, errW_some] <;> rfl), by repeat (first | (with_reducible first | exact HB.out | apply bA | apply bN | apply bD | refine bX ?_ (by assumption)) | exact HB.out)⟩
/-! ### impl_TimeOf: function 14 -/
def impl_TimeOf.f (k : Nat) (a0 : Int) (a1 : Int) (a2 : Int) (a3 : Int) : Option (Int × Int × Bool) := (impl_isDial.f a0).bind fun t324 => (if t324 = true then ((impl_within.f a1 0 (wrap64 (a0 - 1))).bind fun t325 => (if t325 = true then ((impl_within.f a2 0 59).bind fun t326 => (if t326 = true then ((impl_within.f a3 0 59).bind fun t327 => (if t327 = true then ((impl_part.f k (wrap64 ((wrap64 ((wrap64 (a1 * 3600)) + (wrap64 (a2 * 60)))) + a3)) (wrap64 (a0 * 3600))).bind fun bt328 => (some (bt328.1, bt328.2, true))) else (some (0, 0, false)))) else (some (0, 0, false)))) else (some (0, 0, false)))) else (some (0, 0, false)))
theorem impl_TimeOf.mono : ∀ a0 a1 a2 a3 k, LeO (impl_TimeOf.f k a0 a1 a2 a3) (impl_TimeOf.f (k + 1) a0 a1 a2 a3) := by
 intro a0 a1 a2 a3 k
 unfold impl_TimeOf.f
 repeat' first
   | (with_reducible exact impl_part.mono _ _ _)
   | (with_reducible exact LeO.refl _)
   | (with_reducible exact LeO.none _)
   | (with_reducible refine LeO.ite ?_ ?_)
   | (with_reducible refine LeO.bind ?_ (fun _ => ?_))
   | exact impl_part.mono _ _ _
   | exact LeO.none _
   | refine LeO.ite ?_ ?_
   | refine LeO.bind ?_ (fun _ => ?_)
set_option maxHeartbeats 8000000 in
set_option maxRecDepth 100000 in
theorem impl_TimeOf.calls (k : Nat) (a0 : Int) (a1 : Int) (a2 : Int) (a3 : Int) (r1 : Int) (r2 : Int) (r3 : Bool) (w : World) (h : impl_TimeOf.f k a0 a1 a2 a3 = some (r1, r2, r3)) :
  Calls Try.prog 14 #[.int .i64 a0, .int .i64 a1, .int .i64 a2, .int .i64 a3] w fun e w' => e = .returned (.tuple #[.agg #[.int .i64 r1, .int .i64 r2], .bool r3]) ∧ Below w.heap.size w w' := by
 have hu24 := Try.underlying24
 have HB := Am (Below.refl w.heap.size w)
 have H : ((impl_isDial.f a0).bind fun t324 => (if t324 = true then ((impl_within.f a1 0 (wrap64 (a0 - 1))).bind fun t325 => (if t325 = true then ((impl_within.f a2 0 59).bind fun t326 => (if t326 = true then ((impl_within.f a3 0 59).bind fun t327 => (if t327 = true then ((impl_part.f k (wrap64 ((wrap64 ((wrap64 (a1 * 3600)) + (wrap64 (a2 * 60)))) + a3)) (wrap64 (a0 * 3600))).bind fun bt328 => (some (bt328.1, bt328.2, true))) else (some (0, 0, false)))) else (some (0, 0, false)))) else (some (0, 0, false)))) else (some (0, 0, false)))) = some (r1, r2, r3) := h
 clear h
 replace H := Option.bind_eq_some_iff.mp H
 obtain ⟨t324, A50, H⟩ := H
 try dsimp only at H
 have A5 := Am A50
 clear A50
 by_cases c6 : t324 = true
 ·subst c6
  have H1 : ((impl_within.f a1 0 (wrap64 (a0 - 1))).bind fun t325 => (if t325 = true then ((impl_within.f a2 0 59).bind fun t326 => (if t326 = true then ((impl_within.f a3 0 59).bind fun t327 => (if t327 = true then ((impl_part.f k (wrap64 ((wrap64 ((wrap64 (a1 * 3600)) + (wrap64 (a2 * 60)))) + a3)) (wrap64 (a0 * 3600))).bind fun bt328 => (some (bt328.1, bt328.2, true))) else (some (0, 0, false)))) else (some (0, 0, false)))) else (some (0, 0, false)))) = some (r1, r2, r3) := by rw [if_pos rfl] at H; exact H
  clear H
  have H := H1
  clear H1
  replace H := Option.bind_eq_some_iff.mp H
  obtain ⟨t325, A70, H⟩ := H
  try dsimp only at H
  have A7 := Am A70
  clear A70
  by_cases c8 : t325 = true
  ·subst c8
   have H1 : ((impl_within.f a2 0 59).bind fun t326 => (if t326 = true then ((impl_within.f a3 0 59).bind fun t327 => (if t327 = true then ((impl_part.f k (wrap64 ((wrap64 ((wrap64 (a1 * 3600)) + (wrap64 (a2 * 60)))) + a3)) (wrap64 (a0 * 3600))).bind fun bt328 => (some (bt328.1, bt328.2, true))) else (some (0, 0, false)))) else (some (0, 0, false)))) = some (r1, r2, r3) := by rw [if_pos rfl] at H; exact H
   clear H
   have H := H1
   clear H1
   replace H := Option.bind_eq_some_iff.mp H
   obtain ⟨t326, A90, H⟩ := H
   try dsimp only at H
   have A9 := Am A90
   clear A90
   by_cases c10 : t326 = true
   ·subst c10
    have H1 : ((impl_within.f a3 0 59).bind fun t327 => (if t327 = true then ((impl_part.f k (wrap64 ((wrap64 ((wrap64 (a1 * 3600)) + (wrap64 (a2 * 60)))) + a3)) (wrap64 (a0 * 3600))).bind fun bt328 => (some (bt328.1, bt328.2, true))) else (some (0, 0, false)))) = some (r1, r2, r3) := by rw [if_pos rfl] at H; exact H
    clear H
    have H := H1
    clear H1
    replace H := Option.bind_eq_some_iff.mp H
    obtain ⟨t327, A110, H⟩ := H
    try dsimp only at H
    have A11 := Am A110
    clear A110
    by_cases c12 : t327 = true
    ·subst c12
     have H1 : ((impl_part.f k (wrap64 ((wrap64 ((wrap64 (a1 * 3600)) + (wrap64 (a2 * 60)))) + a3)) (wrap64 (a0 * 3600))).bind fun bt328 => (some (bt328.1, bt328.2, true))) = some (r1, r2, r3) := by rw [if_pos rfl] at H; exact H
     clear H
     have H := H1
     clear H1
     replace H := Option.bind_eq_some_iff.mp H
     obtain ⟨⟨t328, t329⟩, A130, H⟩ := H
     try dsimp only at H
     have A13 := Am A130
     clear A130
     focus
      simp only [Option.some.injEq, Prod.mk.injEq] at H
      obtain ⟨rfl, rfl, rfl⟩ := H
      go_enter Try.func14, Try.ntmps14
      go_wp2_with (first | ((with_reducible refine gate_dst (N := 8) rfl ?_); refine bE 8 #[.int .i64 0, .int .i64 0] 24 ?_; intro gb323 hg w14 hbox hb; have hv := vK HB hb; have n0_ := Am (bT hv hb); have n1_ := Am (hbox); have GE323 := kG hg hv; clear HB; have HB := n0_; have BK323 := n1_; clear n0_ n1_ hv; clear hb hbox hg) | ((with_reducible refine gate_callee (f := 31) rfl ?_); refine gL (some 11) Try.func31 #[.int .i64 a0] rfl ?_; (with_reducible refine (impl_isDial.calls a0 true _ A5.out).mono ?_); rintro e w' ⟨rfl, ⟨nd, rfl⟩⟩; refine ⟨_, rfl, ?_⟩; (try (rw [drewN_self w14]; generalize hq_ : World.drewN w14 _ = w14; have n0_ : Aside0 (w14.heap[gb323]? = some (.cells #[.int .i64 0, .int .i64 0] 24 (0, 0))) := ⟨by rw [← hq_]; exact (kU BK323)⟩; have n1_ : Aside0 (Below w.heap.size w w14) := ⟨by rw [← hq_]; exact (by repeat (first | (with_reducible first | exact HB.out | apply bA | apply bN | apply bD | refine bX ?_ (by assumption)) | exact HB.out))⟩; clear BK323 HB hq_; have BK323 := n0_; have HB := n1_; clear n0_ n1_))) | (go_at_call 19; (with_reducible refine (impl_within.calls a1 0 (wrap64 (a0 - 1)) true _ A7.out).mono ?_); rintro e w' ⟨rfl, ⟨nd, rfl⟩⟩; (try (rw [drewN_self w14]; generalize hq_ : World.drewN w14 _ = w14; have n0_ : Aside0 (w14.heap[gb323]? = some (.cells #[.int .i64 0, .int .i64 0] 24 (0, 0))) := ⟨by rw [← hq_]; exact (kU BK323)⟩; have n1_ : Aside0 (Below w.heap.size w w14) := ⟨by rw [← hq_]; exact (by repeat (first | (with_reducible first | exact HB.out | apply bA | apply bN | apply bD | refine bX ?_ (by assumption)) | exact HB.out))⟩; clear BK323 HB hq_; have BK323 := n0_; have HB := n1_; clear n0_ n1_))) | (go_at_call 19; (with_reducible refine (impl_within.calls a2 0 59 true _ A9.out).mono ?_); rintro e w' ⟨rfl, ⟨nd, rfl⟩⟩; (try (rw [drewN_self w14]; generalize hq_ : World.drewN w14 _ = w14; have n0_ : Aside0 (w14.heap[gb323]? = some (.cells #[.int .i64 0, .int .i64 0] 24 (0, 0))) := ⟨by rw [← hq_]; exact (kU BK323)⟩; have n1_ : Aside0 (Below w.heap.size w w14) := ⟨by rw [← hq_]; exact (by repeat (first | (with_reducible first | exact HB.out | apply bA | apply bN | apply bD | refine bX ?_ (by assumption)) | exact HB.out))⟩; clear BK323 HB hq_; have BK323 := n0_; have HB := n1_; clear n0_ n1_))) | (go_at_call 19; (with_reducible refine (impl_within.calls a3 0 59 true _ A11.out).mono ?_); rintro e w' ⟨rfl, ⟨nd, rfl⟩⟩; (try (rw [drewN_self w14]; generalize hq_ : World.drewN w14 _ = w14; have n0_ : Aside0 (w14.heap[gb323]? = some (.cells #[.int .i64 0, .int .i64 0] 24 (0, 0))) := ⟨by rw [← hq_]; exact (kU BK323)⟩; have n1_ : Aside0 (Below w.heap.size w w14) := ⟨by rw [← hq_]; exact (by repeat (first | (with_reducible first | exact HB.out | apply bA | apply bN | apply bD | refine bX ?_ (by assumption)) | exact HB.out))⟩; clear BK323 HB hq_; have BK323 := n0_; have HB := n1_; clear n0_ n1_))) | ((with_reducible refine gate_callee (f := 33) rfl ?_); refine gL (some 40) Try.func33 #[.int .i64 (wrap64 ((wrap64 ((wrap64 (a1 * 3600)) + (wrap64 (a2 * 60)))) + a3)), .int .i64 (wrap64 (a0 * 3600))] rfl ?_; (with_reducible refine (impl_part.calls k (wrap64 ((wrap64 ((wrap64 (a1 * 3600)) + (wrap64 (a2 * 60)))) + a3)) (wrap64 (a0 * 3600)) t328 t329 _ A13.out).mono ?_); rintro e w15 ⟨rfl, hb⟩; refine ⟨_, rfl, ?_⟩; have hp0 := pA BK323 hb; have hv := vK HB hb; have n1_ := Am (bT hv hb); clear HB; replace BK323 := hp0 BK323; have HB := n1_; clear n1_ hp0 hv; (try clear hb); have zq16 := c2 BK323))
      refine bodyPost_ret (results_ct rfl _ _ gb323 24 #[.int .i64 t328, .int .i64 t329] (0, 0) _ rfl (by (with_reducible repeat (first | refine kN ?_ _ | refine kD ?_ | refine kA ?_ _)); refine kP (cs := #[.int .i64 t328, .int .i64 0]) ?_ 1 _ rfl; (with_reducible repeat (first | refine kN ?_ _ | refine kD ?_ | refine kA ?_ _)); refine kP (cs := #[.int .i64 0, .int .i64 0]) ?_ 0 _ rfl; (with_reducible repeat (first | refine kN ?_ _ | refine kD ?_ | refine kA ?_ _)); exact BK323.out) Try.underlying24 rfl (by kernel_rfl)) rfl ?_
      exact ⟨by first | rfl | (simp [errW_none, errW_some] <;> rfl) | (simp [*, errW_none, errW_some] <;> rfl), by repeat (first | (with_reducible first | exact HB.out | apply bA | apply bN | apply bD | refine bX ?_ (by assumption)) | exact HB.out)⟩
    replace c12 := Bool.eq_false_iff.mpr c12
    subst c12
    have H1 : (some (0, 0, false)) = some (r1, r2, r3) := by rw [if_neg (show ¬ (false = true) by decide)] at H; exact H
    clear H
    have H := H1
    clear H1
    focus
     simp only [Option.some.injEq, Prod.mk.injEq] at H
     obtain ⟨rfl, rfl, rfl⟩ := H
     go_enter Try.func14, Try.ntmps14
     go_wp2_with (first | ((with_reducible refine gate_dst (N := 8) rfl ?_); refine bE 8 #[.int .i64 0, .int .i64 0] 24 ?_; intro gb323 hg w17 hbox hb; have hv := vK HB hb; have n0_ := Am (bT hv hb); have n1_ := Am (hbox); have GE323 := kG hg hv; clear HB; have HB := n0_; have BK323 := n1_; clear n0_ n1_ hv; clear hb hbox hg) | ((with_reducible refine gate_callee (f := 31) rfl ?_); refine gL (some 11) Try.func31 #[.int .i64 a0] rfl ?_; (with_reducible refine (impl_isDial.calls a0 true _ A5.out).mono ?_); rintro e w' ⟨rfl, ⟨nd, rfl⟩⟩; refine ⟨_, rfl, ?_⟩; (try (rw [drewN_self w17]; generalize hq_ : World.drewN w17 _ = w17; have n0_ : Aside0 (w17.heap[gb323]? = some (.cells #[.int .i64 0, .int .i64 0] 24 (0, 0))) := ⟨by rw [← hq_]; exact (kU BK323)⟩; have n1_ : Aside0 (Below w.heap.size w w17) := ⟨by rw [← hq_]; exact (by repeat (first | (with_reducible first | exact HB.out | apply bA | apply bN | apply bD | refine bX ?_ (by assumption)) | exact HB.out))⟩; clear BK323 HB hq_; have BK323 := n0_; have HB := n1_; clear n0_ n1_))) | (go_at_call 19; (with_reducible refine (impl_within.calls a1 0 (wrap64 (a0 - 1)) true _ A7.out).mono ?_); rintro e w' ⟨rfl, ⟨nd, rfl⟩⟩; (try (rw [drewN_self w17]; generalize hq_ : World.drewN w17 _ = w17; have n0_ : Aside0 (w17.heap[gb323]? = some (.cells #[.int .i64 0, .int .i64 0] 24 (0, 0))) := ⟨by rw [← hq_]; exact (kU BK323)⟩; have n1_ : Aside0 (Below w.heap.size w w17) := ⟨by rw [← hq_]; exact (by repeat (first | (with_reducible first | exact HB.out | apply bA | apply bN | apply bD | refine bX ?_ (by assumption)) | exact HB.out))⟩; clear BK323 HB hq_; have BK323 := n0_; have HB := n1_; clear n0_ n1_))) | (go_at_call 19; (with_reducible refine (impl_within.calls a2 0 59 true _ A9.out).mono ?_); rintro e w' ⟨rfl, ⟨nd, rfl⟩⟩; (try (rw [drewN_self w17]; generalize hq_ : World.drewN w17 _ = w17; have n0_ : Aside0 (w17.heap[gb323]? = some (.cells #[.int .i64 0, .int .i64 0] 24 (0, 0))) := ⟨by rw [← hq_]; exact (kU BK323)⟩; have n1_ : Aside0 (Below w.heap.size w w17) := ⟨by rw [← hq_]; exact (by repeat (first | (with_reducible first | exact HB.out | apply bA | apply bN | apply bD | refine bX ?_ (by assumption)) | exact HB.out))⟩; clear BK323 HB hq_; have BK323 := n0_; have HB := n1_; clear n0_ n1_))) | (go_at_call 19; (with_reducible refine (impl_within.calls a3 0 59 false _ A11.out).mono ?_); rintro e w' ⟨rfl, ⟨nd, rfl⟩⟩; (try (rw [drewN_self w17]; generalize hq_ : World.drewN w17 _ = w17; have n0_ : Aside0 (w17.heap[gb323]? = some (.cells #[.int .i64 0, .int .i64 0] 24 (0, 0))) := ⟨by rw [← hq_]; exact (kU BK323)⟩; have n1_ : Aside0 (Below w.heap.size w w17) := ⟨by rw [← hq_]; exact (by repeat (first | (with_reducible first | exact HB.out | apply bA | apply bN | apply bD | refine bX ?_ (by assumption)) | exact HB.out))⟩; clear BK323 HB hq_; have BK323 := n0_; have HB := n1_; clear n0_ n1_)); have zq18 := c2 BK323))
     refine bodyPost_ret (results_ct rfl _ _ gb323 24 #[.int .i64 0, .int .i64 0] (0, 0) _ rfl (by (with_reducible repeat (first | refine kN ?_ _ | refine kD ?_ | refine kA ?_ _)); refine kP (cs := #[.int .i64 0, .int .i64 0]) ?_ 1 _ rfl; (with_reducible repeat (first | refine kN ?_ _ | refine kD ?_ | refine kA ?_ _)); refine kP (cs := #[.int .i64 0, .int .i64 0]) ?_ 0 _ rfl; (with_reducible repeat (first | refine kN ?_ _ | refine kD ?_ | refine kA ?_ _)); exact BK323.out) Try.underlying24 rfl (by kernel_rfl)) rfl ?_
     exact ⟨by first | rfl | (simp [errW_none, errW_some] <;> rfl) | (simp [*, errW_none, errW_some] <;> rfl), by repeat (first | (with_reducible first | exact HB.out | apply bA | apply bN | apply bD | refine bX ?_ (by assumption)) | exact HB.out)⟩
   replace c10 := Bool.eq_false_iff.mpr c10
   subst c10
   have H1 : (some (0, 0, false)) = some (r1, r2, r3) := by rw [if_neg (show ¬ (false = true) by decide)] at H; exact H
   clear H
   have H := H1
   clear H1
   focus
    simp only [Option.some.injEq, Prod.mk.injEq] at H
    obtain ⟨rfl, rfl, rfl⟩ := H
    go_enter Try.func14, Try.ntmps14
    go_wp2_with (first | ((with_reducible refine gate_dst (N := 8) rfl ?_); refine bE 8 #[.int .i64 0, .int .i64 0] 24 ?_; intro gb323 hg w19 hbox hb; have hv := vK HB hb; have n0_ := Am (bT hv hb); have n1_ := Am (hbox); have GE323 := kG hg hv; clear HB; have HB := n0_; have BK323 := n1_; clear n0_ n1_ hv; clear hb hbox hg) | ((with_reducible refine gate_callee (f := 31) rfl ?_); refine gL (some 11) Try.func31 #[.int .i64 a0] rfl ?_; (with_reducible refine (impl_isDial.calls a0 true _ A5.out).mono ?_); rintro e w' ⟨rfl, ⟨nd, rfl⟩⟩; refine ⟨_, rfl, ?_⟩; (try (rw [drewN_self w19]; generalize hq_ : World.drewN w19 _ = w19; have n0_ : Aside0 (w19.heap[gb323]? = some (.cells #[.int .i64 0, .int .i64 0] 24 (0, 0))) := ⟨by rw [← hq_]; exact (kU BK323)⟩; have n1_ : Aside0 (Below w.heap.size w w19) := ⟨by rw [← hq_]; exact (by repeat (first | (with_reducible first | exact HB.out | apply bA | apply bN | apply bD | refine bX ?_ (by assumption)) | exact HB.out))⟩; clear BK323 HB hq_; have BK323 := n0_; have HB := n1_; clear n0_ n1_))) | (go_at_call 19; (with_reducible refine (impl_within.calls a1 0 (wrap64 (a0 - 1)) true _ A7.out).mono ?_); rintro e w' ⟨rfl, ⟨nd, rfl⟩⟩; (try (rw [drewN_self w19]; generalize hq_ : World.drewN w19 _ = w19; have n0_ : Aside0 (w19.heap[gb323]? = some (.cells #[.int .i64 0, .int .i64 0] 24 (0, 0))) := ⟨by rw [← hq_]; exact (kU BK323)⟩; have n1_ : Aside0 (Below w.heap.size w w19) := ⟨by rw [← hq_]; exact (by repeat (first | (with_reducible first | exact HB.out | apply bA | apply bN | apply bD | refine bX ?_ (by assumption)) | exact HB.out))⟩; clear BK323 HB hq_; have BK323 := n0_; have HB := n1_; clear n0_ n1_))) | (go_at_call 19; (with_reducible refine (impl_within.calls a2 0 59 false _ A9.out).mono ?_); rintro e w' ⟨rfl, ⟨nd, rfl⟩⟩; (try (rw [drewN_self w19]; generalize hq_ : World.drewN w19 _ = w19; have n0_ : Aside0 (w19.heap[gb323]? = some (.cells #[.int .i64 0, .int .i64 0] 24 (0, 0))) := ⟨by rw [← hq_]; exact (kU BK323)⟩; have n1_ : Aside0 (Below w.heap.size w w19) := ⟨by rw [← hq_]; exact (by repeat (first | (with_reducible first | exact HB.out | apply bA | apply bN | apply bD | refine bX ?_ (by assumption)) | exact HB.out))⟩; clear BK323 HB hq_; have BK323 := n0_; have HB := n1_; clear n0_ n1_)); have zq20 := c2 BK323))
    refine bodyPost_ret (results_ct rfl _ _ gb323 24 #[.int .i64 0, .int .i64 0] (0, 0) _ rfl (by (with_reducible repeat (first | refine kN ?_ _ | refine kD ?_ | refine kA ?_ _)); refine kP (cs := #[.int .i64 0, .int .i64 0]) ?_ 1 _ rfl; (with_reducible repeat (first | refine kN ?_ _ | refine kD ?_ | refine kA ?_ _)); refine kP (cs := #[.int .i64 0, .int .i64 0]) ?_ 0 _ rfl; (with_reducible repeat (first | refine kN ?_ _ | refine kD ?_ | refine kA ?_ _)); exact BK323.out) Try.underlying24 rfl (by kernel_rfl)) rfl ?_
    exact ⟨by first | rfl | (simp [errW_none, errW_some] <;> rfl) | (simp [*, errW_none, errW_some] <;> rfl), by repeat (first | (with_reducible first | exact HB.out | apply bA | apply bN | apply bD | refine bX ?_ (by assumption)) | exact HB.out)⟩
  replace c8 := Bool.eq_false_iff.mpr c8
  subst c8
  have H1 : (some (0, 0, false)) = some (r1, r2, r3) := by rw [if_neg (show ¬ (false = true) by decide)] at H; exact H
  clear H
  have H := H1
  clear H1
  focus
   simp only [Option.some.injEq, Prod.mk.injEq] at H
   obtain ⟨rfl, rfl, rfl⟩ := H
   go_enter Try.func14, Try.ntmps14
   go_wp2_with (first | ((with_reducible refine gate_dst (N := 8) rfl ?_); refine bE 8 #[.int .i64 0, .int .i64 0] 24 ?_; intro gb323 hg w21 hbox hb; have hv := vK HB hb; have n0_ := Am (bT hv hb); have n1_ := Am (hbox); have GE323 := kG hg hv; clear HB; have HB := n0_; have BK323 := n1_; clear n0_ n1_ hv; clear hb hbox hg) | ((with_reducible refine gate_callee (f := 31) rfl ?_); refine gL (some 11) Try.func31 #[.int .i64 a0] rfl ?_; (with_reducible refine (impl_isDial.calls a0 true _ A5.out).mono ?_); rintro e w' ⟨rfl, ⟨nd, rfl⟩⟩; refine ⟨_, rfl, ?_⟩; (try (rw [drewN_self w21]; generalize hq_ : World.drewN w21 _ = w21; have n0_ : Aside0 (w21.heap[gb323]? = some (.cells #[.int .i64 0, .int .i64 0] 24 (0, 0))) := ⟨by rw [← hq_]; exact (kU BK323)⟩; have n1_ : Aside0 (Below w.heap.size w w21) := ⟨by rw [← hq_]; exact (by repeat (first | (with_reducible first | exact HB.out | apply bA | apply bN | apply bD | refine bX ?_ (by assumption)) | exact HB.out))⟩; clear BK323 HB hq_; have BK323 := n0_; have HB := n1_; clear n0_ n1_))) | (go_at_call 19; (with_reducible refine (impl_within.calls a1 0 (wrap64 (a0 - 1)) false _ A7.out).mono ?_); rintro e w' ⟨rfl, ⟨nd, rfl⟩⟩; (try (rw [drewN_self w21]; generalize hq_ : World.drewN w21 _ = w21; have n0_ : Aside0 (w21.heap[gb323]? = some (.cells #[.int .i64 0, .int .i64 0] 24 (0, 0))) := ⟨by rw [← hq_]; exact (kU BK323)⟩; have n1_ : Aside0 (Below w.heap.size w w21) := ⟨by rw [← hq_]; exact (by repeat (first | (with_reducible first | exact HB.out | apply bA | apply bN | apply bD | refine bX ?_ (by assumption)) | exact HB.out))⟩; clear BK323 HB hq_; have BK323 := n0_; have HB := n1_; clear n0_ n1_)); have zq22 := c2 BK323))
   refine bodyPost_ret (results_ct rfl _ _ gb323 24 #[.int .i64 0, .int .i64 0] (0, 0) _ rfl (by (with_reducible repeat (first | refine kN ?_ _ | refine kD ?_ | refine kA ?_ _)); refine kP (cs := #[.int .i64 0, .int .i64 0]) ?_ 1 _ rfl; (with_reducible repeat (first | refine kN ?_ _ | refine kD ?_ | refine kA ?_ _)); refine kP (cs := #[.int .i64 0, .int .i64 0]) ?_ 0 _ rfl; (with_reducible repeat (first | refine kN ?_ _ | refine kD ?_ | refine kA ?_ _)); exact BK323.out) Try.underlying24 rfl (by kernel_rfl)) rfl ?_
   exact ⟨by first | rfl | (simp [errW_none, errW_some] <;> rfl) | (simp [*, errW_none, errW_some] <;> rfl), by repeat (first | (with_reducible first | exact HB.out | apply bA | apply bN | apply bD | refine bX ?_ (by assumption)) | exact HB.out)⟩
 replace c6 := Bool.eq_false_iff.mpr c6
 subst c6
 have H1 : (some (0, 0, false)) = some (r1, r2, r3) := by rw [if_neg (show ¬ (false = true) by decide)] at H; exact H
 clear H
 have H := H1
 clear H1
 focus
  simp only [Option.some.injEq, Prod.mk.injEq] at H
  obtain ⟨rfl, rfl, rfl⟩ := H
  go_enter Try.func14, Try.ntmps14
  go_wp2_with (first | ((with_reducible refine gate_dst (N := 8) rfl ?_); refine bE 8 #[.int .i64 0, .int .i64 0] 24 ?_; intro gb323 hg w23 hbox hb; have hv := vK HB hb; have n0_ := Am (bT hv hb); have n1_ := Am (hbox); have GE323 := kG hg hv; clear HB; have HB := n0_; have BK323 := n1_; clear n0_ n1_ hv; clear hb hbox hg) | ((with_reducible refine gate_callee (f := 31) rfl ?_); refine gL (some 11) Try.func31 #[.int .i64 a0] rfl ?_; (with_reducible refine (impl_isDial.calls a0 false _ A5.out).mono ?_); rintro e w' ⟨rfl, ⟨nd, rfl⟩⟩; refine ⟨_, rfl, ?_⟩; (try (rw [drewN_self w23]; generalize hq_ : World.drewN w23 _ = w23; have n0_ : Aside0 (w23.heap[gb323]? = some (.cells #[.int .i64 0, .int .i64 0] 24 (0, 0))) := ⟨by rw [← hq_]; exact (kU BK323)⟩; have n1_ : Aside0 (Below w.heap.size w w23) := ⟨by rw [← hq_]; exact (by repeat (first | (with_reducible first | exact HB.out | apply bA | apply bN | apply bD | refine bX ?_ (by assumption)) | exact HB.out))⟩; clear BK323 HB hq_; have BK323 := n0_; have HB := n1_; clear n0_ n1_)); have zq24 := c2 BK323))
  refine bodyPost_ret (results_ct rfl _ _ gb323 24 #[.int .i64 0, .int .i64 0] (0, 0) _ rfl (by (with_reducible repeat (first | refine kN ?_ _ | refine kD ?_ | refine kA ?_ _)); refine kP (cs := #[.int .i64 0, .int .i64 0]) ?_ 1 _ rfl; (with_reducible repeat (first | refine kN ?_ _ | refine kD ?_ | refine kA ?_ _)); refine kP (cs := #[.int .i64 0, .int .i64 0]) ?_ 0 _ rfl; (with_reducible repeat (first | refine kN ?_ _ | refine kD ?_ | refine kA ?_ _)); exact BK323.out) Try.underlying24 rfl (by kernel_rfl)) rfl ?_
  exact ⟨by first | rfl | (simp [errW_none, errW_some] <;> rfl) | (simp [*, errW_none, errW_some] <;> rfl), by repeat (first | (with_reducible first | exact HB.out | apply bA | apply bN | apply bD | refine bX ?_ (by assumption)) | exact HB.out)⟩
/-! ### impl_HandAt: function 15 -/
def impl_HandAt.j0 : Nat → Bool → Int → Int → Int → Int → Int → Option (Int × Int × Bool)
 | 0, _, _, _, _, _, _ => none
 | k + 1, x13, x331000, x331001, x331002, x332000, x332001 => if x13 = true then (some (0, 0, false)) else ((impl_Hand_at.f k x331000 x331001 x331002 x332000 x332001).bind fun bt335 => ((impl_ifTurn.f k bt335.1 bt335.2).bind fun bt337 => (some (bt337.1, bt337.2.1, bt337.2.2))))
def impl_HandAt.f (k : Nat) (a0_0 : Int) (a0_1 : Int) (a0_2 : Int) (a1_0 : Int) (a1_1 : Int) : Option (Int × Int × Bool) := (impl_IsHand.f k a0_0 a0_1 a0_2).bind fun t333 => (if t333 = true then ((impl_IsTurn.f k a1_0 a1_1).bind fun t334 => (impl_HandAt.j0 k (!t334) a0_0 a0_1 a0_2 a1_0 a1_1)) else (impl_HandAt.j0 k true a0_0 a0_1 a0_2 a1_0 a1_1))
theorem impl_HandAt.mono_l : ∀ k, (∀ y0 y1 y2 y3 y4 y5, LeO (impl_HandAt.j0 k y0 y1 y2 y3 y4 y5) (impl_HandAt.j0 (k + 1) y0 y1 y2 y3 y4 y5))
 | 0 => fun _ _ _ _ _ _ r h => by simp [impl_HandAt.j0] at h
 | k + 1 => by
  have ih0 := impl_HandAt.mono_l k
  ·intro y0 y1 y2 y3 y4 y5
   unfold impl_HandAt.j0
   repeat' first
   | (with_reducible apply ih0)
   | (with_reducible exact impl_Hand_at.mono _ _ _ _ _ _)
   | (with_reducible exact impl_IsHand.mono _ _ _ _)
   | (with_reducible exact impl_IsTurn.mono _ _ _)
   | (with_reducible exact impl_ifTurn.mono _ _ _)
   | (with_reducible exact LeO.refl _)
   | (with_reducible exact LeO.none _)
   | (with_reducible refine LeO.ite ?_ ?_)
   | (with_reducible refine LeO.bind ?_ (fun _ => ?_))
   | apply ih0
   | exact impl_Hand_at.mono _ _ _ _ _ _
   | exact impl_IsHand.mono _ _ _ _
   | exact impl_IsTurn.mono _ _ _
   | exact impl_ifTurn.mono _ _ _
   | exact LeO.none _
   | refine LeO.ite ?_ ?_
   | refine LeO.bind ?_ (fun _ => ?_)
theorem impl_HandAt.mono : ∀ a0 a1 a2 a3 a4 k, LeO (impl_HandAt.f k a0 a1 a2 a3 a4) (impl_HandAt.f (k + 1) a0 a1 a2 a3 a4) := by
 intro a0 a1 a2 a3 a4 k
 have ih0 := impl_HandAt.mono_l k
 unfold impl_HandAt.f
 repeat' first
   | (with_reducible apply ih0)
   | (with_reducible exact impl_Hand_at.mono _ _ _ _ _ _)
   | (with_reducible exact impl_IsHand.mono _ _ _ _)
   | (with_reducible exact impl_IsTurn.mono _ _ _)
   | (with_reducible exact impl_ifTurn.mono _ _ _)
   | (with_reducible exact LeO.refl _)
   | (with_reducible exact LeO.none _)
   | (with_reducible refine LeO.ite ?_ ?_)
   | (with_reducible refine LeO.bind ?_ (fun _ => ?_))
   | apply ih0
   | exact impl_Hand_at.mono _ _ _ _ _ _
   | exact impl_IsHand.mono _ _ _ _
   | exact impl_IsTurn.mono _ _ _
   | exact impl_ifTurn.mono _ _ _
   | exact LeO.none _
   | refine LeO.ite ?_ ?_
   | refine LeO.bind ?_ (fun _ => ?_)
set_option maxHeartbeats 8000000 in
set_option maxRecDepth 100000 in
theorem impl_HandAt.calls (k : Nat) (a0_0 : Int) (a0_1 : Int) (a0_2 : Int) (a1_0 : Int) (a1_1 : Int) (r1 : Int) (r2 : Int) (r3 : Bool) (w : World) (h : impl_HandAt.f k a0_0 a0_1 a0_2 a1_0 a1_1 = some (r1, r2, r3)) :
  Calls Try.prog 15 #[.agg #[.int .i64 a0_0, .int .i64 a0_1, .int .i64 a0_2], .agg #[.int .i64 a1_0, .int .i64 a1_1]] w fun e w' => e = .returned (.tuple #[.agg #[.int .i64 r1, .int .i64 r2], .bool r3]) ∧ Below w.heap.size w w' := by
 have hu26 := Try.underlying26; have hu24 := Try.underlying24
 have HB := Am (Below.refl w.heap.size w)
 have H : ((impl_IsHand.f k a0_0 a0_1 a0_2).bind fun t333 => (if t333 = true then ((impl_IsTurn.f k a1_0 a1_1).bind fun t334 => (impl_HandAt.j0 k (!t334) a0_0 a0_1 a0_2 a1_0 a1_1)) else (impl_HandAt.j0 k true a0_0 a0_1 a0_2 a1_0 a1_1))) = some (r1, r2, r3) := h
 clear h
 have HC3 := Am H
 clear H
 go_enter Try.func15, Try.ntmps15
 go_upto_region 1 with (first | ((with_reducible refine gate_dst (N := 2) rfl ?_); refine bE 2 #[.int .i64 a0_0, .int .i64 a0_1, .int .i64 a0_2] 26 ?_; intro gb330 hg w4 hbox hb; have hv := vK HB hb; have n0_ := Am (bT hv hb); have n1_ := Am (hbox); have GE330 := kG hg hv; clear HB; have HB := n0_; have BK330 := n1_; clear n0_ n1_ hv; clear hb hbox hg) | ((with_reducible refine gate_dst (N := 3) rfl ?_); refine bE 3 #[.int .i64 a1_0, .int .i64 a1_1] 24 ?_; intro gb331 hg w5 hbox hb; have hp0 := pA BK330 hb; have hv := vK HB hb; have n1_ := Am (bT hv hb); have n2_ := Am (hbox); have GE331 := kG hg hv; have hp1 := pK BK330 hb; obtain ⟨NB330_331, NB331_330⟩ := kXY hg hp1 BK330; clear HB; replace BK330 := hp0 BK330; have HB := n1_; have BK331 := n2_; clear n1_ n2_ hp0 hp1 hv; clear hb hbox hg) | ((with_reducible refine gate_dst (N := 4) rfl ?_); refine bE 4 #[.int .i64 0, .int .i64 0] 24 ?_; intro gb332 hg w6 hbox hb; have hp0 := pA BK330 hb; have hv := vK HB hb; have n2_ := Am (bT hv hb); have n3_ := Am (hbox); have GE332 := kG hg hv; have hp1 := pK BK330 hb; obtain ⟨NB330_332, NB332_330⟩ := kXY hg hp1 BK330; obtain ⟨NB331_332, NB332_331⟩ := kXY hg hp1 BK331; clear HB; replace BK330 := hp0 BK330; replace BK331 := hp0 BK331; have HB := n2_; have BK332 := n3_; clear n2_ n3_ hp0 hp1 hv; clear hb hbox hg))
 (try simp only [Act.put, List.setIfInBounds_toArray, List.set_cons_zero, List.set_cons_succ])
 go_cut [13] (fun v13 wc => ∃ (kq : Nat) (x13_2 : Bool), v13 = .bool x13_2 ∧ Aside0 (impl_HandAt.j0 kq x13_2 a0_0 a0_1 a0_2 a1_0 a1_1 = some (r1, r2, r3)) ∧ Aside0 (kq ≤ k) ∧ Aside0 (wc.heap[gb330]? = some (.cells #[.int .i64 a0_0, .int .i64 a0_1, .int .i64 a0_2] 26 (0, 0))) ∧ Aside0 (wc.heap[gb331]? = some (.cells #[.int .i64 a1_0, .int .i64 a1_1] 24 (0, 0))) ∧ Aside0 (wc.heap[gb332]? = some (.cells #[.int .i64 0, .int .i64 0] 24 (0, 0))) ∧ Aside0 (Below w.heap.size w wc))
 case first =>
  have H := HC3.out
  clear HC3
  replace H := Option.bind_eq_some_iff.mp H
  obtain ⟨t333, A70, H⟩ := H
  try dsimp only at H
  have A7 := Am A70
  clear A70
  by_cases c8 : t333 = true
  ·subst c8
   have H1 : ((impl_IsTurn.f k a1_0 a1_1).bind fun t334 => (impl_HandAt.j0 k (!t334) a0_0 a0_1 a0_2 a1_0 a1_1)) = some (r1, r2, r3) := by rw [if_pos rfl] at H; exact H
   clear H
   have H := H1
   clear H1
   replace H := Option.bind_eq_some_iff.mp H
   obtain ⟨t334, A90, H⟩ := H
   try dsimp only at H
   have A9 := Am A90
   clear A90
   focus
    have H' := Am H
    clear H
    have nq10 := kO NB330_331; have nq11 := kO NB330_332
    have zq12 := c3 BK330
    go_wp2_with (first | ((with_reducible refine gate_callee (f := 17) rfl ?_); refine gL (some 7) Try.func17 #[.agg #[.int .i64 a0_0, .int .i64 a0_1, .int .i64 a0_2]] rfl ?_; (with_reducible refine (impl_IsHand.calls k a0_0 a0_1 a0_2 true _ A7.out).mono ?_); rintro e w13 ⟨rfl, hb⟩; refine ⟨_, rfl, ?_⟩; have hp0 := pA BK330 hb; have hv := vK HB hb; have n3_ := Am (bT hv hb); clear HB; replace BK330 := hp0 BK330; replace BK331 := hp0 BK331; replace BK332 := hp0 BK332; have HB := n3_; clear n3_ hp0 hv; (try clear hb); have nq14 := kO NB331_332; have zq15 := c2 BK331) | (go_at_call 21; (with_reducible refine (impl_IsTurn.calls k a1_0 a1_1 t334 _ A9.out).mono ?_); rintro e w16 ⟨rfl, hb⟩; have hp0 := pA BK330 hb; have hv := vK HB hb; have n3_ := Am (bT hv hb); clear HB; replace BK330 := hp0 BK330; replace BK331 := hp0 BK331; replace BK332 := hp0 BK332; have HB := n3_; clear n3_ hp0 hv; (try clear hb)))
    go_meet
    case rel =>
     refine ⟨_, (!t334), (by first | rfl | (simp; done) | (simp [*]; done)), H', ⟨by first | omega | exact Nat.le_refl _⟩, ⟨?_⟩, ⟨?_⟩, ⟨?_⟩, ⟨by repeat (first | (with_reducible first | exact HB.out | apply bA | apply bN | apply bD | refine bX ?_ (by assumption)) | exact HB.out)⟩⟩
     all_goals ((with_reducible repeat (first | refine kN ?_ _ | refine kD ?_ | refine kA ?_ _)); exact Aside0.out (by assumption))
  replace c8 := Bool.eq_false_iff.mpr c8
  subst c8
  have H1 : (impl_HandAt.j0 k true a0_0 a0_1 a0_2 a1_0 a1_1) = some (r1, r2, r3) := by rw [if_neg (show ¬ (false = true) by decide)] at H; exact H
  clear H
  have H := H1
  clear H1
  focus
   have H' := Am H
   clear H
   have nq17 := kO NB330_331; have nq18 := kO NB330_332
   have zq19 := c3 BK330
   go_wp2_with (first | ((with_reducible refine gate_callee (f := 17) rfl ?_); refine gL (some 7) Try.func17 #[.agg #[.int .i64 a0_0, .int .i64 a0_1, .int .i64 a0_2]] rfl ?_; (with_reducible refine (impl_IsHand.calls k a0_0 a0_1 a0_2 false _ A7.out).mono ?_); rintro e w20 ⟨rfl, hb⟩; refine ⟨_, rfl, ?_⟩; have hp0 := pA BK330 hb; have hv := vK HB hb; have n3_ := Am (bT hv hb); clear HB; replace BK330 := hp0 BK330; replace BK331 := hp0 BK331; replace BK332 := hp0 BK332; have HB := n3_; clear n3_ hp0 hv; (try clear hb)))
   go_meet
   case rel =>
    refine ⟨_, (true), (by first | rfl | (simp; done) | (simp [*]; done)), H', ⟨by first | omega | exact Nat.le_refl _⟩, ⟨?_⟩, ⟨?_⟩, ⟨?_⟩, ⟨by repeat (first | (with_reducible first | exact HB.out | apply bA | apply bN | apply bD | refine bX ?_ (by assumption)) | exact HB.out)⟩⟩
    all_goals ((with_reducible repeat (first | refine kN ?_ _ | refine kD ?_ | refine kA ?_ _)); exact Aside0.out (by assumption))
 clear HC3
 obtain ⟨kq, x13_2, rfl, HA, HJ2, BK330, BK331, BK332, HB⟩ := hcut
 cases kq with
 | zero => exact absurd HA.out (by simp [impl_HandAt.j0])
 | succ kj2 =>
  have H := HA.out
  clear HA
  simp only [impl_HandAt.j0] at H
  by_cases c21 : x13_2 = true
  ·subst c21
   have H1 : (some (0, 0, false)) = some (r1, r2, r3) := by rw [if_pos rfl] at H; exact H
   clear H
   have H := H1
   clear H1
   focus
    simp only [Option.some.injEq, Prod.mk.injEq] at H
    obtain ⟨rfl, rfl, rfl⟩ := H
    have nq22 := kO NB332_330; have nq23 := kO NB332_331
    have zq24 := c2 BK332
    go_wp2
    refine bodyPost_ret (results_ct rfl _ _ gb332 24 #[.int .i64 0, .int .i64 0] (0, 0) _ rfl (by (with_reducible repeat (first | refine kN ?_ _ | refine kD ?_ | refine kA ?_ _)); refine kP (cs := #[.int .i64 0, .int .i64 0]) ?_ 1 _ rfl; (with_reducible repeat (first | refine kN ?_ _ | refine kD ?_ | refine kA ?_ _)); refine kP (cs := #[.int .i64 0, .int .i64 0]) ?_ 0 _ rfl; (with_reducible repeat (first | refine kN ?_ _ | refine kD ?_ | refine kA ?_ _)); exact BK332.out) Try.underlying24 rfl (by kernel_rfl)) rfl ?_
    exact ⟨by first | rfl | (simp [errW_none, errW_some] <;> rfl) | (simp [*, errW_none, errW_some] <;> rfl), by repeat (first | (with_reducible first | exact HB.out | apply bA | apply bN | apply bD | refine bX ?_ (by assumption)) | exact HB.out)⟩
  replace c21 := Bool.eq_false_iff.mpr c21
  subst c21
  have H1 : ((impl_Hand_at.f kj2 a0_0 a0_1 a0_2 a1_0 a1_1).bind fun bt335 => ((impl_ifTurn.f kj2 bt335.1 bt335.2).bind fun bt337 => (some (bt337.1, bt337.2.1, bt337.2.2)))) = some (r1, r2, r3) := by rw [if_neg (show ¬ (false = true) by decide)] at H; exact H
  clear H
  have H := H1
  clear H1
  replace H := Option.bind_eq_some_iff.mp H
  obtain ⟨⟨t335, t336⟩, A250, H⟩ := H
  try dsimp only at H
  have A25 := Am A250
  clear A250
  replace H := Option.bind_eq_some_iff.mp H
  obtain ⟨⟨t337, t338, t339⟩, A260, H⟩ := H
  try dsimp only at H
  have A26 := Am A260
  clear A260
  focus
   simp only [Option.some.injEq, Prod.mk.injEq] at H
   obtain ⟨rfl, rfl, rfl⟩ := H
   have nq27 := kO NB330_331; have nq28 := kO NB330_332
   have zq29 := c3 BK330
   have nq30 := kO NB331_332
   have zq31 := c2 BK331
   go_wp2_with (first | ((with_reducible refine gate_callee (f := 22) rfl ?_); refine gL (some 17) Try.func22 #[.agg #[.int .i64 a0_0, .int .i64 a0_1, .int .i64 a0_2], .agg #[.int .i64 a1_0, .int .i64 a1_1]] rfl ?_; (with_reducible refine (impl_Hand_at.calls kj2 a0_0 a0_1 a0_2 a1_0 a1_1 t335 t336 _ A25.out).mono ?_); rintro e w32 ⟨rfl, hb⟩; refine ⟨_, rfl, ?_⟩; have hp0 := pA BK330 hb; have hv := vK HB hb; have n3_ := Am (bT hv hb); clear HB; replace BK330 := hp0 BK330; replace BK331 := hp0 BK331; replace BK332 := hp0 BK332; have HB := n3_; clear n3_ hp0 hv; (try clear hb)) | ((with_reducible refine gate_callee (f := 29) rfl ?_); refine gL (some 18) Try.func29 #[.agg #[.int .i64 t335, .int .i64 t336]] rfl ?_; (with_reducible refine (impl_ifTurn.calls kj2 t335 t336 t337 t338 t339 _ A26.out).mono ?_); rintro e w33 ⟨rfl, hb⟩; refine ⟨_, rfl, ?_⟩; have hp0 := pA BK330 hb; have hv := vK HB hb; have n3_ := Am (bT hv hb); clear HB; replace BK330 := hp0 BK330; replace BK331 := hp0 BK331; replace BK332 := hp0 BK332; have HB := n3_; clear n3_ hp0 hv; (try clear hb); have zq34 := c2 BK332))
   refine bodyPost_ret (results_ct rfl _ _ gb332 24 #[.int .i64 t337, .int .i64 t338] (0, 0) _ rfl (by (with_reducible repeat (first | refine kN ?_ _ | refine kD ?_ | refine kA ?_ _)); refine kP (cs := #[.int .i64 t337, .int .i64 0]) ?_ 1 _ rfl; (with_reducible repeat (first | refine kN ?_ _ | refine kD ?_ | refine kA ?_ _)); refine kP (cs := #[.int .i64 0, .int .i64 0]) ?_ 0 _ rfl; (with_reducible repeat (first | refine kN ?_ _ | refine kD ?_ | refine kA ?_ _)); exact BK332.out) Try.underlying24 rfl (by kernel_rfl)) rfl ?_
   exact ⟨by first | rfl | (simp [errW_none, errW_some] <;> rfl) | (simp [*, errW_none, errW_some] <;> rfl), by repeat (first | (with_reducible first | exact HB.out | apply bA | apply bN | apply bD | refine bX ?_ (by assumption)) | exact HB.out)⟩
/-! ### impl_isTime: function 34 -/
def impl_isTime.f (k : Nat) (a0 : Int) (a1_0 : Int) (a1_1 : Int) : Option (Bool) := (impl_isDial.f a0).bind fun t341 => (if t341 = true then ((impl_IsTurn.f k a1_0 a1_1).bind fun t342 => (some t342)) else (some false))
theorem impl_isTime.mono : ∀ a0 a1 a2 k, LeO (impl_isTime.f k a0 a1 a2) (impl_isTime.f (k + 1) a0 a1 a2) := by
 intro a0 a1 a2 k
 unfold impl_isTime.f
 repeat' first
   | (with_reducible exact impl_IsTurn.mono _ _ _)
   | (with_reducible exact LeO.refl _)
   | (with_reducible exact LeO.none _)
   | (with_reducible refine LeO.ite ?_ ?_)
   | (with_reducible refine LeO.bind ?_ (fun _ => ?_))
   | exact impl_IsTurn.mono _ _ _
   | exact LeO.none _
   | refine LeO.ite ?_ ?_
   | refine LeO.bind ?_ (fun _ => ?_)
set_option maxHeartbeats 8000000 in
set_option maxRecDepth 100000 in
theorem impl_isTime.calls (k : Nat) (a0 : Int) (a1_0 : Int) (a1_1 : Int) (r : Bool) (w : World) (h : impl_isTime.f k a0 a1_0 a1_1 = some r) :
  Calls Try.prog 34 #[.int .i64 a0, .agg #[.int .i64 a1_0, .int .i64 a1_1]] w fun e w' => e = .returned (.bool r) ∧ Below w.heap.size w w' := by
 have hu24 := Try.underlying24
 have HB := Am (Below.refl w.heap.size w)
 have H : ((impl_isDial.f a0).bind fun t341 => (if t341 = true then ((impl_IsTurn.f k a1_0 a1_1).bind fun t342 => (some t342)) else (some false))) = some r := h
 clear h
 replace H := Option.bind_eq_some_iff.mp H
 obtain ⟨t341, A30, H⟩ := H
 try dsimp only at H
 have A3 := Am A30
 clear A30
 by_cases c4 : t341 = true
 ·subst c4
  have H1 : ((impl_IsTurn.f k a1_0 a1_1).bind fun t342 => (some t342)) = some r := by rw [if_pos rfl] at H; exact H
  clear H
  have H := H1
  clear H1
  replace H := Option.bind_eq_some_iff.mp H
  obtain ⟨t342, A50, H⟩ := H
  try dsimp only at H
  have A5 := Am A50
  clear A50
  focus
   obtain rfl := Option.some.inj H
   go_enter Try.func34, Try.ntmps34
   go_wp2_with (first | ((with_reducible refine gate_dst (N := 3) rfl ?_); refine bE 3 #[.int .i64 a1_0, .int .i64 a1_1] 24 ?_; intro gb340 hg w6 hbox hb; have hv := vK HB hb; have n0_ := Am (bT hv hb); have n1_ := Am (hbox); have GE340 := kG hg hv; clear HB; have HB := n0_; have BK340 := n1_; clear n0_ n1_ hv; clear hb hbox hg) | ((with_reducible refine gate_callee (f := 31) rfl ?_); refine gL (some 6) Try.func31 #[.int .i64 a0] rfl ?_; (with_reducible refine (impl_isDial.calls a0 true _ A3.out).mono ?_); rintro e w' ⟨rfl, ⟨nd, rfl⟩⟩; refine ⟨_, rfl, ?_⟩; have zq7 := c2 BK340) | (go_at_call 21; (with_reducible refine (impl_IsTurn.calls k a1_0 a1_1 t342 _ A5.out).mono ?_); rintro e w8 ⟨rfl, hb⟩; have hp0 := pA BK340 hb; have hv := vK HB hb; have n1_ := Am (bT hv hb); clear HB; replace BK340 := hp0 BK340; have HB := n1_; clear n1_ hp0 hv; (try clear hb)))
   go_ret
   exact ⟨by first | rfl | (simp [errW_none, errW_some] <;> rfl) | (simp [*, errW_none, errW_some] <;> rfl), by repeat (first | (with_reducible first | exact HB.out | apply bA | apply bN | apply bD | refine bX ?_ (by assumption)) | exact HB.out)⟩
 replace c4 := Bool.eq_false_iff.mpr c4
 subst c4
 have H1 : (some false) = some r := by rw [if_neg (show ¬ (false = true) by decide)] at H; exact H
 clear H
 have H := H1
 clear H1
 focus
  obtain rfl := Option.some.inj H
  go_enter Try.func34, Try.ntmps34
  go_wp2_with (first | ((with_reducible refine gate_dst (N := 3) rfl ?_); refine bE 3 #[.int .i64 a1_0, .int .i64 a1_1] 24 ?_; intro gb340 hg w9 hbox hb; have hv := vK HB hb; have n0_ := Am (bT hv hb); have n1_ := Am (hbox); have GE340 := kG hg hv; clear HB; have HB := n0_; have BK340 := n1_; clear n0_ n1_ hv; clear hb hbox hg) | ((with_reducible refine gate_callee (f := 31) rfl ?_); refine gL (some 6) Try.func31 #[.int .i64 a0] rfl ?_; (with_reducible refine (impl_isDial.calls a0 false _ A3.out).mono ?_); rintro e w' ⟨rfl, ⟨nd, rfl⟩⟩; refine ⟨_, rfl, ?_⟩))
  go_ret
  exact ⟨by first | rfl | (simp [errW_none, errW_some] <;> rfl) | (simp [*, errW_none, errW_some] <;> rfl), by repeat (first | (with_reducible first | exact HB.out | apply bA | apply bN | apply bD | refine bX ?_ (by assumption)) | exact HB.out)⟩
/-! ### impl_LongHand: function 16 -/
def impl_LongHand.f (k : Nat) (a0 : Int) (a1_0 : Int) (a1_1 : Int) : Option (Int × Int × Bool) := (impl_isTime.f k a0 a1_0 a1_1).bind fun t345 => (if t345 = true then ((impl_Turn_times.f k a1_0 a1_1 a0).bind fun bt346 => (some (bt346.1, bt346.2, true))) else (some (0, 0, false)))
theorem impl_LongHand.mono : ∀ a0 a1 a2 k, LeO (impl_LongHand.f k a0 a1 a2) (impl_LongHand.f (k + 1) a0 a1 a2) := by
 intro a0 a1 a2 k
 unfold impl_LongHand.f
 repeat' first
   | (with_reducible exact impl_Turn_times.mono _ _ _ _)
   | (with_reducible exact impl_isTime.mono _ _ _ _)
   | (with_reducible exact LeO.refl _)
   | (with_reducible exact LeO.none _)
   | (with_reducible refine LeO.ite ?_ ?_)
   | (with_reducible refine LeO.bind ?_ (fun _ => ?_))
   | exact impl_Turn_times.mono _ _ _ _
   | exact impl_isTime.mono _ _ _ _
   | exact LeO.none _
   | refine LeO.ite ?_ ?_
   | refine LeO.bind ?_ (fun _ => ?_)
set_option maxHeartbeats 8000000 in
set_option maxRecDepth 100000 in
theorem impl_LongHand.calls (k : Nat) (a0 : Int) (a1_0 : Int) (a1_1 : Int) (r1 : Int) (r2 : Int) (r3 : Bool) (w : World) (h : impl_LongHand.f k a0 a1_0 a1_1 = some (r1, r2, r3)) :
  Calls Try.prog 16 #[.int .i64 a0, .agg #[.int .i64 a1_0, .int .i64 a1_1]] w fun e w' => e = .returned (.tuple #[.agg #[.int .i64 r1, .int .i64 r2], .bool r3]) ∧ Below w.heap.size w w' := by
 have hu24 := Try.underlying24
 have HB := Am (Below.refl w.heap.size w)
 have H : ((impl_isTime.f k a0 a1_0 a1_1).bind fun t345 => (if t345 = true then ((impl_Turn_times.f k a1_0 a1_1 a0).bind fun bt346 => (some (bt346.1, bt346.2, true))) else (some (0, 0, false)))) = some (r1, r2, r3) := h
 clear h
 replace H := Option.bind_eq_some_iff.mp H
 obtain ⟨t345, A30, H⟩ := H
 try dsimp only at H
 have A3 := Am A30
 clear A30
 by_cases c4 : t345 = true
 ·subst c4
  have H1 : ((impl_Turn_times.f k a1_0 a1_1 a0).bind fun bt346 => (some (bt346.1, bt346.2, true))) = some (r1, r2, r3) := by rw [if_pos rfl] at H; exact H
  clear H
  have H := H1
  clear H1
  replace H := Option.bind_eq_some_iff.mp H
  obtain ⟨⟨t346, t347⟩, A50, H⟩ := H
  try dsimp only at H
  have A5 := Am A50
  clear A50
  focus
   simp only [Option.some.injEq, Prod.mk.injEq] at H
   obtain ⟨rfl, rfl, rfl⟩ := H
   go_enter Try.func16, Try.ntmps16
   go_wp2_with (first | ((with_reducible refine gate_dst (N := 3) rfl ?_); refine bE 3 #[.int .i64 a1_0, .int .i64 a1_1] 24 ?_; intro gb343 hg w6 hbox hb; have hv := vK HB hb; have n0_ := Am (bT hv hb); have n1_ := Am (hbox); have GE343 := kG hg hv; clear HB; have HB := n0_; have BK343 := n1_; clear n0_ n1_ hv; clear hb hbox hg) | ((with_reducible refine gate_dst (N := 4) rfl ?_); refine bE 4 #[.int .i64 0, .int .i64 0] 24 ?_; intro gb344 hg w7 hbox hb; have hp0 := pA BK343 hb; have hv := vK HB hb; have n1_ := Am (bT hv hb); have n2_ := Am (hbox); have GE344 := kG hg hv; have hp1 := pK BK343 hb; obtain ⟨NB343_344, NB344_343⟩ := kXY hg hp1 BK343; clear HB; replace BK343 := hp0 BK343; have HB := n1_; have BK344 := n2_; clear n1_ n2_ hp0 hp1 hv; clear hb hbox hg; have nq8 := kO NB343_344; have zq9 := c2 BK343) | ((with_reducible refine gate_callee (f := 34) rfl ?_); refine gL (some 8) Try.func34 #[.int .i64 a0, .agg #[.int .i64 a1_0, .int .i64 a1_1]] rfl ?_; (with_reducible refine (impl_isTime.calls k a0 a1_0 a1_1 true _ A3.out).mono ?_); rintro e w10 ⟨rfl, hb⟩; refine ⟨_, rfl, ?_⟩; have hp0 := pA BK343 hb; have hv := vK HB hb; have n2_ := Am (bT hv hb); clear HB; replace BK343 := hp0 BK343; replace BK344 := hp0 BK344; have HB := n2_; clear n2_ hp0 hv; (try clear hb); have zq11 := c2 BK343) | ((with_reducible refine gate_callee (f := 35) rfl ?_); refine gL (some 13) Try.func35 #[.agg #[.int .i64 a1_0, .int .i64 a1_1], .int .i64 a0] rfl ?_; (with_reducible refine (impl_Turn_times.calls k a1_0 a1_1 a0 t346 t347 _ A5.out).mono ?_); rintro e w12 ⟨rfl, hb⟩; refine ⟨_, rfl, ?_⟩; have hp0 := pA BK343 hb; have hv := vK HB hb; have n2_ := Am (bT hv hb); clear HB; replace BK343 := hp0 BK343; replace BK344 := hp0 BK344; have HB := n2_; clear n2_ hp0 hv; (try clear hb); have zq13 := c2 BK344))
   refine bodyPost_ret (results_ct rfl _ _ gb344 24 #[.int .i64 t346, .int .i64 t347] (0, 0) _ rfl (by (with_reducible repeat (first | refine kN ?_ _ | refine kD ?_ | refine kA ?_ _)); refine kP (cs := #[.int .i64 t346, .int .i64 0]) ?_ 1 _ rfl; (with_reducible repeat (first | refine kN ?_ _ | refine kD ?_ | refine kA ?_ _)); refine kP (cs := #[.int .i64 0, .int .i64 0]) ?_ 0 _ rfl; (with_reducible repeat (first | refine kN ?_ _ | refine kD ?_ | refine kA ?_ _)); exact BK344.out) Try.underlying24 rfl (by kernel_rfl)) rfl ?_
   exact ⟨by first | rfl | (simp [errW_none, errW_some] <;> rfl) | (simp [*, errW_none, errW_some] <;> rfl), by repeat (first | (with_reducible first | exact HB.out | apply bA | apply bN | apply bD | refine bX ?_ (by assumption)) | exact HB.out)⟩
 replace c4 := Bool.eq_false_iff.mpr c4
 subst c4
 have H1 : (some (0, 0, false)) = some (r1, r2, r3) := by rw [if_neg (show ¬ (false = true) by decide)] at H; exact H
 clear H
 have H := H1
 clear H1
 focus
  simp only [Option.some.injEq, Prod.mk.injEq] at H
  obtain ⟨rfl, rfl, rfl⟩ := H
  go_enter Try.func16, Try.ntmps16
  go_wp2_with (first | ((with_reducible refine gate_dst (N := 3) rfl ?_); refine bE 3 #[.int .i64 a1_0, .int .i64 a1_1] 24 ?_; intro gb343 hg w14 hbox hb; have hv := vK HB hb; have n0_ := Am (bT hv hb); have n1_ := Am (hbox); have GE343 := kG hg hv; clear HB; have HB := n0_; have BK343 := n1_; clear n0_ n1_ hv; clear hb hbox hg) | ((with_reducible refine gate_dst (N := 4) rfl ?_); refine bE 4 #[.int .i64 0, .int .i64 0] 24 ?_; intro gb344 hg w15 hbox hb; have hp0 := pA BK343 hb; have hv := vK HB hb; have n1_ := Am (bT hv hb); have n2_ := Am (hbox); have GE344 := kG hg hv; have hp1 := pK BK343 hb; obtain ⟨NB343_344, NB344_343⟩ := kXY hg hp1 BK343; clear HB; replace BK343 := hp0 BK343; have HB := n1_; have BK344 := n2_; clear n1_ n2_ hp0 hp1 hv; clear hb hbox hg; have nq16 := kO NB343_344; have zq17 := c2 BK343) | ((with_reducible refine gate_callee (f := 34) rfl ?_); refine gL (some 8) Try.func34 #[.int .i64 a0, .agg #[.int .i64 a1_0, .int .i64 a1_1]] rfl ?_; (with_reducible refine (impl_isTime.calls k a0 a1_0 a1_1 false _ A3.out).mono ?_); rintro e w18 ⟨rfl, hb⟩; refine ⟨_, rfl, ?_⟩; have hp0 := pA BK343 hb; have hv := vK HB hb; have n2_ := Am (bT hv hb); clear HB; replace BK343 := hp0 BK343; replace BK344 := hp0 BK344; have HB := n2_; clear n2_ hp0 hv; (try clear hb); have zq19 := c2 BK344))
  refine bodyPost_ret (results_ct rfl _ _ gb344 24 #[.int .i64 0, .int .i64 0] (0, 0) _ rfl (by (with_reducible repeat (first | refine kN ?_ _ | refine kD ?_ | refine kA ?_ _)); refine kP (cs := #[.int .i64 0, .int .i64 0]) ?_ 1 _ rfl; (with_reducible repeat (first | refine kN ?_ _ | refine kD ?_ | refine kA ?_ _)); refine kP (cs := #[.int .i64 0, .int .i64 0]) ?_ 0 _ rfl; (with_reducible repeat (first | refine kN ?_ _ | refine kD ?_ | refine kA ?_ _)); exact BK344.out) Try.underlying24 rfl (by kernel_rfl)) rfl ?_
  exact ⟨by first | rfl | (simp [errW_none, errW_some] <;> rfl) | (simp [*, errW_none, errW_some] <;> rfl), by repeat (first | (with_reducible first | exact HB.out | apply bA | apply bN | apply bD | refine bX ?_ (by assumption)) | exact HB.out)⟩
/-! ### spec_IsHand: function 18 -/
def spec_IsHand.f (k : Nat) (a0_0 : Int) (a0_1 : Int) (a0_2 : Int) : Option (Bool) := (spec_meGood.f k a0_0 a0_1 a0_2).bind fun t349 => (some t349)
theorem spec_IsHand.mono : ∀ a0 a1 a2 k, LeO (spec_IsHand.f k a0 a1 a2) (spec_IsHand.f (k + 1) a0 a1 a2) := by
 intro a0 a1 a2 k
 unfold spec_IsHand.f
 repeat' first
   | (with_reducible exact spec_meGood.mono _ _ _ _)
   | (with_reducible exact LeO.refl _)
   | (with_reducible exact LeO.none _)
   | (with_reducible refine LeO.ite ?_ ?_)
   | (with_reducible refine LeO.bind ?_ (fun _ => ?_))
   | exact spec_meGood.mono _ _ _ _
   | exact LeO.none _
   | refine LeO.ite ?_ ?_
   | refine LeO.bind ?_ (fun _ => ?_)
set_option maxHeartbeats 8000000 in
set_option maxRecDepth 100000 in
theorem spec_IsHand.calls (k : Nat) (a0_0 : Int) (a0_1 : Int) (a0_2 : Int) (r : Bool) (w : World) (h : spec_IsHand.f k a0_0 a0_1 a0_2 = some r) :
  Calls Try.prog 18 #[.agg #[.int .i64 a0_0, .int .i64 a0_1, .int .i64 a0_2]] w fun e w' => e = .returned (.bool r) ∧ Below w.heap.size w w' := by
 have hu26 := Try.underlying26
 have HB := Am (Below.refl w.heap.size w)
 have H : ((spec_meGood.f k a0_0 a0_1 a0_2).bind fun t349 => (some t349)) = some r := h
 clear h
 replace H := Option.bind_eq_some_iff.mp H
 obtain ⟨t349, A20, H⟩ := H
 try dsimp only at H
 have A2 := Am A20
 clear A20
 focus
  obtain rfl := Option.some.inj H
  go_enter Try.func18, Try.ntmps18
  go_wp2_with (first | ((with_reducible refine gate_dst (N := 1) rfl ?_); refine bE 1 #[.int .i64 a0_0, .int .i64 a0_1, .int .i64 a0_2] 26 ?_; intro gb348 hg w3 hbox hb; have hv := vK HB hb; have n0_ := Am (bT hv hb); have n1_ := Am (hbox); have GE348 := kG hg hv; clear HB; have HB := n0_; have BK348 := n1_; clear n0_ n1_ hv; clear hb hbox hg; have zq4 := c3 BK348) | ((with_reducible refine gate_callee (f := 37) rfl ?_); refine gL (some 4) Try.func37 #[.agg #[.int .i64 a0_0, .int .i64 a0_1, .int .i64 a0_2]] rfl ?_; (with_reducible refine (spec_meGood.calls k a0_0 a0_1 a0_2 t349 _ A2.out).mono ?_); rintro e w5 ⟨rfl, hb⟩; refine ⟨_, rfl, ?_⟩; have hp0 := pA BK348 hb; have hv := vK HB hb; have n1_ := Am (bT hv hb); clear HB; replace BK348 := hp0 BK348; have HB := n1_; clear n1_ hp0 hv; (try clear hb)))
  go_ret
  exact ⟨by first | rfl | (simp [errW_none, errW_some] <;> rfl) | (simp [*, errW_none, errW_some] <;> rfl), by repeat (first | (with_reducible first | exact HB.out | apply bA | apply bN | apply bD | refine bX ?_ (by assumption)) | exact HB.out)⟩
end Go.Proofs.Ytnffmifjleebpaa.PFnHandsSpreadOfAll
