-- WRITTEN BY A PROGRAM OF THIS SESSION (wip/tools): its own text, not the kit's printed one.
import Derived.Test.YtnffmifjleebpaaPFnHandsSpreadOfAllx0
import Derived.Test.YtnffmifjleebpaaPFnHandsSpreadOfAllx3
namespace Go.Proofs.Ytnffmifjleebpaa.PFnHandsSpreadOfAll
open Go.RowKit Go.Proofs.YtnffmifjleebpaaW.PrintWords Go.Proofs.YtnffmifjleebpaaW.PrintLast Go.Proofs.YtnffmifjleebpaaW.PrintMore
attribute [local go_sem] max2_int min2_int max_two min_two max_three min_three max_four min_four   -- for this text's walks alone
set_option linter.unusedVariables false
set_option linter.unusedSimpArgs false

/-! ### impl_areTurns: function 23 -/
def impl_areTurns.g (k : Nat) : List (S24) → Option (Bool)
 | [] => some true
 | x :: xs => (impl_areTurns_1.f k x.f0 x.f1).bind fun b => if b = true then some false else impl_areTurns.g k xs
def impl_areTurns.f (k : Nat) (l0 : List (S24)) : Option (Bool) := if l0.length < 4611686018427387904 then impl_areTurns.g k l0 else none
theorem impl_areTurns.mono_g : ∀ a0 k, LeO (impl_areTurns.g k a0) (impl_areTurns.g (k + 1) a0)
 | [], k => LeO.refl _
 | x :: xs, k => by
  unfold impl_areTurns.g
  exact LeO.bind (impl_areTurns_1.mono _ _ _) (fun _ => LeO.ite (LeO.refl _) (impl_areTurns.mono_g xs k))
theorem impl_areTurns.mono : ∀ a0 k, LeO (impl_areTurns.f k a0) (impl_areTurns.f (k + 1) a0) := fun a0 k => by
 unfold impl_areTurns.f
 exact LeO.ite (impl_areTurns.mono_g a0 k) (LeO.refl _)
theorem impl_areTurns.at (k : Nat) (l0 : List (S24)) (x8 : Int) (r : Bool) (h0 : 0 ≤ x8) (h1 : x8 < (l0.length : Int)) (h : impl_areTurns.g k (l0.drop x8.toNat) = some r) :
  ∃ b, impl_areTurns_1.f k (rd_T24 l0 x8).f0 (rd_T24 l0 x8).f1 = some b ∧ (b = true → r = false) ∧ (b = false → impl_areTurns.g k (l0.drop (x8 + 1).toNat) = some r) := by
 have hl : x8.toNat < l0.length := by omega
 rw [List.drop_eq_getElem_cons hl] at h
 simp only [impl_areTurns.g] at h
 obtain ⟨b, hb, hr⟩ := Option.bind_eq_some_iff.mp h
 have e1 : rd_T24 l0 x8 = l0[x8.toNat] := by unfold rd_T24; rw [List.getD_eq_getElem?_getD, List.getElem?_eq_getElem hl]; rfl
 refine ⟨b, by rw [e1]; exact hb, fun e => ?_, fun e => ?_⟩
 ·rw [e, if_pos rfl] at hr; exact (Option.some.inj hr).symm
 ·rw [e, if_neg (by decide)] at hr
  rw [show (x8 + 1).toNat = x8.toNat + 1 by omega]; exact hr
set_option maxHeartbeats 8000000 in
set_option maxRecDepth 100000 in
theorem impl_areTurns.idx (k : Nat) (A0 : Option Addr) (c0 : Nat) (l0 : List (S24)) (r : Bool) (w : World) (hr0 : Kd.C k24 w A0 l0.length l0) (hlen : l0.length < 4611686018427387904) (h : impl_areTurns.g k l0 = some r) :
  Calls Try.prog 53 #[.slice A0 l0.length c0, .func (.func 42) #[] #[]] w fun e w' => ∃ v : Int, e = .returned (.int .i64 v) ∧ decide (0 ≤ v) = !r ∧ Below w.heap.size w w' := by
 have HR0 := Am hr0
 clear hr0
 have H' : Aside0 (impl_areTurns.g k (l0.drop (0 : Int).toNat) = some r) := ⟨h⟩
 clear h
 have hu24 := Try.underlying24
 go_enter Try.func53, Try.ntmps53
 go_wp2
 go_loopg [5, 8] l0.length (fun gg v5 v8 w' => ∃ x8 : Int, 0 ≤ x8 ∧ x8 ≤ (l0.length : Int) ∧ (l0.length : Int) - x8 ≤ gg ∧ v8 = .int .i64 x8 ∧ Aside0 (impl_areTurns.g k (l0.drop x8.toNat) = some r) ∧ Aside0 (Below w.heap.size w w'))
 case atStart => exact ⟨0, by omega, by omega, by omega, rfl, H', ⟨Below.refl _ w⟩⟩
 case round =>
  clear H'
  obtain ⟨x8, hx0, hx1, hg, rfl, HA, HB⟩ := hrel
  have hbd : x8 < 4611686018427387904 := by omega
  by_cases hlt : x8 < (l0.length : Int)
  ·have hltb : decide (x8 < (l0.length : Int)) = true := decide_eq_true hlt
   have hx0b : decide (0 ≤ x8) = true := decide_eq_true hx0
   obtain ⟨b, hb, hbt, hbf⟩ := impl_areTurns.at k l0 x8 r hx0 hlt HA.out
   clear HA
   obtain ⟨ad, ea, hc0, hc1⟩ := at_T24 HR0.out x8 hx0 hlt
   cases ea
   replace hc0 := (HB.out.cell (World.block_lt_of_cell? w _ hc0)).trans hc0
   replace hc1 := (HB.out.cell (World.block_lt_of_cell? w _ hc1)).trans hc1
   cases b with
   | true =>
    have HB1 := Am hb
    have HT := Am (hbt rfl)
    clear hb hbt hbf
    go_wp2_with (go_at_call 42; refine (impl_areTurns_1.calls k _ _ true _ HB1.out).mono ?_; rintro e w2 ⟨rfl, hb'⟩)
    go_ret
    exact ⟨x8, rfl, by rw [HT.out]; simpa using hx0, bT HB.out hb'⟩
   | false =>
    have HB1 := Am hb
    have HF := Am (hbf rfl)
    clear hb hbt hbf
    go_wp2_with (go_at_call 42; refine (impl_areTurns_1.calls k _ _ false _ HB1.out).mono ?_; rintro e w2 ⟨rfl, hb'⟩)
    go_roundg (l0.length - (x8 + 1).toNat)
    case measure => omega
    case rel => exact ⟨x8 + 1, by omega, by omega, by omega, by go_num, ⟨HF.out⟩, ⟨bT HB.out hb'⟩⟩
  have hltb : decide (x8 < (l0.length : Int)) = false := decide_eq_false hlt
  have e8 : r = true := by
   have := HA.out
   rw [List.drop_of_length_le (by omega)] at this
   exact (Option.some.inj this).symm
  clear HA
  have E8 := Am e8
  clear e8
  go_wp2
  go_ret
  exact ⟨-1, rfl, by rw [E8.out]; rfl, HB.out⟩
set_option maxHeartbeats 8000000 in
set_option maxRecDepth 100000 in
theorem impl_areTurns.con (k : Nat) (A0 : Option Addr) (c0 : Nat) (l0 : List (S24)) (r : Bool) (w : World) (hr0 : Kd.C k24 w A0 l0.length l0) (hlen : l0.length < 4611686018427387904) (h : impl_areTurns.g k l0 = some r) :
  Calls Try.prog 41 #[.slice A0 l0.length c0, .func (.func 42) #[] #[]] w fun e w' => e = .returned (.bool (!r)) ∧ Below w.heap.size w w' := by
 have HR0 := Am hr0
 have H' := Am h
 clear hr0 h
 go_enter Try.func41, Try.ntmps41
 go_wp2_with (go_at_call 53; refine (impl_areTurns.idx k A0 c0 l0 r _ HR0.out hlen H'.out).mono ?_; rintro e w2 ⟨v, rfl, hv0, hb'⟩; have HV := Am hv0; clear hv0)
 go_ret
 exact ⟨congrArg (fun b => Ending.returned (.bool b)) HV.out, hb'⟩
set_option maxHeartbeats 8000000 in
set_option maxRecDepth 100000 in
theorem impl_areTurns.calls (k : Nat) (A0 : Option Addr) (c0 : Nat) (l0 : List (S24)) (r : Bool) (w : World) (hr0 : Kd.C k24 w A0 l0.length l0) (hc0 : l0.length ≤ c0) (h : impl_areTurns.f k l0 = some r) :
  Calls Try.prog 23 #[.slice A0 l0.length c0] w fun e w' => e = .returned (.bool r) ∧ Below w.heap.size w w' := by
 have HR0 := Am hr0
 have hlen : l0.length < 4611686018427387904 := by
  unfold impl_areTurns.f at h
  by_cases hl : l0.length < 4611686018427387904
  ·exact hl
  rw [if_neg hl] at h; cases h
 have H' : Aside0 (impl_areTurns.g k l0 = some r) := by
  unfold impl_areTurns.f at h
  rw [if_pos hlen] at h
  exact ⟨h⟩
 clear hr0 h
 go_enter Try.func23, Try.ntmps23
 go_wp2_with (go_at_call 41; refine (impl_areTurns.con k A0 c0 l0 r _ HR0.out hlen H'.out).mono ?_; rintro e w2 ⟨rfl, hb'⟩)
 go_ret
 exact ⟨by simp, hb'⟩
-- NOT PRINTED: function 54 (impl_Turn_54)

-- NOT PRINTED: function 68 (impl_Turn_68)

-- NOT PRINTED: function 55 (impl_Turn_55)

-- NOT PRINTED: function 62 (bits_Len32)

-- NOT PRINTED: function 63 (bits_Len64)

-- NOT PRINTED: function 44 (bits_Len)

-- NOT PRINTED: function 69 (slices_nextPowerOfTwo)

-- NOT PRINTED: function 70 (slices_xorshift_Next)

-- NOT PRINTED: function 56 (impl_Turn_56)

-- NOT PRINTED: function 73 (impl_Turn_73)

-- NOT PRINTED: function 72 (impl_Turn_72)

-- NOT PRINTED: function 71 (impl_Turn_71)

-- NOT PRINTED: function 57 (impl_Turn_57)

-- NOT PRINTED: function 58 (impl_Turn_58)

-- NOT PRINTED: function 59 (impl_Turn_59)

-- NOT PRINTED: function 60 (impl_Turn_60)

-- NOT PRINTED: function 61 (impl_Turn_61)

-- NOT PRINTED: function 43 (impl_Turn_43)

-- NOT PRINTED: function 24 (impl_Turn_24)

/-! ### impl_Turn_minus: function 26 -/
def impl_Turn_minus.f (k : Nat) (a0_0 : Int) (a0_1 : Int) (a1_0 : Int) (a1_1 : Int) : Option (Int × Int) := (impl_part.f k (wrap64 ((wrap64 (a0_0 * a1_1)) - (wrap64 (a1_0 * a0_1)))) (wrap64 (a0_1 * a1_1))).bind fun bt137 => (some (bt137.1, bt137.2))
theorem impl_Turn_minus.mono : ∀ a0 a1 a2 a3 k, LeO (impl_Turn_minus.f k a0 a1 a2 a3) (impl_Turn_minus.f (k + 1) a0 a1 a2 a3) := by
 intro a0 a1 a2 a3 k
 unfold impl_Turn_minus.f
 repeat' first
   | (with_reducible exact impl_part.mono _ _ _)
   | (with_reducible exact LeO.refl _)
   | (with_reducible exact LeO.none _)
   | (with_reducible refine LeO.ite ?_ ?_)
   | (with_reducible refine LeO.bind ?_ (fun _ => ?_))
   | exact impl_part.mono _ _ _
   | exact LeO.none _
   | refine LeO.ite ?_ ?_
   | refine LeO.bind ?_ (fun _ => ?_)
set_option maxHeartbeats 8000000 in
set_option maxRecDepth 100000 in
theorem impl_Turn_minus.calls (k : Nat) (a0_0 : Int) (a0_1 : Int) (a1_0 : Int) (a1_1 : Int) (r1 : Int) (r2 : Int) (w : World) (h : impl_Turn_minus.f k a0_0 a0_1 a1_0 a1_1 = some (r1, r2)) :
  Calls Try.prog 26 #[.agg #[.int .i64 a0_0, .int .i64 a0_1], .agg #[.int .i64 a1_0, .int .i64 a1_1]] w fun e w' => e = .returned (.agg #[.int .i64 r1, .int .i64 r2]) ∧ Below w.heap.size w w' := by
 have hu24 := Try.underlying24
 have HB := Am (Below.refl w.heap.size w)
 have H : ((impl_part.f k (wrap64 ((wrap64 (a0_0 * a1_1)) - (wrap64 (a1_0 * a0_1)))) (wrap64 (a0_1 * a1_1))).bind fun bt137 => (some (bt137.1, bt137.2))) = some (r1, r2) := h
 clear h
 replace H := Option.bind_eq_some_iff.mp H
 obtain ⟨⟨t137, t138⟩, A30, H⟩ := H
 try dsimp only at H
 have A3 := Am A30
 clear A30
 focus
  simp only [Option.some.injEq, Prod.mk.injEq] at H
  obtain ⟨rfl, rfl⟩ := H
  go_enter Try.func26, Try.ntmps26
  go_wp2_with (first | ((with_reducible refine gate_dst (N := 2) rfl ?_); refine bE 2 #[.int .i64 a0_0, .int .i64 a0_1] 24 ?_; intro gb134 hg w4 hbox hb; have hv := vK HB hb; have n0_ := Am (bT hv hb); have n1_ := Am (hbox); have GE134 := kG hg hv; clear HB; have HB := n0_; have BK134 := n1_; clear n0_ n1_ hv; clear hb hbox hg) | ((with_reducible refine gate_dst (N := 3) rfl ?_); refine bE 3 #[.int .i64 a1_0, .int .i64 a1_1] 24 ?_; intro gb135 hg w5 hbox hb; have hp0 := pA BK134 hb; have hv := vK HB hb; have n1_ := Am (bT hv hb); have n2_ := Am (hbox); have GE135 := kG hg hv; have hp1 := pK BK134 hb; obtain ⟨NB134_135, NB135_134⟩ := kXY hg hp1 BK134; clear HB; replace BK134 := hp0 BK134; have HB := n1_; have BK135 := n2_; clear n1_ n2_ hp0 hp1 hv; clear hb hbox hg) | ((with_reducible refine gate_dst (N := 4) rfl ?_); refine bE 4 #[.int .i64 0, .int .i64 0] 24 ?_; intro gb136 hg w6 hbox hb; have hp0 := pA BK134 hb; have hv := vK HB hb; have n2_ := Am (bT hv hb); have n3_ := Am (hbox); have GE136 := kG hg hv; have hp1 := pK BK134 hb; obtain ⟨NB134_136, NB136_134⟩ := kXY hg hp1 BK134; obtain ⟨NB135_136, NB136_135⟩ := kXY hg hp1 BK135; clear HB; replace BK134 := hp0 BK134; replace BK135 := hp0 BK135; have HB := n2_; have BK136 := n3_; clear n2_ n3_ hp0 hp1 hv; clear hb hbox hg; have nq7 := kO NB134_135; have nq8 := kO NB134_136; have zq9 := c2 BK134; have nq10 := kO NB135_136; have zq11 := c2 BK135) | ((with_reducible refine gate_callee (f := 33) rfl ?_); refine gL (some 21) Try.func33 #[.int .i64 (wrap64 ((wrap64 (a0_0 * a1_1)) - (wrap64 (a1_0 * a0_1)))), .int .i64 (wrap64 (a0_1 * a1_1))] rfl ?_; (with_reducible refine (impl_part.calls k (wrap64 ((wrap64 (a0_0 * a1_1)) - (wrap64 (a1_0 * a0_1)))) (wrap64 (a0_1 * a1_1)) t137 t138 _ A3.out).mono ?_); rintro e w12 ⟨rfl, hb⟩; refine ⟨_, rfl, ?_⟩; have hp0 := pA BK134 hb; have hv := vK HB hb; have n3_ := Am (bT hv hb); clear HB; replace BK134 := hp0 BK134; replace BK135 := hp0 BK135; replace BK136 := hp0 BK136; have HB := n3_; clear n3_ hp0 hv; (try clear hb); have zq13 := c2 BK136))
  refine bodyPost_ret (results_cell_row rfl _ _ gb136 24 #[.int .i64 t137, .int .i64 t138] (0, 0) _ rfl (by (with_reducible repeat (first | refine kN ?_ _ | refine kD ?_ | refine kA ?_ _)); refine kP (cs := #[.int .i64 t137, .int .i64 0]) ?_ 1 _ rfl; (with_reducible repeat (first | refine kN ?_ _ | refine kD ?_ | refine kA ?_ _)); refine kP (cs := #[.int .i64 0, .int .i64 0]) ?_ 0 _ rfl; (with_reducible repeat (first | refine kN ?_ _ | refine kD ?_ | refine kA ?_ _)); exact BK136.out) Try.underlying24 rfl (by kernel_rfl)) rfl ?_
  exact ⟨by first | rfl | (simp [errW_none, errW_some] <;> rfl) | (simp [*, errW_none, errW_some] <;> rfl), by repeat (first | (with_reducible first | exact HB.out | apply bA | apply bN | apply bD | refine bX ?_ (by assumption)) | exact HB.out)⟩
/-! ### impl_ifTurns: function 27 -/
def impl_ifTurns.f (k : Nat) (l0 : List (S24)) (a1 : Bool) : Option ((List (S24)) × Bool) := if a1 = true then ((impl_areTurns.f k l0).bind fun t139 => (if t139 = true then (some (l0, true)) else (some (([] : List (S24)), false)))) else (some (([] : List (S24)), false))
theorem impl_ifTurns.mono : ∀ a0 a1 k, LeO (impl_ifTurns.f k a0 a1) (impl_ifTurns.f (k + 1) a0 a1) := by
 intro a0 a1 k
 unfold impl_ifTurns.f
 repeat' first
   | (with_reducible exact impl_areTurns.mono _ _)
   | (with_reducible exact LeO.refl _)
   | (with_reducible exact LeO.none _)
   | (with_reducible refine LeO.ite ?_ ?_)
   | (with_reducible refine LeO.bind ?_ (fun _ => ?_))
   | exact impl_areTurns.mono _ _
   | exact LeO.none _
   | refine LeO.ite ?_ ?_
   | refine LeO.bind ?_ (fun _ => ?_)
set_option maxHeartbeats 8000000 in
set_option maxRecDepth 100000 in
theorem impl_ifTurns.calls (k : Nat) (P0_ : Nat → Prop) (u9000_ : Value) (l0 : List (S24)) (a1 : Bool) (r1 : List (S24)) (r2 : Bool) (w0 w : World) (hB : Below w0.heap.size w0 w) (ho0 : Kd.R k24 24 w w0.heap.size P0_ u9000_ l0) (h : impl_ifTurns.f k l0 a1 = some (r1, r2)) :
  Calls Try.prog 27 #[u9000_, .bool a1] w fun e w' => ∃ v0_ : Value, e = .returned (.tuple #[v0_, .bool r2]) ∧ Kd.R k24 24 w' w0.heap.size (fun k_ => (P0_ k_ ∨ w.heap.size ≤ k_)) v0_ r1 ∧ Below w0.heap.size w0 w' ∧ Kept w w' (fun k_ => P0_ k_) := by
 have HO0 := Am (show Kd.R k24 24 w w0.heap.size (fun k_ => (P0_ k_ ∨ w.heap.size ≤ k_)) u9000_ l0 from Kd.R_mono ho0 (fun k_ hk => (.inl hk)))
 have HK := Am (Kept.refl w (fun k_ => P0_ k_))
 have HW0 := Am hB.size
 have HB := Am hB
 clear hB
 have H : (if a1 = true then ((impl_areTurns.f k l0).bind fun t139 => (if t139 = true then (some (l0, true)) else (some (([] : List (S24)), false)))) else (some (([] : List (S24)), false))) = some (r1, r2) := h
 clear h
 by_cases c3 : a1 = true
 ·subst c3
  have H1 : ((impl_areTurns.f k l0).bind fun t139 => (if t139 = true then (some (l0, true)) else (some (([] : List (S24)), false)))) = some (r1, r2) := by rw [if_pos rfl] at H; exact H
  clear H
  have H := H1
  clear H1
  replace H := Option.bind_eq_some_iff.mp H
  obtain ⟨t139, A40, H⟩ := H
  try dsimp only at H
  have A4 := Am A40
  clear A40
  by_cases c5 : t139 = true
  ·subst c5
   have H1 : (some (l0, true)) = some (r1, r2) := by rw [if_pos rfl] at H; exact H
   clear H
   have H := H1
   clear H1
   focus
    simp only [Option.some.injEq, Prod.mk.injEq] at H
    obtain ⟨rfl, rfl⟩ := H
    obtain ⟨Ao6, co6, eo6⟩ := Kd.R_slice HO0.out
    subst eo6
    go_enter Try.func27, Try.ntmps27
    go_wp2_with (first | (go_at_call 23; (with_reducible refine (impl_areTurns.calls k _ _ l0 true _ ?side1 ?side2 A4.out).mono ?_); (case side1 => repeat (first | exact (Kd.R_reads' HO0.out).2.2 | (with_reducible refine Kd.C_alloc ?_ _) | (with_reducible refine Kd.C_drewN ?_ _) | (with_reducible refine Kd.C_drew ?_))); (case side2 => exact (Kd.R_reads' HO0.out).2.1); rintro e w7 ⟨rfl, hb⟩; have n0_ := Am (Kd.R_below (kW HO0) hb); have n1_ := Am (Kept.below (S := (fun k_ => P0_ k_)) (by repeat (first | (with_reducible first | exact HK.out | apply Kept.alloc | apply Kept.drewN | apply Kept.drew) | exact HK.out)) hb); have hv := vK HB hb; have n2_ := Am (bT hv hb); clear HO0; clear HK; clear HB; have HO0 := n0_; have HK := n1_; have HB := n2_; clear n0_ n1_ n2_ hv; (try clear hb)))
    go_ret2
    exact ⟨_, by first | rfl | (simp [errW_none, errW_some] <;> rfl) | (simp [*, errW_none, errW_some] <;> rfl), by (with_reducible repeat (first | apply Kd.R_alloc | apply Kd.R_drewN | apply Kd.R_drew)); exact HO0.out, by repeat (first | (with_reducible first | exact HB.out | apply bA | apply bN | apply bD) | exact HB.out), by repeat (first | (with_reducible first | exact HK.out | apply Kept.alloc | apply Kept.drewN | apply Kept.drew) | exact HK.out)⟩
  replace c5 := Bool.eq_false_iff.mpr c5
  subst c5
  have H1 : (some (([] : List (S24)), false)) = some (r1, r2) := by rw [if_neg (show ¬ (false = true) by decide)] at H; exact H
  clear H
  have H := H1
  clear H1
  focus
   simp only [Option.some.injEq, Prod.mk.injEq] at H
   obtain ⟨rfl, rfl⟩ := H
   obtain ⟨Ao8, co8, eo8⟩ := Kd.R_slice HO0.out
   subst eo8
   go_enter Try.func27, Try.ntmps27
   go_wp2_with (first | (go_at_call 23; (with_reducible refine (impl_areTurns.calls k _ _ l0 false _ ?side1 ?side2 A4.out).mono ?_); (case side1 => repeat (first | exact (Kd.R_reads' HO0.out).2.2 | (with_reducible refine Kd.C_alloc ?_ _) | (with_reducible refine Kd.C_drewN ?_ _) | (with_reducible refine Kd.C_drew ?_))); (case side2 => exact (Kd.R_reads' HO0.out).2.1); rintro e w9 ⟨rfl, hb⟩; have n0_ := Am (Kd.R_below (kW HO0) hb); have n1_ := Am (Kept.below (S := (fun k_ => P0_ k_)) (by repeat (first | (with_reducible first | exact HK.out | apply Kept.alloc | apply Kept.drewN | apply Kept.drew) | exact HK.out)) hb); have hv := vK HB hb; have n2_ := Am (bT hv hb); clear HO0; clear HK; clear HB; have HO0 := n0_; have HK := n1_; have HB := n2_; clear n0_ n1_ n2_ hv; (try clear hb)))
   go_ret2
   exact ⟨_, by first | rfl | (simp [errW_none, errW_some] <;> rfl) | (simp [*, errW_none, errW_some] <;> rfl), by first | exact Kd.R_nil _ _ _ _ _ | exact Kd.N_nil _ _ _ _ _ | exact Kd.V_nil _ _ _ _ _ | exact Kd.Q_nil _ _ _ _ _ | exact Kd.S_nil _ _ _ _ _, by repeat (first | (with_reducible first | exact HB.out | apply bA | apply bN | apply bD) | exact HB.out), by repeat (first | (with_reducible first | exact HK.out | apply Kept.alloc | apply Kept.drewN | apply Kept.drew) | exact HK.out)⟩
 replace c3 := Bool.eq_false_iff.mpr c3
 subst c3
 have H1 : (some (([] : List (S24)), false)) = some (r1, r2) := by rw [if_neg (show ¬ (false = true) by decide)] at H; exact H
 clear H
 have H := H1
 clear H1
 focus
  simp only [Option.some.injEq, Prod.mk.injEq] at H
  obtain ⟨rfl, rfl⟩ := H
  go_enter Try.func27, Try.ntmps27
  go_wp2
  go_ret2
  exact ⟨_, by first | rfl | (simp [errW_none, errW_some] <;> rfl) | (simp [*, errW_none, errW_some] <;> rfl), by first | exact Kd.R_nil _ _ _ _ _ | exact Kd.N_nil _ _ _ _ _ | exact Kd.V_nil _ _ _ _ _ | exact Kd.Q_nil _ _ _ _ _ | exact Kd.S_nil _ _ _ _ _, by repeat (first | (with_reducible first | exact HB.out | apply bA | apply bN | apply bD) | exact HB.out), by repeat (first | (with_reducible first | exact HK.out | apply Kept.alloc | apply Kept.drewN | apply Kept.drew) | exact HK.out)⟩
end Go.Proofs.Ytnffmifjleebpaa.PFnHandsSpreadOfAll
