-- WRITTEN BY A PROGRAM OF THIS SESSION (wip/tools): its own text, not the kit's printed one.
import Derived.Test.YtpmldpfoiljmcaaPFnTurnsAddedOfAllx0
namespace Go.Proofs.Ytpmldpfoiljmcaa.PFnTurnsAddedOfAll
open Go.RowKit Go.Proofs.YtpmldpfoiljmcaaW.PrintWords Go.Proofs.YtpmldpfoiljmcaaW.PrintLast Go.Proofs.YtpmldpfoiljmcaaW.PrintMore
attribute [local go_sem] max2_int min2_int max_two min_two max_three min_three max_four min_four   -- for this text's walks alone
set_option linter.unusedVariables false
set_option linter.unusedSimpArgs false

-- NOT PRINTED: function 43 (impl_Turn_43)

-- NOT PRINTED: function 37 (impl_Turn_37)

/-! ### impl_within: function 30 -/
def impl_within.f (a0 : Int) (a1 : Int) (a2 : Int) : Option (Bool) := if a0 ≥ a1 then (some (decide (a0 ≤ a2))) else (some false)
set_option maxHeartbeats 8000000 in
set_option maxRecDepth 100000 in
theorem impl_within.calls (a0 : Int) (a1 : Int) (a2 : Int) (r : Bool) (w : World) (h : impl_within.f a0 a1 a2 = some r) :
  Calls Try.prog 30 #[.int .i64 a0, .int .i64 a1, .int .i64 a2] w fun e w' => e = .returned (.bool r) ∧ Drawn0 w w' := by
 have H : (if a0 ≥ a1 then (some (decide (a0 ≤ a2))) else (some false)) = some r := h
 clear h
 by_cases c4 : a0 ≥ a1
 ·rw [if_pos c4] at H
  have c4b0 : decide (a1 ≤ a0) = true := decide_eq_true c4
  clear c4
  as_aux_lemma =>
   obtain rfl := Option.some.inj H
   go_enter Try.func30, Try.ntmps30
   go_wp2
   go_ret
   exact ⟨by first | rfl | (simp; done) | (simp [*]; done), by repeat (first | exact Drawn0.refl _ | apply Drawn0.step)⟩
 rw [if_neg c4] at H
 have c4b0 : decide (a1 ≤ a0) = false := decide_eq_false c4
 clear c4
 as_aux_lemma =>
  obtain rfl := Option.some.inj H
  go_enter Try.func30, Try.ntmps30
  go_wp2
  go_ret
  exact ⟨by first | rfl | (simp; done) | (simp [*]; done), by repeat (first | exact Drawn0.refl _ | apply Drawn0.step)⟩
/-! ### impl_gcd: function 31 -/
def impl_gcd.l0 : Nat → Int → Int → Option (Int)
 | 0, _, _ => none
 | k + 1, x0, x1 => if x1 = 0 then (some (mx x0 (wrap64 (-x0)))) else (impl_gcd.l0 k x1 (Int.tmod x0 x1))
def impl_gcd.f (k : Nat) (a0 : Int) (a1 : Int) : Option (Int) := impl_gcd.l0 k a0 a1
theorem impl_gcd.mono_l : ∀ k, (∀ y0 y1, LeO (impl_gcd.l0 k y0 y1) (impl_gcd.l0 (k + 1) y0 y1))
 | 0 => fun _ _ r h => by simp [impl_gcd.l0] at h
 | k + 1 => by
  have ih0 := impl_gcd.mono_l k
  ·intro y0 y1
   unfold impl_gcd.l0
   repeat' first
   | (with_reducible exact ih0 _ _)
   | (with_reducible exact LeO.refl _)
   | (with_reducible exact LeO.none _)
   | (with_reducible refine LeO.ite ?_ ?_)
   | (with_reducible refine LeO.bind ?_ (fun _ => ?_))
   | exact ih0 _ _
   | exact LeO.none _
   | refine LeO.ite ?_ ?_
   | refine LeO.bind ?_ (fun _ => ?_)
theorem impl_gcd.mono : ∀ a0 a1 k, LeO (impl_gcd.f k a0 a1) (impl_gcd.f (k + 1) a0 a1) := by
 intro a0 a1 k
 have ih0 := impl_gcd.mono_l k
 unfold impl_gcd.f
 repeat' first
   | (with_reducible exact ih0 _ _)
   | (with_reducible exact LeO.refl _)
   | (with_reducible exact LeO.none _)
   | (with_reducible refine LeO.ite ?_ ?_)
   | (with_reducible refine LeO.bind ?_ (fun _ => ?_))
   | exact ih0 _ _
   | exact LeO.none _
   | refine LeO.ite ?_ ?_
   | refine LeO.bind ?_ (fun _ => ?_)
set_option maxHeartbeats 8000000 in
set_option maxRecDepth 100000 in
theorem impl_gcd.calls (k : Nat) (a0 : Int) (a1 : Int) (r : Int) (w : World) (h : impl_gcd.f k a0 a1 = some r) :
  Calls Try.prog 31 #[.int .i64 a0, .int .i64 a1] w fun e w' => e = .returned (.int .i64 r) ∧ Below w.heap.size w w' := by
 have HB := Am (Below.refl w.heap.size w)
 have H : (impl_gcd.l0 k a0 a1) = some r := h
 clear h
 have H' := Am H
 clear H
 go_enter Try.func31, Try.ntmps31
 go_wp2
 repeat (go_quiet (fail); try go_wp2)
 go_loopg [0, 1] k (fun kq v0 v1 w' => ∃ (x0_1 : Int) (x1_1 : Int), v0 = .int .i64 x0_1 ∧ v1 = .int .i64 x1_1 ∧ Aside0 (impl_gcd.l0 kq x0_1 x1_1 = some r) ∧ Aside0 (kq ≤ k) ∧ Aside0 (Below w.heap.size w w'))
 case atStart => exact ⟨(a0), (a1), (by first | rfl | (simp; done) | (simp [*]; done)), (by first | rfl | (simp; done) | (simp [*]; done)), H', ⟨Nat.le_refl _⟩, ⟨by repeat (first | (with_reducible first | exact HB.out | apply bA | apply bN | apply bD) | exact HB.out)⟩⟩
 case round =>
  clear H'
  obtain ⟨x0_1, x1_1, rfl, rfl, HA, HK1, HB⟩ := hrel
  cases gk with
  | zero => exact absurd HA.out (by simp [impl_gcd.l0])
  | succ k1 =>
   have H := HA.out
   clear HA
   simp only [impl_gcd.l0] at H
   by_cases c3 : x1_1 = 0
   ·rw [if_pos c3] at H
    have c3b0 : (x1_1 == 0) = true := beq_iff_eq.mpr c3
    have c3b1 : (x1_1 != 0) = false := bne_eq_false_iff_eq.mpr c3
    clear c3
    obtain ⟨ji4, hji4⟩ : ∃ j_ : Int, (mx x0_1 (wrap64 (-x0_1))) = j_ := ⟨_, rfl⟩
    replace H : (some ji4) = some r := by first | (rw [hji4] at H; exact H) | (simp only [hji4] at H ⊢; exact H)
    have hji4_ : (if x0_1 < (wrap64 (-x0_1)) then (wrap64 (-x0_1)) else x0_1) = ji4 := hji4
    as_aux_lemma =>
     obtain rfl := Option.some.inj H
     go_wp2
     repeat (go_quiet (fail); try go_wp2)
     go_ret
     exact ⟨by first | rfl | (simp [errW_none, errW_some] <;> rfl) | (simp only [← hji4]; first | rfl | (simp [errW_none, errW_some] <;> rfl)) | (simp [*, errW_none, errW_some] <;> rfl), by repeat (first | (with_reducible first | exact HB.out | apply bA | apply bN | apply bD) | exact HB.out)⟩
   rw [if_neg c3] at H
   have c3b0 : (x1_1 == 0) = false := beq_eq_false_iff_ne.mpr c3
   have c3b1 : (x1_1 != 0) = true := bne_iff_ne.mpr c3
   as_aux_lemma =>
    have H' := Am H
    clear H
    go_wp2
    repeat (go_quiet (fail); try go_wp2)
    go_roundg k1
    case measure => have := HK1.out; omega
    case rel => exact ⟨(x1_1), (Int.tmod x0_1 x1_1), (by first | rfl | (simp; done) | (simp [*]; done)), (by first | rfl | (simp; done) | (simp [*]; done)), H', ⟨by have := HK1.out; omega⟩, ⟨by repeat (first | (with_reducible first | exact HB.out | apply bA | apply bN | apply bD) | exact HB.out)⟩⟩
/-! ### impl_IsTurn: function 12 -/
def impl_IsTurn.f (k : Nat) (a0_0 : Int) (a0_1 : Int) : Option (Bool) := (impl_within.f a0_1 1 1000000).bind fun t102 => (if t102 = true then ((impl_within.f a0_0 0 (wrap64 (a0_1 - 1))).bind fun t103 => (if t103 = true then ((impl_gcd.f k a0_0 a0_1).bind fun t104 => (some (t104 == 1))) else (some false))) else (some false))
theorem impl_IsTurn.mono : ∀ a0 a1 k, LeO (impl_IsTurn.f k a0 a1) (impl_IsTurn.f (k + 1) a0 a1) := by
 intro a0 a1 k
 unfold impl_IsTurn.f
 repeat' first
   | (with_reducible exact impl_gcd.mono _ _ _)
   | (with_reducible exact LeO.refl _)
   | (with_reducible exact LeO.none _)
   | (with_reducible refine LeO.ite ?_ ?_)
   | (with_reducible refine LeO.bind ?_ (fun _ => ?_))
   | exact impl_gcd.mono _ _ _
   | exact LeO.none _
   | refine LeO.ite ?_ ?_
   | refine LeO.bind ?_ (fun _ => ?_)
set_option maxHeartbeats 8000000 in
set_option maxRecDepth 100000 in
theorem impl_IsTurn.calls (k : Nat) (a0_0 : Int) (a0_1 : Int) (r : Bool) (w : World) (h : impl_IsTurn.f k a0_0 a0_1 = some r) :
  Calls Try.prog 12 #[.agg #[.int .i64 a0_0, .int .i64 a0_1]] w fun e w' => e = .returned (.bool r) ∧ Below w.heap.size w w' := by
 have hu23 := Try.underlying23
 have HB := Am (Below.refl w.heap.size w)
 have H : ((impl_within.f a0_1 1 1000000).bind fun t102 => (if t102 = true then ((impl_within.f a0_0 0 (wrap64 (a0_1 - 1))).bind fun t103 => (if t103 = true then ((impl_gcd.f k a0_0 a0_1).bind fun t104 => (some (t104 == 1))) else (some false))) else (some false))) = some r := h
 clear h
 replace H := Option.bind_eq_some_iff.mp H
 obtain ⟨t102, A20, H⟩ := H
 try dsimp only at H
 have A2 := Am A20
 clear A20
 by_cases c3 : t102 = true
 ·subst c3
  have H1 : ((impl_within.f a0_0 0 (wrap64 (a0_1 - 1))).bind fun t103 => (if t103 = true then ((impl_gcd.f k a0_0 a0_1).bind fun t104 => (some (t104 == 1))) else (some false))) = some r := by rw [if_pos rfl] at H; exact H
  clear H
  have H := H1
  clear H1
  replace H := Option.bind_eq_some_iff.mp H
  obtain ⟨t103, A40, H⟩ := H
  try dsimp only at H
  have A4 := Am A40
  clear A40
  by_cases c5 : t103 = true
  ·subst c5
   have H1 : ((impl_gcd.f k a0_0 a0_1).bind fun t104 => (some (t104 == 1))) = some r := by rw [if_pos rfl] at H; exact H
   clear H
   have H := H1
   clear H1
   replace H := Option.bind_eq_some_iff.mp H
   obtain ⟨t104, A60, H⟩ := H
   try dsimp only at H
   have A6 := Am A60
   clear A60
   as_aux_lemma =>
    obtain rfl := Option.some.inj H
    go_enter Try.func12, Try.ntmps12
    go_wp2_with (first | ((with_reducible refine gate_dst (N := 1) rfl ?_); refine box_event ?hg (N := 1) ?hd (cs := #[.int .i64 a0_0, .int .i64 a0_1]) (t := 23) ?hr ?_; (case hd => rfl); (case hg => rfl); (case hr => first | (go_simp; done) | (go_simp; rfl)); intro gb101 hg w7 hbox hb; have hv := hvK (w := w) hb (by repeat (first | (with_reducible first | exact HB.out | apply bA | apply bN | apply bD) | exact HB.out)); have n0_ := Am (bT hv hb); have n1_ := Am (hbox); have GW101 := kG hg hv; have GE101 := kG hg hv; clear HB; have HB := n0_; have BK101 := n1_; clear n0_ n1_ hv; clear hb hbox hg; have hcz8_0 := c20 BK101.out; have hcz8_1 := c21 BK101.out; have hfz8_0 := kF BK101.out 0; have hfz8_1 := kF BK101.out 1) | ((with_reducible refine gate_callee (f := 30) rfl ?_); refine goesL_ (some 5) rfl rfl Try.func30 (by kernel_rfl) rfl #[.int .i64 a0_1, .int .i64 1, .int .i64 1000000] rfl (by (try simp only [List.map_toArray, List.map_cons, List.map_nil]); first | done | rfl | (simp only [List.length_drop, List.length_take]; rfl)) ?_; (with_reducible refine (impl_within.calls a0_1 1 1000000 true _ A2.out).mono ?_); rintro e w' ⟨rfl, ⟨nd, rfl⟩⟩; refine ⟨_, rfl, ?_⟩) | (go_at_call 30; (with_reducible refine (impl_within.calls a0_0 0 (wrap64 (a0_1 - 1)) true _ A4.out).mono ?_); rintro e w' ⟨rfl, ⟨nd, rfl⟩⟩) | (go_at_call 31; (with_reducible refine (impl_gcd.calls k a0_0 a0_1 t104 _ A6.out).mono ?_); rintro e w9 ⟨rfl, hb⟩; have hp0 := hpA BK101.out hb (fun _ _ h_ => by (with_reducible repeat (first | refine kN ?_ _ | refine kD ?_ | refine kA ?_ _)); exact h_); have hv := hvK (w := w) hb (by repeat (first | (with_reducible first | exact HB.out | apply bA | apply bN | apply bD | refine bX ?_ (by assumption)) | exact HB.out)); have n1_ := Am (bT hv hb); clear HB; replace BK101 := hp0 BK101; have HB := n1_; clear n1_ hp0 hv; (try clear hb)))
    go_ret
    exact ⟨by first | rfl | (simp [errW_none, errW_some] <;> rfl) | (simp [*, errW_none, errW_some] <;> rfl), by repeat (first | (with_reducible first | exact HB.out | apply bA | apply bN | apply bD | refine bX ?_ (by assumption)) | exact HB.out)⟩
  replace c5 := Bool.eq_false_iff.mpr c5
  subst c5
  have H1 : (some false) = some r := by rw [if_neg (show ¬ (false = true) by decide)] at H; exact H
  clear H
  have H := H1
  clear H1
  as_aux_lemma =>
   obtain rfl := Option.some.inj H
   go_enter Try.func12, Try.ntmps12
   go_wp2_with (first | ((with_reducible refine gate_dst (N := 1) rfl ?_); refine box_event ?hg (N := 1) ?hd (cs := #[.int .i64 a0_0, .int .i64 a0_1]) (t := 23) ?hr ?_; (case hd => rfl); (case hg => rfl); (case hr => first | (go_simp; done) | (go_simp; rfl)); intro gb101 hg w10 hbox hb; have hv := hvK (w := w) hb (by repeat (first | (with_reducible first | exact HB.out | apply bA | apply bN | apply bD) | exact HB.out)); have n0_ := Am (bT hv hb); have n1_ := Am (hbox); have GW101 := kG hg hv; have GE101 := kG hg hv; clear HB; have HB := n0_; have BK101 := n1_; clear n0_ n1_ hv; clear hb hbox hg; have hcz11_0 := c20 BK101.out; have hcz11_1 := c21 BK101.out; have hfz11_0 := kF BK101.out 0; have hfz11_1 := kF BK101.out 1) | ((with_reducible refine gate_callee (f := 30) rfl ?_); refine goesL_ (some 5) rfl rfl Try.func30 (by kernel_rfl) rfl #[.int .i64 a0_1, .int .i64 1, .int .i64 1000000] rfl (by (try simp only [List.map_toArray, List.map_cons, List.map_nil]); first | done | rfl | (simp only [List.length_drop, List.length_take]; rfl)) ?_; (with_reducible refine (impl_within.calls a0_1 1 1000000 true _ A2.out).mono ?_); rintro e w' ⟨rfl, ⟨nd, rfl⟩⟩; refine ⟨_, rfl, ?_⟩) | (go_at_call 30; (with_reducible refine (impl_within.calls a0_0 0 (wrap64 (a0_1 - 1)) false _ A4.out).mono ?_); rintro e w' ⟨rfl, ⟨nd, rfl⟩⟩))
   go_ret
   exact ⟨by first | rfl | (simp [errW_none, errW_some] <;> rfl) | (simp [*, errW_none, errW_some] <;> rfl), by repeat (first | (with_reducible first | exact HB.out | apply bA | apply bN | apply bD | refine bX ?_ (by assumption)) | exact HB.out)⟩
 replace c3 := Bool.eq_false_iff.mpr c3
 subst c3
 have H1 : (some false) = some r := by rw [if_neg (show ¬ (false = true) by decide)] at H; exact H
 clear H
 have H := H1
 clear H1
 as_aux_lemma =>
  obtain rfl := Option.some.inj H
  go_enter Try.func12, Try.ntmps12
  go_wp2_with (first | ((with_reducible refine gate_dst (N := 1) rfl ?_); refine box_event ?hg (N := 1) ?hd (cs := #[.int .i64 a0_0, .int .i64 a0_1]) (t := 23) ?hr ?_; (case hd => rfl); (case hg => rfl); (case hr => first | (go_simp; done) | (go_simp; rfl)); intro gb101 hg w12 hbox hb; have hv := hvK (w := w) hb (by repeat (first | (with_reducible first | exact HB.out | apply bA | apply bN | apply bD) | exact HB.out)); have n0_ := Am (bT hv hb); have n1_ := Am (hbox); have GW101 := kG hg hv; have GE101 := kG hg hv; clear HB; have HB := n0_; have BK101 := n1_; clear n0_ n1_ hv; clear hb hbox hg; have hcz13_0 := c20 BK101.out; have hcz13_1 := c21 BK101.out; have hfz13_0 := kF BK101.out 0; have hfz13_1 := kF BK101.out 1) | ((with_reducible refine gate_callee (f := 30) rfl ?_); refine goesL_ (some 5) rfl rfl Try.func30 (by kernel_rfl) rfl #[.int .i64 a0_1, .int .i64 1, .int .i64 1000000] rfl (by (try simp only [List.map_toArray, List.map_cons, List.map_nil]); first | done | rfl | (simp only [List.length_drop, List.length_take]; rfl)) ?_; (with_reducible refine (impl_within.calls a0_1 1 1000000 false _ A2.out).mono ?_); rintro e w' ⟨rfl, ⟨nd, rfl⟩⟩; refine ⟨_, rfl, ?_⟩))
  go_ret
  exact ⟨by first | rfl | (simp [errW_none, errW_some] <;> rfl) | (simp [*, errW_none, errW_some] <;> rfl), by repeat (first | (with_reducible first | exact HB.out | apply bA | apply bN | apply bD | refine bX ?_ (by assumption)) | exact HB.out)⟩
/-! ### impl_areTurns_1: function 38 -/
def impl_areTurns_1.f (k : Nat) (a0_0 : Int) (a0_1 : Int) : Option (Bool) := (impl_IsTurn.f k a0_0 a0_1).bind fun t106 => (some (!t106))
theorem impl_areTurns_1.mono : ∀ a0 a1 k, LeO (impl_areTurns_1.f k a0 a1) (impl_areTurns_1.f (k + 1) a0 a1) := by
 intro a0 a1 k
 unfold impl_areTurns_1.f
 repeat' first
   | (with_reducible exact impl_IsTurn.mono _ _ _)
   | (with_reducible exact LeO.refl _)
   | (with_reducible exact LeO.none _)
   | (with_reducible refine LeO.ite ?_ ?_)
   | (with_reducible refine LeO.bind ?_ (fun _ => ?_))
   | exact impl_IsTurn.mono _ _ _
   | exact LeO.none _
   | refine LeO.ite ?_ ?_
   | refine LeO.bind ?_ (fun _ => ?_)
set_option maxHeartbeats 8000000 in
set_option maxRecDepth 100000 in
theorem impl_areTurns_1.calls (k : Nat) (a0_0 : Int) (a0_1 : Int) (r : Bool) (w : World) (h : impl_areTurns_1.f k a0_0 a0_1 = some r) :
  Calls Try.prog 38 #[.agg #[.int .i64 a0_0, .int .i64 a0_1]] w fun e w' => e = .returned (.bool r) ∧ Below w.heap.size w w' := by
 have hu23 := Try.underlying23
 have HB := Am (Below.refl w.heap.size w)
 have H : ((impl_IsTurn.f k a0_0 a0_1).bind fun t106 => (some (!t106))) = some r := h
 clear h
 replace H := Option.bind_eq_some_iff.mp H
 obtain ⟨t106, A20, H⟩ := H
 try dsimp only at H
 have A2 := Am A20
 clear A20
 as_aux_lemma =>
  obtain rfl := Option.some.inj H
  go_enter Try.func38, Try.ntmps38
  go_wp2_with (first | ((with_reducible refine gate_dst (N := 1) rfl ?_); refine box_event ?hg (N := 1) ?hd (cs := #[.int .i64 a0_0, .int .i64 a0_1]) (t := 23) ?hr ?_; (case hd => rfl); (case hg => rfl); (case hr => first | (go_simp; done) | (go_simp; rfl)); intro gb105 hg w3 hbox hb; have hv := hvK (w := w) hb (by repeat (first | (with_reducible first | exact HB.out | apply bA | apply bN | apply bD) | exact HB.out)); have n0_ := Am (bT hv hb); have n1_ := Am (hbox); have GW105 := kG hg hv; have GE105 := kG hg hv; clear HB; have HB := n0_; have BK105 := n1_; clear n0_ n1_ hv; clear hb hbox hg; have hcz4_0 := c20 BK105.out; have hcz4_1 := c21 BK105.out; have hfz4_0 := kF BK105.out 0; have hfz4_1 := kF BK105.out 1) | ((with_reducible refine gate_callee (f := 12) rfl ?_); refine goesL_ (some 4) rfl rfl Try.func12 (by kernel_rfl) rfl #[.agg #[.int .i64 a0_0, .int .i64 a0_1]] rfl (by (try simp only [List.map_toArray, List.map_cons, List.map_nil]); first | done | rfl | (simp only [List.length_drop, List.length_take]; rfl)) ?_; (with_reducible refine (impl_IsTurn.calls k a0_0 a0_1 t106 _ A2.out).mono ?_); rintro e w5 ⟨rfl, hb⟩; refine ⟨_, rfl, ?_⟩; have hp0 := hpA BK105.out hb (fun _ _ h_ => by (with_reducible repeat (first | refine kN ?_ _ | refine kD ?_ | refine kA ?_ _)); exact h_); have hv := hvK (w := w) hb (by repeat (first | (with_reducible first | exact HB.out | apply bA | apply bN | apply bD | refine bX ?_ (by assumption)) | exact HB.out)); have n1_ := Am (bT hv hb); clear HB; replace BK105 := hp0 BK105; have HB := n1_; clear n1_ hp0 hv; (try clear hb)))
  go_ret
  exact ⟨by first | rfl | (simp [errW_none, errW_some] <;> rfl) | (simp [*, errW_none, errW_some] <;> rfl), by repeat (first | (with_reducible first | exact HB.out | apply bA | apply bN | apply bD | refine bX ?_ (by assumption)) | exact HB.out)⟩
/-! ### impl_areTurns: function 20 -/
def impl_areTurns.g (k : Nat) : List (S23) → Option (Bool)
 | [] => some true
 | x :: xs => (impl_areTurns_1.f k x.f0 x.f1).bind fun b => if b = true then some false else impl_areTurns.g k xs
def impl_areTurns.f (k : Nat) (l0 : List (S23)) : Option (Bool) := if l0.length < 4611686018427387904 then impl_areTurns.g k l0 else none
theorem impl_areTurns.mono_g : ∀ a0 k, LeO (impl_areTurns.g k a0) (impl_areTurns.g (k + 1) a0)
 | [], k => LeO.refl _
 | x :: xs, k => by
  unfold impl_areTurns.g
  exact LeO.bind (impl_areTurns_1.mono _ _ _) (fun _ => LeO.ite (LeO.refl _) (impl_areTurns.mono_g xs k))
theorem impl_areTurns.mono : ∀ a0 k, LeO (impl_areTurns.f k a0) (impl_areTurns.f (k + 1) a0) := fun a0 k => by
 unfold impl_areTurns.f
 exact LeO.ite (impl_areTurns.mono_g a0 k) (LeO.refl _)
theorem impl_areTurns.at (k : Nat) (l0 : List (S23)) (x8 : Int) (r : Bool) (h0 : 0 ≤ x8) (h1 : x8 < (l0.length : Int)) (h : impl_areTurns.g k (l0.drop x8.toNat) = some r) :
  ∃ b, impl_areTurns_1.f k (rd_T23 l0 x8).f0 (rd_T23 l0 x8).f1 = some b ∧ (b = true → r = false) ∧ (b = false → impl_areTurns.g k (l0.drop (x8 + 1).toNat) = some r) := by
 have hl : x8.toNat < l0.length := by omega
 rw [List.drop_eq_getElem_cons hl] at h
 simp only [impl_areTurns.g] at h
 obtain ⟨b, hb, hr⟩ := Option.bind_eq_some_iff.mp h
 have e1 : rd_T23 l0 x8 = l0[x8.toNat] := by unfold rd_T23; rw [List.getD_eq_getElem?_getD, List.getElem?_eq_getElem hl]; rfl
 refine ⟨b, by rw [e1]; exact hb, fun e => ?_, fun e => ?_⟩
 ·rw [e, if_pos rfl] at hr; exact (Option.some.inj hr).symm
 ·rw [e, if_neg (by decide)] at hr
  rw [show (x8 + 1).toNat = x8.toNat + 1 by omega]; exact hr
set_option maxHeartbeats 8000000 in
set_option maxRecDepth 100000 in
theorem impl_areTurns.idx (k : Nat) (A0 : Option Addr) (c0 : Nat) (l0 : List (S23)) (r : Bool) (w : World) (hr0 : Kd.C k23 w A0 l0.length l0) (hlen : l0.length < 4611686018427387904) (h : impl_areTurns.g k l0 = some r) :
  Calls Try.prog 43 #[.slice A0 l0.length c0, .func (.func 38) #[] #[]] w fun e w' => ∃ v : Int, e = .returned (.int .i64 v) ∧ decide (0 ≤ v) = !r ∧ Below w.heap.size w w' := by
 have HR0 := Am hr0
 clear hr0
 have H' : Aside0 (impl_areTurns.g k (l0.drop (0 : Int).toNat) = some r) := ⟨h⟩
 clear h
 have hu23 := Try.underlying23
 go_enter Try.func43, Try.ntmps43
 go_wp2
 go_loopg [5, 8] l0.length (fun gg v5 v8 w' => ∃ x8 : Int, 0 ≤ x8 ∧ x8 ≤ (l0.length : Int) ∧ (l0.length : Int) - x8 ≤ gg ∧ v8 = .int .i64 x8 ∧ Aside0 (impl_areTurns.g k (l0.drop x8.toNat) = some r) ∧ Aside0 (Below w.heap.size w w'))
 case atStart => exact ⟨0, by omega, by omega, by omega, rfl, H', ⟨Below.refl _ w⟩⟩
 case round =>
  clear H'
  obtain ⟨x8, hx0, hx1, hg, rfl, HA, HB⟩ := hrel
  have hbd : x8 < 4611686018427387904 := by omega
  by_cases hlt : x8 < (l0.length : Int)
  ·have hltb : decide (x8 < (l0.length : Int)) = true := decide_eq_true hlt
   have hx0b : decide (0 ≤ x8) = true := decide_eq_true hx0
   obtain ⟨b, hb, hbt, hbf⟩ := impl_areTurns.at k l0 x8 r hx0 hlt HA.out
   clear HA
   obtain ⟨ad, ea, hc0, hc1⟩ := at_T23 HR0.out x8 hx0 hlt
   cases ea
   replace hc0 := (HB.out.cell (World.block_lt_of_cell? w _ hc0)).trans hc0
   replace hc1 := (HB.out.cell (World.block_lt_of_cell? w _ hc1)).trans hc1
   cases b with
   | true =>
    have HB1 := Am hb
    have HT := Am (hbt rfl)
    clear hb hbt hbf
    go_wp2_with (go_at_call 38; refine (impl_areTurns_1.calls k _ _ true _ HB1.out).mono ?_; rintro e w2 ⟨rfl, hb'⟩)
    go_ret
    exact ⟨x8, rfl, by rw [HT.out]; simpa using hx0, bT HB.out hb'⟩
   | false =>
    have HB1 := Am hb
    have HF := Am (hbf rfl)
    clear hb hbt hbf
    go_wp2_with (go_at_call 38; refine (impl_areTurns_1.calls k _ _ false _ HB1.out).mono ?_; rintro e w2 ⟨rfl, hb'⟩)
    go_roundg (l0.length - (x8 + 1).toNat)
    case measure => omega
    case rel => exact ⟨x8 + 1, by omega, by omega, by omega, by go_num, ⟨HF.out⟩, ⟨bT HB.out hb'⟩⟩
  have hltb : decide (x8 < (l0.length : Int)) = false := decide_eq_false hlt
  have e8 : r = true := by
   have := HA.out
   rw [List.drop_of_length_le (by omega)] at this
   exact (Option.some.inj this).symm
  clear HA
  have E8 := Am e8
  clear e8
  go_wp2
  go_ret
  exact ⟨-1, rfl, by rw [E8.out]; rfl, HB.out⟩
set_option maxHeartbeats 8000000 in
set_option maxRecDepth 100000 in
theorem impl_areTurns.con (k : Nat) (A0 : Option Addr) (c0 : Nat) (l0 : List (S23)) (r : Bool) (w : World) (hr0 : Kd.C k23 w A0 l0.length l0) (hlen : l0.length < 4611686018427387904) (h : impl_areTurns.g k l0 = some r) :
  Calls Try.prog 37 #[.slice A0 l0.length c0, .func (.func 38) #[] #[]] w fun e w' => e = .returned (.bool (!r)) ∧ Below w.heap.size w w' := by
 have HR0 := Am hr0
 have H' := Am h
 clear hr0 h
 go_enter Try.func37, Try.ntmps37
 go_wp2_with (go_at_call 43; refine (impl_areTurns.idx k A0 c0 l0 r _ HR0.out hlen H'.out).mono ?_; rintro e w2 ⟨v, rfl, hv0, hb'⟩; have HV := Am hv0; clear hv0)
 go_ret
 exact ⟨congrArg (fun b => Ending.returned (.bool b)) HV.out, hb'⟩
set_option maxHeartbeats 8000000 in
set_option maxRecDepth 100000 in
theorem impl_areTurns.calls (k : Nat) (A0 : Option Addr) (c0 : Nat) (l0 : List (S23)) (r : Bool) (w : World) (hr0 : Kd.C k23 w A0 l0.length l0) (hc0 : l0.length ≤ c0) (h : impl_areTurns.f k l0 = some r) :
  Calls Try.prog 20 #[.slice A0 l0.length c0] w fun e w' => e = .returned (.bool r) ∧ Below w.heap.size w w' := by
 have HR0 := Am hr0
 have hlen : l0.length < 4611686018427387904 := by
  unfold impl_areTurns.f at h
  by_cases hl : l0.length < 4611686018427387904
  ·exact hl
  rw [if_neg hl] at h; cases h
 have H' : Aside0 (impl_areTurns.g k l0 = some r) := by
  unfold impl_areTurns.f at h
  rw [if_pos hlen] at h
  exact ⟨h⟩
 clear hr0 h
 go_enter Try.func20, Try.ntmps20
 go_wp2_with (go_at_call 37; refine (impl_areTurns.con k A0 c0 l0 r _ HR0.out hlen H'.out).mono ?_; rintro e w2 ⟨rfl, hb'⟩)
 go_ret
 exact ⟨by simp, hb'⟩
/-! ### impl_ifTurn: function 21 -/
def impl_ifTurn.f (k : Nat) (a0_0 : Int) (a0_1 : Int) : Option (Int × Int × Bool) := (impl_IsTurn.f k a0_0 a0_1).bind fun t109 => (if t109 = true then (some (a0_0, a0_1, true)) else (some (0, 0, false)))
theorem impl_ifTurn.mono : ∀ a0 a1 k, LeO (impl_ifTurn.f k a0 a1) (impl_ifTurn.f (k + 1) a0 a1) := by
 intro a0 a1 k
 unfold impl_ifTurn.f
 repeat' first
   | (with_reducible exact impl_IsTurn.mono _ _ _)
   | (with_reducible exact LeO.refl _)
   | (with_reducible exact LeO.none _)
   | (with_reducible refine LeO.ite ?_ ?_)
   | (with_reducible refine LeO.bind ?_ (fun _ => ?_))
   | exact impl_IsTurn.mono _ _ _
   | exact LeO.none _
   | refine LeO.ite ?_ ?_
   | refine LeO.bind ?_ (fun _ => ?_)
set_option maxHeartbeats 8000000 in
set_option maxRecDepth 100000 in
theorem impl_ifTurn.calls (k : Nat) (a0_0 : Int) (a0_1 : Int) (r1 : Int) (r2 : Int) (r3 : Bool) (w : World) (h : impl_ifTurn.f k a0_0 a0_1 = some (r1, r2, r3)) :
  Calls Try.prog 21 #[.agg #[.int .i64 a0_0, .int .i64 a0_1]] w fun e w' => e = .returned (.tuple #[.agg #[.int .i64 r1, .int .i64 r2], .bool r3]) ∧ Below w.heap.size w w' := by
 have hu23 := Try.underlying23
 have HB := Am (Below.refl w.heap.size w)
 have H : ((impl_IsTurn.f k a0_0 a0_1).bind fun t109 => (if t109 = true then (some (a0_0, a0_1, true)) else (some (0, 0, false)))) = some (r1, r2, r3) := h
 clear h
 replace H := Option.bind_eq_some_iff.mp H
 obtain ⟨t109, A20, H⟩ := H
 try dsimp only at H
 have A2 := Am A20
 clear A20
 by_cases c3 : t109 = true
 ·subst c3
  have H1 : (some (a0_0, a0_1, true)) = some (r1, r2, r3) := by rw [if_pos rfl] at H; exact H
  clear H
  have H := H1
  clear H1
  as_aux_lemma =>
   simp only [Option.some.injEq, Prod.mk.injEq] at H
   obtain ⟨rfl, rfl, rfl⟩ := H
   go_enter Try.func21, Try.ntmps21
   go_wp2_with (first | ((with_reducible refine gate_dst (N := 1) rfl ?_); refine box_event ?hg (N := 1) ?hd (cs := #[.int .i64 a0_0, .int .i64 a0_1]) (t := 23) ?hr ?_; (case hd => rfl); (case hg => rfl); (case hr => first | (go_simp; done) | (go_simp; rfl)); intro gb107 hg w4 hbox hb; have hv := hvK (w := w) hb (by repeat (first | (with_reducible first | exact HB.out | apply bA | apply bN | apply bD) | exact HB.out)); have n0_ := Am (bT hv hb); have n1_ := Am (hbox); have GW107 := kG hg hv; have GE107 := kG hg hv; clear HB; have HB := n0_; have BK107 := n1_; clear n0_ n1_ hv; clear hb hbox hg) | ((with_reducible refine gate_dst (N := 2) rfl ?_); refine box_event ?hg (N := 2) ?hd (cs := #[.int .i64 0, .int .i64 0]) (t := 23) ?hr ?_; (case hd => rfl); (case hg => rfl); (case hr => first | (go_simp; done) | (go_simp; rfl)); intro gb108 hg w5 hbox hb; have hp0 := hpA BK107.out hb (fun _ _ h_ => by (with_reducible repeat (first | refine kN ?_ _ | refine kD ?_ | refine kA ?_ _)); exact h_); have hv := hvK (w := w) hb (by repeat (first | (with_reducible first | exact HB.out | apply bA | apply bN | apply bD | refine bX ?_ (by assumption)) | exact HB.out)); have n1_ := Am (bT hv hb); have n2_ := Am (hbox); have GW108 := kG hg hv; have GE108 := kG hg hv; have hp1 := hpK BK107.out hb (fun _ _ h_ => by (with_reducible repeat (first | refine kN ?_ _ | refine kD ?_ | refine kA ?_ _)); exact h_); have NB107_108 := kX hg (hp1 BK107.out); have NB108_107 := kY hg (hp1 BK107.out); clear HB; replace BK107 := hp0 BK107; have HB := n1_; have BK108 := n2_; clear n1_ n2_ hp0 hp1 hv; clear hb hbox hg; have hnb6 := NB107_108.out; have hnc6 := NB108_107.out; have hcz7_0 := c20 BK107.out; have hcz7_1 := c21 BK107.out; have hfz7_0 := kF BK107.out 0; have hfz7_1 := kF BK107.out 1) | ((with_reducible refine gate_callee (f := 12) rfl ?_); refine goesL_ (some 5) rfl rfl Try.func12 (by kernel_rfl) rfl #[.agg #[.int .i64 a0_0, .int .i64 a0_1]] rfl (by (try simp only [List.map_toArray, List.map_cons, List.map_nil]); first | done | rfl | (simp only [List.length_drop, List.length_take]; rfl)) ?_; (with_reducible refine (impl_IsTurn.calls k a0_0 a0_1 true _ A2.out).mono ?_); rintro e w8 ⟨rfl, hb⟩; refine ⟨_, rfl, ?_⟩; have hp0 := hpA BK107.out hb (fun _ _ h_ => by (with_reducible repeat (first | refine kN ?_ _ | refine kD ?_ | refine kA ?_ _)); exact h_); have hv := hvK (w := w) hb (by repeat (first | (with_reducible first | exact HB.out | apply bA | apply bN | apply bD | refine bX ?_ (by assumption)) | exact HB.out)); have n2_ := Am (bT hv hb); clear HB; replace BK107 := hp0 BK107; replace BK108 := hp0 BK108; have HB := n2_; clear n2_ hp0 hv; (try clear hb); have hcz9_0 := c20 BK107.out; have hcz9_1 := c21 BK107.out; have hfz9_0 := kF BK107.out 0; have hfz9_1 := kF BK107.out 1; have hcz10_0 := c20 BK108.out; have hcz10_1 := c21 BK108.out; have hfz10_0 := kF BK108.out 0; have hfz10_1 := kF BK108.out 1))
   refine bodyPost_ret (results_ct rfl _ _ gb108 23 #[.int .i64 a0_0, .int .i64 a0_1] (0, 0) _ rfl (by (with_reducible repeat (first | refine kN ?_ _ | refine kD ?_ | refine kA ?_ _)); refine kP (cs := #[.int .i64 a0_0, .int .i64 0]) ?_ 1 _ rfl; (with_reducible repeat (first | refine kN ?_ _ | refine kD ?_ | refine kA ?_ _)); refine kP (cs := #[.int .i64 0, .int .i64 0]) ?_ 0 _ rfl; (with_reducible repeat (first | refine kN ?_ _ | refine kD ?_ | refine kA ?_ _)); exact BK108.out) Try.underlying23 rfl (by kernel_rfl)) rfl ?_
   exact ⟨by first | rfl | (simp [errW_none, errW_some] <;> rfl) | (simp [*, errW_none, errW_some] <;> rfl), by repeat (first | (with_reducible first | exact HB.out | apply bA | apply bN | apply bD | refine bX ?_ (by assumption)) | exact HB.out)⟩
 replace c3 := Bool.eq_false_iff.mpr c3
 subst c3
 have H1 : (some (0, 0, false)) = some (r1, r2, r3) := by rw [if_neg (show ¬ (false = true) by decide)] at H; exact H
 clear H
 have H := H1
 clear H1
 as_aux_lemma =>
  simp only [Option.some.injEq, Prod.mk.injEq] at H
  obtain ⟨rfl, rfl, rfl⟩ := H
  go_enter Try.func21, Try.ntmps21
  go_wp2_with (first | ((with_reducible refine gate_dst (N := 1) rfl ?_); refine box_event ?hg (N := 1) ?hd (cs := #[.int .i64 a0_0, .int .i64 a0_1]) (t := 23) ?hr ?_; (case hd => rfl); (case hg => rfl); (case hr => first | (go_simp; done) | (go_simp; rfl)); intro gb107 hg w11 hbox hb; have hv := hvK (w := w) hb (by repeat (first | (with_reducible first | exact HB.out | apply bA | apply bN | apply bD) | exact HB.out)); have n0_ := Am (bT hv hb); have n1_ := Am (hbox); have GW107 := kG hg hv; have GE107 := kG hg hv; clear HB; have HB := n0_; have BK107 := n1_; clear n0_ n1_ hv; clear hb hbox hg) | ((with_reducible refine gate_dst (N := 2) rfl ?_); refine box_event ?hg (N := 2) ?hd (cs := #[.int .i64 0, .int .i64 0]) (t := 23) ?hr ?_; (case hd => rfl); (case hg => rfl); (case hr => first | (go_simp; done) | (go_simp; rfl)); intro gb108 hg w12 hbox hb; have hp0 := hpA BK107.out hb (fun _ _ h_ => by (with_reducible repeat (first | refine kN ?_ _ | refine kD ?_ | refine kA ?_ _)); exact h_); have hv := hvK (w := w) hb (by repeat (first | (with_reducible first | exact HB.out | apply bA | apply bN | apply bD | refine bX ?_ (by assumption)) | exact HB.out)); have n1_ := Am (bT hv hb); have n2_ := Am (hbox); have GW108 := kG hg hv; have GE108 := kG hg hv; have hp1 := hpK BK107.out hb (fun _ _ h_ => by (with_reducible repeat (first | refine kN ?_ _ | refine kD ?_ | refine kA ?_ _)); exact h_); have NB107_108 := kX hg (hp1 BK107.out); have NB108_107 := kY hg (hp1 BK107.out); clear HB; replace BK107 := hp0 BK107; have HB := n1_; have BK108 := n2_; clear n1_ n2_ hp0 hp1 hv; clear hb hbox hg; have hnb13 := NB107_108.out; have hnc13 := NB108_107.out; have hcz14_0 := c20 BK107.out; have hcz14_1 := c21 BK107.out; have hfz14_0 := kF BK107.out 0; have hfz14_1 := kF BK107.out 1) | ((with_reducible refine gate_callee (f := 12) rfl ?_); refine goesL_ (some 5) rfl rfl Try.func12 (by kernel_rfl) rfl #[.agg #[.int .i64 a0_0, .int .i64 a0_1]] rfl (by (try simp only [List.map_toArray, List.map_cons, List.map_nil]); first | done | rfl | (simp only [List.length_drop, List.length_take]; rfl)) ?_; (with_reducible refine (impl_IsTurn.calls k a0_0 a0_1 false _ A2.out).mono ?_); rintro e w15 ⟨rfl, hb⟩; refine ⟨_, rfl, ?_⟩; have hp0 := hpA BK107.out hb (fun _ _ h_ => by (with_reducible repeat (first | refine kN ?_ _ | refine kD ?_ | refine kA ?_ _)); exact h_); have hv := hvK (w := w) hb (by repeat (first | (with_reducible first | exact HB.out | apply bA | apply bN | apply bD | refine bX ?_ (by assumption)) | exact HB.out)); have n2_ := Am (bT hv hb); clear HB; replace BK107 := hp0 BK107; replace BK108 := hp0 BK108; have HB := n2_; clear n2_ hp0 hv; (try clear hb); have hcz16_0 := c20 BK108.out; have hcz16_1 := c21 BK108.out; have hfz16_0 := kF BK108.out 0; have hfz16_1 := kF BK108.out 1))
  refine bodyPost_ret (results_ct rfl _ _ gb108 23 #[.int .i64 0, .int .i64 0] (0, 0) _ rfl (by (with_reducible repeat (first | refine kN ?_ _ | refine kD ?_ | refine kA ?_ _)); refine kP (cs := #[.int .i64 0, .int .i64 0]) ?_ 1 _ rfl; (with_reducible repeat (first | refine kN ?_ _ | refine kD ?_ | refine kA ?_ _)); refine kP (cs := #[.int .i64 0, .int .i64 0]) ?_ 0 _ rfl; (with_reducible repeat (first | refine kN ?_ _ | refine kD ?_ | refine kA ?_ _)); exact BK108.out) Try.underlying23 rfl (by kernel_rfl)) rfl ?_
  exact ⟨by first | rfl | (simp [errW_none, errW_some] <;> rfl) | (simp [*, errW_none, errW_some] <;> rfl), by repeat (first | (with_reducible first | exact HB.out | apply bA | apply bN | apply bD | refine bX ?_ (by assumption)) | exact HB.out)⟩
/-! ### impl_floorDiv: function 42 -/
def impl_floorDiv.f (a0 : Int) (a1 : Int) : Option (Int × Int) := if a1 = 0 then (none) else (if (Int.tmod a0 a1) < 0 then (some (wrap64 ((wrap64 (Int.tdiv a0 a1)) - 1), wrap64 ((Int.tmod a0 a1) + a1))) else (some (wrap64 (Int.tdiv a0 a1), Int.tmod a0 a1)))
set_option maxHeartbeats 8000000 in
set_option maxRecDepth 100000 in
theorem impl_floorDiv.calls (a0 : Int) (a1 : Int) (r1 : Int) (r2 : Int) (w : World) (h : impl_floorDiv.f a0 a1 = some (r1, r2)) :
  Calls Try.prog 42 #[.int .i64 a0, .int .i64 a1] w fun e w' => e = .returned (.tuple #[.int .i64 r1, .int .i64 r2]) ∧ Drawn0 w w' := by
 have H : (if a1 = 0 then (none) else (if (Int.tmod a0 a1) < 0 then (some (wrap64 ((wrap64 (Int.tdiv a0 a1)) - 1), wrap64 ((Int.tmod a0 a1) + a1))) else (some (wrap64 (Int.tdiv a0 a1), Int.tmod a0 a1)))) = some (r1, r2) := h
 clear h
 by_cases c3 : a1 = 0
 ·rw [if_pos c3] at H
  exact absurd H (by simp)
 rw [if_neg c3] at H
 have c3b0 : (a1 == 0) = false := beq_eq_false_iff_ne.mpr c3
 have c3b1 : (a1 != 0) = true := bne_iff_ne.mpr c3
 by_cases c4 : (Int.tmod a0 a1) < 0
 ·rw [if_pos c4] at H
  have c4b0 : decide ((Int.tmod a0 a1) < 0) = true := decide_eq_true c4
  clear c4
  as_aux_lemma =>
   simp only [Option.some.injEq, Prod.mk.injEq] at H
   obtain ⟨rfl, rfl⟩ := H
   go_enter Try.func42, Try.ntmps42
   go_wp2
   repeat (go_quiet (fail); try go_wp2)
   go_ret2
   exact ⟨by first | rfl | (simp; done) | (simp [*]; done), by repeat (first | exact Drawn0.refl _ | apply Drawn0.step)⟩
 rw [if_neg c4] at H
 have c4b0 : decide ((Int.tmod a0 a1) < 0) = false := decide_eq_false c4
 clear c4
 as_aux_lemma =>
  simp only [Option.some.injEq, Prod.mk.injEq] at H
  obtain ⟨rfl, rfl⟩ := H
  go_enter Try.func42, Try.ntmps42
  go_wp2
  repeat (go_quiet (fail); try go_wp2)
  go_ret2
  exact ⟨by first | rfl | (simp; done) | (simp [*]; done), by repeat (first | exact Drawn0.refl _ | apply Drawn0.step)⟩
/-! ### impl_part: function 35 -/
def impl_part.f (k : Nat) (a0 : Int) (a1 : Int) : Option (Int × Int) := (impl_floorDiv.f a0 a1).bind fun bt111 => ((impl_gcd.f k bt111.2 a1).bind fun t113 => (if t113 = 0 then (none) else (some (wrap64 (Int.tdiv bt111.2 t113), wrap64 (Int.tdiv a1 t113)))))
theorem impl_part.mono : ∀ a0 a1 k, LeO (impl_part.f k a0 a1) (impl_part.f (k + 1) a0 a1) := by
 intro a0 a1 k
 unfold impl_part.f
 repeat' first
   | (with_reducible exact impl_gcd.mono _ _ _)
   | (with_reducible exact LeO.refl _)
   | (with_reducible exact LeO.none _)
   | (with_reducible refine LeO.ite ?_ ?_)
   | (with_reducible refine LeO.bind ?_ (fun _ => ?_))
   | exact impl_gcd.mono _ _ _
   | exact LeO.none _
   | refine LeO.ite ?_ ?_
   | refine LeO.bind ?_ (fun _ => ?_)
def impl_part.T3 : Bool × List (List Nat × List Nat) := (true, [([], []), ([], []), ([0, 1], [0, 1]), ([], []), ([], []), ([3, 4], [3, 4]), ([2, 5], [2, 5]), ([6, 0, 1, 2, 3, 4, 5, 6], [6])])
def impl_part.B3 : List Nat := [0, 0, 3, 0, 0, 24, 63, 127]
theorem impl_part.tab3 : rtab .any (opsOf Try.f35 3) = impl_part.T3 := by kernel_rfl
theorem impl_part.bits3 : waitsOk impl_part.T3.2 impl_part.B3 = true := by kernel_rfl
set_option maxHeartbeats 8000000 in
set_option maxRecDepth 100000 in
theorem impl_part.calls (k : Nat) (a0 : Int) (a1 : Int) (r1 : Int) (r2 : Int) (w : World) (h : impl_part.f k a0 a1 = some (r1, r2)) :
  Calls Try.prog 35 #[.int .i64 a0, .int .i64 a1] w fun e w' => e = .returned (.agg #[.int .i64 r1, .int .i64 r2]) ∧ Below w.heap.size w w' := by
 have hu23 := Try.underlying23
 have HB := Am (Below.refl w.heap.size w)
 have H : ((impl_floorDiv.f a0 a1).bind fun bt111 => ((impl_gcd.f k bt111.2 a1).bind fun t113 => (if t113 = 0 then (none) else (some (wrap64 (Int.tdiv bt111.2 t113), wrap64 (Int.tdiv a1 t113)))))) = some (r1, r2) := h
 clear h
 replace H := Option.bind_eq_some_iff.mp H
 obtain ⟨⟨t111, t112⟩, A30, H⟩ := H
 try dsimp only at H
 have A3 := Am A30
 clear A30
 replace H := Option.bind_eq_some_iff.mp H
 obtain ⟨t113, A40, H⟩ := H
 try dsimp only at H
 have A4 := Am A40
 clear A40
 by_cases c5 : t113 = 0
 ·rw [if_pos c5] at H
  exact absurd H (by simp)
 rw [if_neg c5] at H
 have c5b0 : (t113 == 0) = false := beq_eq_false_iff_ne.mpr c5
 have c5b1 : (t113 != 0) = true := bne_iff_ne.mpr c5
 as_aux_lemma =>
  simp only [Option.some.injEq, Prod.mk.injEq] at H
  obtain ⟨rfl, rfl⟩ := H
  go_enter Try.func35, Try.ntmps35
  try go_wp2_with (first | ((with_reducible refine gate_dst (N := 4) rfl ?_); refine box_event ?hg (N := 4) ?hd (cs := #[.int .i64 0, .int .i64 0]) (t := 23) ?hr ?_; (case hd => rfl); (case hg => rfl); (case hr => first | (go_simp; done) | (go_simp; rfl)); intro gb110 hg w6 hbox hb; have hv := hvK (w := w) hb (by repeat (first | (with_reducible first | exact HB.out | apply bA | apply bN | apply bD) | exact HB.out)); have n0_ := Am (bT hv hb); have n1_ := Am (hbox); have GW110 := kG hg hv; have GE110 := kG hg hv; clear HB; have HB := n0_; have BK110 := n1_; clear n0_ n1_ hv; clear hb hbox hg) | ((with_reducible refine gate_callee (f := 42) rfl ?_); refine goesL_ (some 11) rfl rfl Try.func42 (by kernel_rfl) rfl #[.int .i64 a0, .int .i64 a1] rfl (by (try simp only [List.map_toArray, List.map_cons, List.map_nil]); first | done | rfl | (simp only [List.length_drop, List.length_take]; rfl)) ?_; (with_reducible refine (impl_floorDiv.calls a0 a1 t111 t112 _ A3.out).mono ?_); rintro e w' ⟨rfl, ⟨nd, rfl⟩⟩; refine ⟨_, rfl, ?_⟩; (try (rw [drewN_self w6]; generalize hq_ : World.drewN w6 _ = w6; have n0_ : Aside0 (w6.heap[gb110]? = some (.cells #[.int .i64 0, .int .i64 0] 23 (0, 0))) := ⟨by rw [← hq_]; exact (by (with_reducible repeat (first | refine kN ?_ _ | refine kD ?_ | refine kA ?_ _)); exact BK110.out)⟩; have n1_ : Aside0 (Below w.heap.size w w6) := ⟨by rw [← hq_]; exact (by repeat (first | (with_reducible first | exact HB.out | apply bA | apply bN | apply bD | refine bX ?_ (by assumption)) | exact HB.out))⟩; clear BK110 HB hq_; have BK110 := n0_; have HB := n1_; clear n0_ n1_))) | ((with_reducible refine gate_callee (f := 31) rfl ?_); refine goesL_ (some 16) rfl rfl Try.func31 (by kernel_rfl) rfl #[.int .i64 t112, .int .i64 a1] rfl (by (try simp only [List.map_toArray, List.map_cons, List.map_nil]); first | done | rfl | (simp only [List.length_drop, List.length_take]; rfl)) ?_; (with_reducible refine (impl_gcd.calls k t112 a1 t113 _ A4.out).mono ?_); rintro e w7 ⟨rfl, hb⟩; refine ⟨_, rfl, ?_⟩; have hp0 := hpA BK110.out hb (fun _ _ h_ => by (with_reducible repeat (first | refine kN ?_ _ | refine kD ?_ | refine kA ?_ _)); exact h_); have hv := hvK (w := w) hb (by repeat (first | (with_reducible first | exact HB.out | apply bA | apply bN | apply bD | refine bX ?_ (by assumption)) | exact HB.out)); have n1_ := Am (bT hv hb); clear HB; replace BK110 := hp0 BK110; have HB := n1_; clear n1_ hp0 hv; (try clear hb)))
  have n0_ := Am (kD BK110.out)
  have n1_ := Am (bD HB.out)
  clear BK110 HB
  have BK110 := n0_; have HB := n1_
  clear n0_ n1_
  refine start_ (n := 8) (S := fun w' => True) (ds := []) (pT 8 0) (by kernel_rfl) rfl rfl trivial (fun hHeld => ?_); refine with_tabW impl_part.tab3 impl_part.bits3 (fun HT_ HW_ => ?_)
  generalize w7.drew = w8 at BK110 HB hHeld ⊢
  iterate 7
   refine pI (v := ?_) (a' := ?_) rfl (any_of HT_.out (by kernel_rfl)) (fun _ _ _ h => h) (Or.inl ⟨by rfl, ?_⟩) ?_ ?_
   rotate_left
   ·intro w'
    go_simp
    with_reducible rfl
   rotate_left
   ·show Act.put _ (some _) _ = _
    simp only [Act.put, List.setIfInBounds_toArray, List.set_cons_zero, List.set_cons_succ, i64_w, i32_w]
    rfl
  refine one_ (i := 7) (N := none) (pT 8 8) rfl rfl (one_of HT_.out (by kernel_rfl)) (by decide) (fun K hK => ?_)
  have hs9 : w8.cell? ⟨gb110, 0, none⟩ = some (.int .i64 0) := c20 BK110.out
  have hfs9 := kF BK110.out 0
  have hs10 : w8.cell? ⟨gb110, 1, none⟩ = some (.int .i64 0) := c21 BK110.out
  have hfs10 := kF BK110.out 1
  refine skip_ (w1 := ?_) (by rfl) rfl ?_ ?_
  rotate_left
  ·go_simp
   rfl
  refine hK.out _ _ trivial (fun hHeld => ?_)
  clear hK K
  refine done_ (done_of HT_.out (by kernel_rfl)) ?_
  try go_wp2
  refine bodyPost_ret (results_cell_row rfl _ _ gb110 23 #[.int .i64 (wrap64 (Int.tdiv t112 t113)), .int .i64 (wrap64 (Int.tdiv a1 t113))] (0, 0) _ rfl (by (with_reducible repeat (first | refine kN ?_ _ | refine kD ?_ | refine kA ?_ _)); refine kP (cs := #[.int .i64 (wrap64 (Int.tdiv t112 t113)), .int .i64 0]) ?_ 1 _ rfl; (with_reducible repeat (first | refine kN ?_ _ | refine kD ?_ | refine kA ?_ _)); refine kP (cs := #[.int .i64 0, .int .i64 0]) ?_ 0 _ rfl; (with_reducible repeat (first | refine kN ?_ _ | refine kD ?_ | refine kA ?_ _)); exact BK110.out) Try.underlying23 rfl (by kernel_rfl)) rfl ?_
  exact ⟨by first | rfl | (simp [errW_none, errW_some] <;> rfl) | (simp [*, errW_none, errW_some] <;> rfl), by repeat (first | (with_reducible first | exact HB.out | apply bA | apply bN | apply bD | refine bX ?_ (by assumption)) | exact HB.out)⟩
/-! ### impl_Turn_plus: function 22 -/
def impl_Turn_plus.f (k : Nat) (a0_0 : Int) (a0_1 : Int) (a1_0 : Int) (a1_1 : Int) : Option (Int × Int) := (impl_part.f k (wrap64 ((wrap64 (a0_0 * a1_1)) + (wrap64 (a1_0 * a0_1)))) (wrap64 (a0_1 * a1_1))).bind fun bt117 => (some (bt117.1, bt117.2))
theorem impl_Turn_plus.mono : ∀ a0 a1 a2 a3 k, LeO (impl_Turn_plus.f k a0 a1 a2 a3) (impl_Turn_plus.f (k + 1) a0 a1 a2 a3) := by
 intro a0 a1 a2 a3 k
 unfold impl_Turn_plus.f
 repeat' first
   | (with_reducible exact impl_part.mono _ _ _)
   | (with_reducible exact LeO.refl _)
   | (with_reducible exact LeO.none _)
   | (with_reducible refine LeO.ite ?_ ?_)
   | (with_reducible refine LeO.bind ?_ (fun _ => ?_))
   | exact impl_part.mono _ _ _
   | exact LeO.none _
   | refine LeO.ite ?_ ?_
   | refine LeO.bind ?_ (fun _ => ?_)
set_option maxHeartbeats 8000000 in
set_option maxRecDepth 100000 in
theorem impl_Turn_plus.calls (k : Nat) (a0_0 : Int) (a0_1 : Int) (a1_0 : Int) (a1_1 : Int) (r1 : Int) (r2 : Int) (w : World) (h : impl_Turn_plus.f k a0_0 a0_1 a1_0 a1_1 = some (r1, r2)) :
  Calls Try.prog 22 #[.agg #[.int .i64 a0_0, .int .i64 a0_1], .agg #[.int .i64 a1_0, .int .i64 a1_1]] w fun e w' => e = .returned (.agg #[.int .i64 r1, .int .i64 r2]) ∧ Below w.heap.size w w' := by
 have hu23 := Try.underlying23
 have HB := Am (Below.refl w.heap.size w)
 have H : ((impl_part.f k (wrap64 ((wrap64 (a0_0 * a1_1)) + (wrap64 (a1_0 * a0_1)))) (wrap64 (a0_1 * a1_1))).bind fun bt117 => (some (bt117.1, bt117.2))) = some (r1, r2) := h
 clear h
 replace H := Option.bind_eq_some_iff.mp H
 obtain ⟨⟨t117, t118⟩, A30, H⟩ := H
 try dsimp only at H
 have A3 := Am A30
 clear A30
 as_aux_lemma =>
  simp only [Option.some.injEq, Prod.mk.injEq] at H
  obtain ⟨rfl, rfl⟩ := H
  go_enter Try.func22, Try.ntmps22
  go_wp2_with (first | ((with_reducible refine gate_dst (N := 2) rfl ?_); refine box_event ?hg (N := 2) ?hd (cs := #[.int .i64 a0_0, .int .i64 a0_1]) (t := 23) ?hr ?_; (case hd => rfl); (case hg => rfl); (case hr => first | (go_simp; done) | (go_simp; rfl)); intro gb114 hg w4 hbox hb; have hv := hvK (w := w) hb (by repeat (first | (with_reducible first | exact HB.out | apply bA | apply bN | apply bD) | exact HB.out)); have n0_ := Am (bT hv hb); have n1_ := Am (hbox); have GW114 := kG hg hv; have GE114 := kG hg hv; clear HB; have HB := n0_; have BK114 := n1_; clear n0_ n1_ hv; clear hb hbox hg) | ((with_reducible refine gate_dst (N := 3) rfl ?_); refine box_event ?hg (N := 3) ?hd (cs := #[.int .i64 a1_0, .int .i64 a1_1]) (t := 23) ?hr ?_; (case hd => rfl); (case hg => rfl); (case hr => first | (go_simp; done) | (go_simp; rfl)); intro gb115 hg w5 hbox hb; have hp0 := hpA BK114.out hb (fun _ _ h_ => by (with_reducible repeat (first | refine kN ?_ _ | refine kD ?_ | refine kA ?_ _)); exact h_); have hv := hvK (w := w) hb (by repeat (first | (with_reducible first | exact HB.out | apply bA | apply bN | apply bD | refine bX ?_ (by assumption)) | exact HB.out)); have n1_ := Am (bT hv hb); have n2_ := Am (hbox); have GW115 := kG hg hv; have GE115 := kG hg hv; have hp1 := hpK BK114.out hb (fun _ _ h_ => by (with_reducible repeat (first | refine kN ?_ _ | refine kD ?_ | refine kA ?_ _)); exact h_); have NB114_115 := kX hg (hp1 BK114.out); have NB115_114 := kY hg (hp1 BK114.out); clear HB; replace BK114 := hp0 BK114; have HB := n1_; have BK115 := n2_; clear n1_ n2_ hp0 hp1 hv; clear hb hbox hg) | ((with_reducible refine gate_dst (N := 4) rfl ?_); refine box_event ?hg (N := 4) ?hd (cs := #[.int .i64 0, .int .i64 0]) (t := 23) ?hr ?_; (case hd => rfl); (case hg => rfl); (case hr => first | (go_simp; done) | (go_simp; rfl)); intro gb116 hg w6 hbox hb; have hp0 := hpA BK114.out hb (fun _ _ h_ => by (with_reducible repeat (first | refine kN ?_ _ | refine kD ?_ | refine kA ?_ _)); exact h_); have hv := hvK (w := w) hb (by repeat (first | (with_reducible first | exact HB.out | apply bA | apply bN | apply bD | refine bX ?_ (by assumption)) | exact HB.out)); have n2_ := Am (bT hv hb); have n3_ := Am (hbox); have GW116 := kG hg hv; have GE116 := kG hg hv; have hp1 := hpK BK114.out hb (fun _ _ h_ => by (with_reducible repeat (first | refine kN ?_ _ | refine kD ?_ | refine kA ?_ _)); exact h_); have NB114_116 := kX hg (hp1 BK114.out); have NB116_114 := kY hg (hp1 BK114.out); have NB115_116 := kX hg (hp1 BK115.out); have NB116_115 := kY hg (hp1 BK115.out); clear HB; replace BK114 := hp0 BK114; replace BK115 := hp0 BK115; have HB := n2_; have BK116 := n3_; clear n2_ n3_ hp0 hp1 hv; clear hb hbox hg; have hnb7 := NB114_115.out; have hnc7 := NB115_114.out; have hnb8 := NB114_116.out; have hnc8 := NB116_114.out; have hcz9_0 := c20 BK114.out; have hcz9_1 := c21 BK114.out; have hfz9_0 := kF BK114.out 0; have hfz9_1 := kF BK114.out 1; have hnb10 := NB115_116.out; have hnc10 := NB116_115.out; have hcz11_0 := c20 BK115.out; have hcz11_1 := c21 BK115.out; have hfz11_0 := kF BK115.out 0; have hfz11_1 := kF BK115.out 1) | ((with_reducible refine gate_callee (f := 35) rfl ?_); refine goesL_ (some 21) rfl rfl Try.func35 (by kernel_rfl) rfl #[.int .i64 (wrap64 ((wrap64 (a0_0 * a1_1)) + (wrap64 (a1_0 * a0_1)))), .int .i64 (wrap64 (a0_1 * a1_1))] rfl (by (try simp only [List.map_toArray, List.map_cons, List.map_nil]); first | done | rfl | (simp only [List.length_drop, List.length_take]; rfl)) ?_; (with_reducible refine (impl_part.calls k (wrap64 ((wrap64 (a0_0 * a1_1)) + (wrap64 (a1_0 * a0_1)))) (wrap64 (a0_1 * a1_1)) t117 t118 _ A3.out).mono ?_); rintro e w12 ⟨rfl, hb⟩; refine ⟨_, rfl, ?_⟩; have hp0 := hpA BK114.out hb (fun _ _ h_ => by (with_reducible repeat (first | refine kN ?_ _ | refine kD ?_ | refine kA ?_ _)); exact h_); have hv := hvK (w := w) hb (by repeat (first | (with_reducible first | exact HB.out | apply bA | apply bN | apply bD | refine bX ?_ (by assumption)) | exact HB.out)); have n3_ := Am (bT hv hb); clear HB; replace BK114 := hp0 BK114; replace BK115 := hp0 BK115; replace BK116 := hp0 BK116; have HB := n3_; clear n3_ hp0 hv; (try clear hb); have hcz13_0 := c20 BK116.out; have hcz13_1 := c21 BK116.out; have hfz13_0 := kF BK116.out 0; have hfz13_1 := kF BK116.out 1))
  refine bodyPost_ret (results_cell_row rfl _ _ gb116 23 #[.int .i64 t117, .int .i64 t118] (0, 0) _ rfl (by (with_reducible repeat (first | refine kN ?_ _ | refine kD ?_ | refine kA ?_ _)); refine kP (cs := #[.int .i64 t117, .int .i64 0]) ?_ 1 _ rfl; (with_reducible repeat (first | refine kN ?_ _ | refine kD ?_ | refine kA ?_ _)); refine kP (cs := #[.int .i64 0, .int .i64 0]) ?_ 0 _ rfl; (with_reducible repeat (first | refine kN ?_ _ | refine kD ?_ | refine kA ?_ _)); exact BK116.out) Try.underlying23 rfl (by kernel_rfl)) rfl ?_
  exact ⟨by first | rfl | (simp [errW_none, errW_some] <;> rfl) | (simp [*, errW_none, errW_some] <;> rfl), by repeat (first | (with_reducible first | exact HB.out | apply bA | apply bN | apply bD | refine bX ?_ (by assumption)) | exact HB.out)⟩
/-! ### impl_AddTurns: function 4 -/
def impl_AddTurns.f (k : Nat) (a0_0 : Int) (a0_1 : Int) (a1_0 : Int) (a1_1 : Int) : Option (Int × Int × Bool) := (impl_areTurns.f k (([(⟨a0_0, a0_1⟩ : S23), (⟨a1_0, a1_1⟩ : S23)] : List (S23)))).bind fun t125 => (if t125 = true then ((impl_Turn_plus.f k a0_0 a0_1 a1_0 a1_1).bind fun bt126 => ((impl_ifTurn.f k bt126.1 bt126.2).bind fun bt128 => (some (bt128.1, bt128.2.1, bt128.2.2)))) else (some (0, 0, false)))
theorem impl_AddTurns.mono : ∀ a0 a1 a2 a3 k, LeO (impl_AddTurns.f k a0 a1 a2 a3) (impl_AddTurns.f (k + 1) a0 a1 a2 a3) := by
 intro a0 a1 a2 a3 k
 unfold impl_AddTurns.f
 repeat' first
   | (with_reducible exact impl_Turn_plus.mono _ _ _ _ _)
   | (with_reducible exact impl_areTurns.mono _ _)
   | (with_reducible exact impl_ifTurn.mono _ _ _)
   | (with_reducible exact LeO.refl _)
   | (with_reducible exact LeO.none _)
   | (with_reducible refine LeO.ite ?_ ?_)
   | (with_reducible refine LeO.bind ?_ (fun _ => ?_))
   | exact impl_Turn_plus.mono _ _ _ _ _
   | exact impl_areTurns.mono _ _
   | exact impl_ifTurn.mono _ _ _
   | exact LeO.none _
   | refine LeO.ite ?_ ?_
   | refine LeO.bind ?_ (fun _ => ?_)
set_option maxHeartbeats 8000000 in
set_option maxRecDepth 100000 in
theorem impl_AddTurns.calls (k : Nat) (a0_0 : Int) (a0_1 : Int) (a1_0 : Int) (a1_1 : Int) (r1 : Int) (r2 : Int) (r3 : Bool) (w : World) (h : impl_AddTurns.f k a0_0 a0_1 a1_0 a1_1 = some (r1, r2, r3)) :
  Calls Try.prog 4 #[.agg #[.int .i64 a0_0, .int .i64 a0_1], .agg #[.int .i64 a1_0, .int .i64 a1_1]] w fun e w' => e = .returned (.tuple #[.agg #[.int .i64 r1, .int .i64 r2], .bool r3]) ∧ Below w.heap.size w w' := by
 have hu23 := Try.underlying23
 have HB := Am (Below.refl w.heap.size w)
 have H : ((impl_areTurns.f k (([(⟨a0_0, a0_1⟩ : S23), (⟨a1_0, a1_1⟩ : S23)] : List (S23)))).bind fun t125 => (if t125 = true then ((impl_Turn_plus.f k a0_0 a0_1 a1_0 a1_1).bind fun bt126 => ((impl_ifTurn.f k bt126.1 bt126.2).bind fun bt128 => (some (bt128.1, bt128.2.1, bt128.2.2)))) else (some (0, 0, false)))) = some (r1, r2, r3) := h
 clear h
 obtain ⟨y122, hy122⟩ : ∃ y_ : List (S23), y_ = (([(⟨a0_0, a0_1⟩ : S23), (⟨a1_0, a1_1⟩ : S23)] : List (S23))) := ⟨_, rfl⟩
 replace H : ((impl_areTurns.f k y122).bind fun t125 => (if t125 = true then ((impl_Turn_plus.f k a0_0 a0_1 a1_0 a1_1).bind fun bt126 => ((impl_ifTurn.f k bt126.1 bt126.2).bind fun bt128 => (some (bt128.1, bt128.2.1, bt128.2.2)))) else (some (0, 0, false)))) = some (r1, r2, r3) := by first | (rw [hy122]; with_reducible exact H) | (have H2_ := (Option.bind_some _ _).symm.trans H; rw [hy122]; with_reducible exact H2_) | (have H2_ := (Option.bind_some _ _).symm.trans H; with_reducible exact H2_) | with_reducible exact H | (rw [hy122]; exact H) | exact H
 have Ny122 := Am hy122
 clear hy122
 replace H := Option.bind_eq_some_iff.mp H
 obtain ⟨t125, A30, H⟩ := H
 try dsimp only at H
 have A3 := Am A30
 clear A30
 by_cases c4 : t125 = true
 ·subst c4
  have H1 : ((impl_Turn_plus.f k a0_0 a0_1 a1_0 a1_1).bind fun bt126 => ((impl_ifTurn.f k bt126.1 bt126.2).bind fun bt128 => (some (bt128.1, bt128.2.1, bt128.2.2)))) = some (r1, r2, r3) := by rw [if_pos rfl] at H; exact H
  clear H
  have H := H1
  clear H1
  replace H := Option.bind_eq_some_iff.mp H
  obtain ⟨⟨t126, t127⟩, A50, H⟩ := H
  try dsimp only at H
  have A5 := Am A50
  clear A50
  replace H := Option.bind_eq_some_iff.mp H
  obtain ⟨⟨t128, t129, t130⟩, A60, H⟩ := H
  try dsimp only at H
  have A6 := Am A60
  clear A60
  as_aux_lemma =>
   simp only [Option.some.injEq, Prod.mk.injEq] at H
   obtain ⟨rfl, rfl, rfl⟩ := H
   go_enter Try.func4, Try.ntmps4
   go_wp2_with (first | ((with_reducible refine gate_dst (N := 2) rfl ?_); refine box_event ?hg (N := 2) ?hd (cs := #[.int .i64 a0_0, .int .i64 a0_1]) (t := 23) ?hr ?_; (case hd => rfl); (case hg => rfl); (case hr => first | (go_simp; done) | (go_simp; rfl)); intro gb119 hg w7 hbox hb; have hv := hvK (w := w) hb (by repeat (first | (with_reducible first | exact HB.out | apply bA | apply bN | apply bD) | exact HB.out)); have n0_ := Am (bT hv hb); have n1_ := Am (hbox); have GW119 := kG hg hv; have GE119 := kG hg hv; clear HB; have HB := n0_; have BK119 := n1_; clear n0_ n1_ hv; clear hb hbox hg) | ((with_reducible refine gate_dst (N := 3) rfl ?_); refine box_event ?hg (N := 3) ?hd (cs := #[.int .i64 a1_0, .int .i64 a1_1]) (t := 23) ?hr ?_; (case hd => rfl); (case hg => rfl); (case hr => first | (go_simp; done) | (go_simp; rfl)); intro gb120 hg w8 hbox hb; have hp0 := hpA BK119.out hb (fun _ _ h_ => by (with_reducible repeat (first | refine kN ?_ _ | refine kD ?_ | refine kA ?_ _)); exact h_); have hv := hvK (w := w) hb (by repeat (first | (with_reducible first | exact HB.out | apply bA | apply bN | apply bD | refine bX ?_ (by assumption)) | exact HB.out)); have n1_ := Am (bT hv hb); have n2_ := Am (hbox); have GW120 := kG hg hv; have GE120 := kG hg hv; have hp1 := hpK BK119.out hb (fun _ _ h_ => by (with_reducible repeat (first | refine kN ?_ _ | refine kD ?_ | refine kA ?_ _)); exact h_); have NB119_120 := kX hg (hp1 BK119.out); have NB120_119 := kY hg (hp1 BK119.out); clear HB; replace BK119 := hp0 BK119; have HB := n1_; have BK120 := n2_; clear n1_ n2_ hp0 hp1 hv; clear hb hbox hg) | ((with_reducible refine gate_dst (N := 4) rfl ?_); refine box_event ?hg (N := 4) ?hd (cs := #[.int .i64 0, .int .i64 0]) (t := 23) ?hr ?_; (case hd => rfl); (case hg => rfl); (case hr => first | (go_simp; done) | (go_simp; rfl)); intro gb121 hg w9 hbox hb; have hp0 := hpA BK119.out hb (fun _ _ h_ => by (with_reducible repeat (first | refine kN ?_ _ | refine kD ?_ | refine kA ?_ _)); exact h_); have hv := hvK (w := w) hb (by repeat (first | (with_reducible first | exact HB.out | apply bA | apply bN | apply bD | refine bX ?_ (by assumption)) | exact HB.out)); have n2_ := Am (bT hv hb); have n3_ := Am (hbox); have GW121 := kG hg hv; have GE121 := kG hg hv; have hp1 := hpK BK119.out hb (fun _ _ h_ => by (with_reducible repeat (first | refine kN ?_ _ | refine kD ?_ | refine kA ?_ _)); exact h_); have NB119_121 := kX hg (hp1 BK119.out); have NB121_119 := kY hg (hp1 BK119.out); have NB120_121 := kX hg (hp1 BK120.out); have NB121_120 := kY hg (hp1 BK120.out); clear HB; replace BK119 := hp0 BK119; replace BK120 := hp0 BK120; have HB := n2_; have BK121 := n3_; clear n2_ n3_ hp0 hp1 hv; clear hb hbox hg; have hnb10 := NB119_120.out; have hnc10 := NB120_119.out; have hnb11 := NB119_121.out; have hnc11 := NB121_119.out; have hcz12_0 := c20 BK119.out; have hcz12_1 := c21 BK119.out; have hfz12_0 := kF BK119.out 0; have hfz12_1 := kF BK119.out 1; have hnb13 := NB120_121.out; have hnc13 := NB121_120.out; have hcz14_0 := c20 BK120.out; have hcz14_1 := c21 BK120.out; have hfz14_0 := kF BK120.out 0; have hfz14_1 := kF BK120.out 1) | ((with_reducible refine gate_dst (N := 8) rfl ?_); refine Kd.R_lit k23 _ 23 ?hg (N := 8) ?hd (xs := ([(⟨a0_0, a0_1⟩ : S23), (⟨a1_0, a1_1⟩ : S23)] : List (S23))) (inner := [.int .i64 a0_0, .int .i64 a0_1, .int .i64 a1_0, .int .i64 a1_1]) (ok := fun _ => True) (okp := fun _ => True) ?hr ?hp (fun _ hk => hk) trivial (Below.refl _ _) (Nat.le_refl _) (by simp) ?_; (case hd => rfl); (case hg => rfl); (case hr => first | (go_simp; done) | (go_simp; rfl)); (case hp => exact (Reps.c2 (show Kd.M k23 _ _ _ (⟨a0_0, a0_1⟩ : S23) [.int .i64 a0_0, .int .i64 a0_1] from (k23_mkM _ _ _ (⟨a0_0, a0_1⟩ : S23) )) (Reps.c2 (show Kd.M k23 _ _ _ (⟨a1_0, a1_1⟩ : S23) [.int .i64 a1_0, .int .i64 a1_1] from (k23_mkM _ _ _ (⟨a1_0, a1_1⟩ : S23) )) (Reps.none _ _)))); intro v123 w15 ho16 hb hg_ hnew_; clear hg_ hnew_; (first | rw [← Ny122.out] at ho16 | (simp only [Int.reduceToNat] at ho16; rw [← Ny122.out] at ho16)); have n0_ := Am (Kd.R_lower (Kd.R_newB (Kd.R_newB (Kd.R_newB ho16 (g := gb119) (o := .cells #[.int .i64 a0_0, .int .i64 a0_1] 23 (0, 0)) (by (with_reducible repeat (first | refine kN ?_ _ | refine kD ?_ | refine kA ?_ _)); exact BK119.out)) (g := gb120) (o := .cells #[.int .i64 a1_0, .int .i64 a1_1] 23 (0, 0)) (by (with_reducible repeat (first | refine kN ?_ _ | refine kD ?_ | refine kA ?_ _)); exact BK120.out)) (g := gb121) (o := .cells #[.int .i64 0, .int .i64 0] 23 (0, 0)) (by (with_reducible repeat (first | refine kN ?_ _ | refine kD ?_ | refine kA ?_ _)); exact BK121.out)) (bZ (by repeat (first | (with_reducible first | exact HB.out | apply bA | apply bN | apply bD | refine bX ?_ (by assumption)) | exact HB.out)))); have hp0 := hpA BK119.out hb (fun _ _ h_ => by (with_reducible repeat (first | refine kN ?_ _ | refine kD ?_ | refine kA ?_ _)); exact h_); have hv := hvK (w := w) hb (by repeat (first | (with_reducible first | exact HB.out | apply bA | apply bN | apply bD | refine bX ?_ (by assumption)) | exact HB.out)); have n4_ := Am (bT hv hb); clear HB; have HO124 := n0_; replace BK119 := hp0 BK119; replace BK120 := hp0 BK120; replace BK121 := hp0 BK121; have HB := n4_; clear n0_ n4_ hp0 hv; clear hb ho16; obtain ⟨Ao17, co17, eo17⟩ := Kd.R_slice HO124.out; subst eo17) | ((with_reducible refine gate_callee (f := 20) rfl ?_); refine goesL_ (some 9) rfl rfl Try.func20 (by kernel_rfl) rfl #[.slice Ao17 y122.length co17] rfl (by (try simp only [List.map_toArray, List.map_cons, List.map_nil]); first | done | rfl | (simp only [List.length_drop, List.length_take]; rfl)) ?_; (with_reducible refine (impl_areTurns.calls k _ _ y122 true _ ?side1 ?side2 A3.out).mono ?_); (case side1 => repeat (first | exact (Kd.R_reads' HO124.out).2.2 | (with_reducible refine Kd.C_alloc ?_ _) | (with_reducible refine Kd.C_drewN ?_ _) | (with_reducible refine Kd.C_drew ?_))); (case side2 => exact (Kd.R_reads' HO124.out).2.1); rintro e w18 ⟨rfl, hb⟩; refine ⟨_, rfl, ?_⟩; have n0_ := Am (Kd.R_below (by (with_reducible repeat (first | apply Kd.R_alloc | apply Kd.R_drewN | apply Kd.R_drew)); exact HO124.out) hb); have hp0 := hpA BK119.out hb (fun _ _ h_ => by (with_reducible repeat (first | refine kN ?_ _ | refine kD ?_ | refine kA ?_ _)); exact h_); have hv := hvK (w := w) hb (by repeat (first | (with_reducible first | exact HB.out | apply bA | apply bN | apply bD | refine bX ?_ (by assumption)) | exact HB.out)); have n4_ := Am (bT hv hb); clear HO124; clear HB; have HO124 := n0_; replace BK119 := hp0 BK119; replace BK120 := hp0 BK120; replace BK121 := hp0 BK121; have HB := n4_; clear n0_ n4_ hp0 hv; (try clear hb); have hcz19_0 := c20 BK119.out; have hcz19_1 := c21 BK119.out; have hfz19_0 := kF BK119.out 0; have hfz19_1 := kF BK119.out 1; have hcz20_0 := c20 BK120.out; have hcz20_1 := c21 BK120.out; have hfz20_0 := kF BK120.out 0; have hfz20_1 := kF BK120.out 1) | ((with_reducible refine gate_callee (f := 22) rfl ?_); refine goesL_ (some 14) rfl rfl Try.func22 (by kernel_rfl) rfl #[.agg #[.int .i64 a0_0, .int .i64 a0_1], .agg #[.int .i64 a1_0, .int .i64 a1_1]] rfl (by (try simp only [List.map_toArray, List.map_cons, List.map_nil]); first | done | rfl | (simp only [List.length_drop, List.length_take]; rfl)) ?_; (with_reducible refine (impl_Turn_plus.calls k a0_0 a0_1 a1_0 a1_1 t126 t127 _ A5.out).mono ?_); rintro e w21 ⟨rfl, hb⟩; refine ⟨_, rfl, ?_⟩; have n0_ := Am (Kd.R_below (by (with_reducible repeat (first | apply Kd.R_alloc | apply Kd.R_drewN | apply Kd.R_drew)); exact HO124.out) hb); have hp0 := hpA BK119.out hb (fun _ _ h_ => by (with_reducible repeat (first | refine kN ?_ _ | refine kD ?_ | refine kA ?_ _)); exact h_); have hv := hvK (w := w) hb (by repeat (first | (with_reducible first | exact HB.out | apply bA | apply bN | apply bD | refine bX ?_ (by assumption)) | exact HB.out)); have n4_ := Am (bT hv hb); clear HO124; clear HB; have HO124 := n0_; replace BK119 := hp0 BK119; replace BK120 := hp0 BK120; replace BK121 := hp0 BK121; have HB := n4_; clear n0_ n4_ hp0 hv; (try clear hb)) | ((with_reducible refine gate_callee (f := 21) rfl ?_); refine goesL_ (some 15) rfl rfl Try.func21 (by kernel_rfl) rfl #[.agg #[.int .i64 t126, .int .i64 t127]] rfl (by (try simp only [List.map_toArray, List.map_cons, List.map_nil]); first | done | rfl | (simp only [List.length_drop, List.length_take]; rfl)) ?_; (with_reducible refine (impl_ifTurn.calls k t126 t127 t128 t129 t130 _ A6.out).mono ?_); rintro e w22 ⟨rfl, hb⟩; refine ⟨_, rfl, ?_⟩; have n0_ := Am (Kd.R_below (by (with_reducible repeat (first | apply Kd.R_alloc | apply Kd.R_drewN | apply Kd.R_drew)); exact HO124.out) hb); have hp0 := hpA BK119.out hb (fun _ _ h_ => by (with_reducible repeat (first | refine kN ?_ _ | refine kD ?_ | refine kA ?_ _)); exact h_); have hv := hvK (w := w) hb (by repeat (first | (with_reducible first | exact HB.out | apply bA | apply bN | apply bD | refine bX ?_ (by assumption)) | exact HB.out)); have n4_ := Am (bT hv hb); clear HO124; clear HB; have HO124 := n0_; replace BK119 := hp0 BK119; replace BK120 := hp0 BK120; replace BK121 := hp0 BK121; have HB := n4_; clear n0_ n4_ hp0 hv; (try clear hb); have hcz23_0 := c20 BK121.out; have hcz23_1 := c21 BK121.out; have hfz23_0 := kF BK121.out 0; have hfz23_1 := kF BK121.out 1))
   refine bodyPost_ret (results_ct rfl _ _ gb121 23 #[.int .i64 t128, .int .i64 t129] (0, 0) _ rfl (by (with_reducible repeat (first | refine kN ?_ _ | refine kD ?_ | refine kA ?_ _)); refine kP (cs := #[.int .i64 t128, .int .i64 0]) ?_ 1 _ rfl; (with_reducible repeat (first | refine kN ?_ _ | refine kD ?_ | refine kA ?_ _)); refine kP (cs := #[.int .i64 0, .int .i64 0]) ?_ 0 _ rfl; (with_reducible repeat (first | refine kN ?_ _ | refine kD ?_ | refine kA ?_ _)); exact BK121.out) Try.underlying23 rfl (by kernel_rfl)) rfl ?_
   exact ⟨by first | rfl | (simp [errW_none, errW_some] <;> rfl) | (simp [*, errW_none, errW_some] <;> rfl), by repeat (first | (with_reducible first | exact HB.out | apply bA | apply bN | apply bD | refine bX ?_ (by assumption)) | exact HB.out)⟩
 replace c4 := Bool.eq_false_iff.mpr c4
 subst c4
 have H1 : (some (0, 0, false)) = some (r1, r2, r3) := by rw [if_neg (show ¬ (false = true) by decide)] at H; exact H
 clear H
 have H := H1
 clear H1
 as_aux_lemma =>
  simp only [Option.some.injEq, Prod.mk.injEq] at H
  obtain ⟨rfl, rfl, rfl⟩ := H
  go_enter Try.func4, Try.ntmps4
  go_wp2_with (first | ((with_reducible refine gate_dst (N := 2) rfl ?_); refine box_event ?hg (N := 2) ?hd (cs := #[.int .i64 a0_0, .int .i64 a0_1]) (t := 23) ?hr ?_; (case hd => rfl); (case hg => rfl); (case hr => first | (go_simp; done) | (go_simp; rfl)); intro gb119 hg w24 hbox hb; have hv := hvK (w := w) hb (by repeat (first | (with_reducible first | exact HB.out | apply bA | apply bN | apply bD) | exact HB.out)); have n0_ := Am (bT hv hb); have n1_ := Am (hbox); have GW119 := kG hg hv; have GE119 := kG hg hv; clear HB; have HB := n0_; have BK119 := n1_; clear n0_ n1_ hv; clear hb hbox hg) | ((with_reducible refine gate_dst (N := 3) rfl ?_); refine box_event ?hg (N := 3) ?hd (cs := #[.int .i64 a1_0, .int .i64 a1_1]) (t := 23) ?hr ?_; (case hd => rfl); (case hg => rfl); (case hr => first | (go_simp; done) | (go_simp; rfl)); intro gb120 hg w25 hbox hb; have hp0 := hpA BK119.out hb (fun _ _ h_ => by (with_reducible repeat (first | refine kN ?_ _ | refine kD ?_ | refine kA ?_ _)); exact h_); have hv := hvK (w := w) hb (by repeat (first | (with_reducible first | exact HB.out | apply bA | apply bN | apply bD | refine bX ?_ (by assumption)) | exact HB.out)); have n1_ := Am (bT hv hb); have n2_ := Am (hbox); have GW120 := kG hg hv; have GE120 := kG hg hv; have hp1 := hpK BK119.out hb (fun _ _ h_ => by (with_reducible repeat (first | refine kN ?_ _ | refine kD ?_ | refine kA ?_ _)); exact h_); have NB119_120 := kX hg (hp1 BK119.out); have NB120_119 := kY hg (hp1 BK119.out); clear HB; replace BK119 := hp0 BK119; have HB := n1_; have BK120 := n2_; clear n1_ n2_ hp0 hp1 hv; clear hb hbox hg) | ((with_reducible refine gate_dst (N := 4) rfl ?_); refine box_event ?hg (N := 4) ?hd (cs := #[.int .i64 0, .int .i64 0]) (t := 23) ?hr ?_; (case hd => rfl); (case hg => rfl); (case hr => first | (go_simp; done) | (go_simp; rfl)); intro gb121 hg w26 hbox hb; have hp0 := hpA BK119.out hb (fun _ _ h_ => by (with_reducible repeat (first | refine kN ?_ _ | refine kD ?_ | refine kA ?_ _)); exact h_); have hv := hvK (w := w) hb (by repeat (first | (with_reducible first | exact HB.out | apply bA | apply bN | apply bD | refine bX ?_ (by assumption)) | exact HB.out)); have n2_ := Am (bT hv hb); have n3_ := Am (hbox); have GW121 := kG hg hv; have GE121 := kG hg hv; have hp1 := hpK BK119.out hb (fun _ _ h_ => by (with_reducible repeat (first | refine kN ?_ _ | refine kD ?_ | refine kA ?_ _)); exact h_); have NB119_121 := kX hg (hp1 BK119.out); have NB121_119 := kY hg (hp1 BK119.out); have NB120_121 := kX hg (hp1 BK120.out); have NB121_120 := kY hg (hp1 BK120.out); clear HB; replace BK119 := hp0 BK119; replace BK120 := hp0 BK120; have HB := n2_; have BK121 := n3_; clear n2_ n3_ hp0 hp1 hv; clear hb hbox hg; have hnb27 := NB119_120.out; have hnc27 := NB120_119.out; have hnb28 := NB119_121.out; have hnc28 := NB121_119.out; have hcz29_0 := c20 BK119.out; have hcz29_1 := c21 BK119.out; have hfz29_0 := kF BK119.out 0; have hfz29_1 := kF BK119.out 1; have hnb30 := NB120_121.out; have hnc30 := NB121_120.out; have hcz31_0 := c20 BK120.out; have hcz31_1 := c21 BK120.out; have hfz31_0 := kF BK120.out 0; have hfz31_1 := kF BK120.out 1) | ((with_reducible refine gate_dst (N := 8) rfl ?_); refine Kd.R_lit k23 _ 23 ?hg (N := 8) ?hd (xs := ([(⟨a0_0, a0_1⟩ : S23), (⟨a1_0, a1_1⟩ : S23)] : List (S23))) (inner := [.int .i64 a0_0, .int .i64 a0_1, .int .i64 a1_0, .int .i64 a1_1]) (ok := fun _ => True) (okp := fun _ => True) ?hr ?hp (fun _ hk => hk) trivial (Below.refl _ _) (Nat.le_refl _) (by simp) ?_; (case hd => rfl); (case hg => rfl); (case hr => first | (go_simp; done) | (go_simp; rfl)); (case hp => exact (Reps.c2 (show Kd.M k23 _ _ _ (⟨a0_0, a0_1⟩ : S23) [.int .i64 a0_0, .int .i64 a0_1] from (k23_mkM _ _ _ (⟨a0_0, a0_1⟩ : S23) )) (Reps.c2 (show Kd.M k23 _ _ _ (⟨a1_0, a1_1⟩ : S23) [.int .i64 a1_0, .int .i64 a1_1] from (k23_mkM _ _ _ (⟨a1_0, a1_1⟩ : S23) )) (Reps.none _ _)))); intro v123 w32 ho33 hb hg_ hnew_; clear hg_ hnew_; (first | rw [← Ny122.out] at ho33 | (simp only [Int.reduceToNat] at ho33; rw [← Ny122.out] at ho33)); have n0_ := Am (Kd.R_lower (Kd.R_newB (Kd.R_newB (Kd.R_newB ho33 (g := gb119) (o := .cells #[.int .i64 a0_0, .int .i64 a0_1] 23 (0, 0)) (by (with_reducible repeat (first | refine kN ?_ _ | refine kD ?_ | refine kA ?_ _)); exact BK119.out)) (g := gb120) (o := .cells #[.int .i64 a1_0, .int .i64 a1_1] 23 (0, 0)) (by (with_reducible repeat (first | refine kN ?_ _ | refine kD ?_ | refine kA ?_ _)); exact BK120.out)) (g := gb121) (o := .cells #[.int .i64 0, .int .i64 0] 23 (0, 0)) (by (with_reducible repeat (first | refine kN ?_ _ | refine kD ?_ | refine kA ?_ _)); exact BK121.out)) (bZ (by repeat (first | (with_reducible first | exact HB.out | apply bA | apply bN | apply bD | refine bX ?_ (by assumption)) | exact HB.out)))); have hp0 := hpA BK119.out hb (fun _ _ h_ => by (with_reducible repeat (first | refine kN ?_ _ | refine kD ?_ | refine kA ?_ _)); exact h_); have hv := hvK (w := w) hb (by repeat (first | (with_reducible first | exact HB.out | apply bA | apply bN | apply bD | refine bX ?_ (by assumption)) | exact HB.out)); have n4_ := Am (bT hv hb); clear HB; have HO124 := n0_; replace BK119 := hp0 BK119; replace BK120 := hp0 BK120; replace BK121 := hp0 BK121; have HB := n4_; clear n0_ n4_ hp0 hv; clear hb ho33; obtain ⟨Ao34, co34, eo34⟩ := Kd.R_slice HO124.out; subst eo34) | ((with_reducible refine gate_callee (f := 20) rfl ?_); refine goesL_ (some 9) rfl rfl Try.func20 (by kernel_rfl) rfl #[.slice Ao34 y122.length co34] rfl (by (try simp only [List.map_toArray, List.map_cons, List.map_nil]); first | done | rfl | (simp only [List.length_drop, List.length_take]; rfl)) ?_; (with_reducible refine (impl_areTurns.calls k _ _ y122 false _ ?side1 ?side2 A3.out).mono ?_); (case side1 => repeat (first | exact (Kd.R_reads' HO124.out).2.2 | (with_reducible refine Kd.C_alloc ?_ _) | (with_reducible refine Kd.C_drewN ?_ _) | (with_reducible refine Kd.C_drew ?_))); (case side2 => exact (Kd.R_reads' HO124.out).2.1); rintro e w35 ⟨rfl, hb⟩; refine ⟨_, rfl, ?_⟩; have n0_ := Am (Kd.R_below (by (with_reducible repeat (first | apply Kd.R_alloc | apply Kd.R_drewN | apply Kd.R_drew)); exact HO124.out) hb); have hp0 := hpA BK119.out hb (fun _ _ h_ => by (with_reducible repeat (first | refine kN ?_ _ | refine kD ?_ | refine kA ?_ _)); exact h_); have hv := hvK (w := w) hb (by repeat (first | (with_reducible first | exact HB.out | apply bA | apply bN | apply bD | refine bX ?_ (by assumption)) | exact HB.out)); have n4_ := Am (bT hv hb); clear HO124; clear HB; have HO124 := n0_; replace BK119 := hp0 BK119; replace BK120 := hp0 BK120; replace BK121 := hp0 BK121; have HB := n4_; clear n0_ n4_ hp0 hv; (try clear hb); have hcz36_0 := c20 BK121.out; have hcz36_1 := c21 BK121.out; have hfz36_0 := kF BK121.out 0; have hfz36_1 := kF BK121.out 1))
  refine bodyPost_ret (results_ct rfl _ _ gb121 23 #[.int .i64 0, .int .i64 0] (0, 0) _ rfl (by (with_reducible repeat (first | refine kN ?_ _ | refine kD ?_ | refine kA ?_ _)); refine kP (cs := #[.int .i64 0, .int .i64 0]) ?_ 1 _ rfl; (with_reducible repeat (first | refine kN ?_ _ | refine kD ?_ | refine kA ?_ _)); refine kP (cs := #[.int .i64 0, .int .i64 0]) ?_ 0 _ rfl; (with_reducible repeat (first | refine kN ?_ _ | refine kD ?_ | refine kA ?_ _)); exact BK121.out) Try.underlying23 rfl (by kernel_rfl)) rfl ?_
  exact ⟨by first | rfl | (simp [errW_none, errW_some] <;> rfl) | (simp [*, errW_none, errW_some] <;> rfl), by repeat (first | (with_reducible first | exact HB.out | apply bA | apply bN | apply bD | refine bX ?_ (by assumption)) | exact HB.out)⟩
/-! ### spec_l1In: function 33 -/
def spec_l1In.f (a0 : Int) (a1 : Int) (a2 : Int) : Option (Bool) := if a0 ≥ a1 then (some (decide (a0 ≤ a2))) else (some false)
set_option maxHeartbeats 8000000 in
set_option maxRecDepth 100000 in
theorem spec_l1In.calls (a0 : Int) (a1 : Int) (a2 : Int) (r : Bool) (w : World) (h : spec_l1In.f a0 a1 a2 = some r) :
  Calls Try.prog 33 #[.int .i64 a0, .int .i64 a1, .int .i64 a2] w fun e w' => e = .returned (.bool r) ∧ Drawn0 w w' := by
 have H : (if a0 ≥ a1 then (some (decide (a0 ≤ a2))) else (some false)) = some r := h
 clear h
 by_cases c4 : a0 ≥ a1
 ·rw [if_pos c4] at H
  have c4b0 : decide (a1 ≤ a0) = true := decide_eq_true c4
  clear c4
  as_aux_lemma =>
   obtain rfl := Option.some.inj H
   go_enter Try.func33, Try.ntmps33
   go_wp2
   go_ret
   exact ⟨by first | rfl | (simp; done) | (simp [*]; done), by repeat (first | exact Drawn0.refl _ | apply Drawn0.step)⟩
 rw [if_neg c4] at H
 have c4b0 : decide (a1 ≤ a0) = false := decide_eq_false c4
 clear c4
 as_aux_lemma =>
  obtain rfl := Option.some.inj H
  go_enter Try.func33, Try.ntmps33
  go_wp2
  go_ret
  exact ⟨by first | rfl | (simp; done) | (simp [*]; done), by repeat (first | exact Drawn0.refl _ | apply Drawn0.step)⟩
/-! ### spec_diCommon: function 39 -/
def spec_diCommon.l0 : Nat → Int → Int → Option (Int)
 | 0, _, _ => none
 | k + 1, x0, x1 => if x1 > 0 then (if x1 = 0 then (none) else (spec_diCommon.l0 k x1 (Int.tmod x0 x1))) else (some x0)
def spec_diCommon.f (k : Nat) (a0 : Int) (a1 : Int) : Option (Int) := spec_diCommon.l0 k a0 a1
theorem spec_diCommon.mono_l : ∀ k, (∀ y0 y1, LeO (spec_diCommon.l0 k y0 y1) (spec_diCommon.l0 (k + 1) y0 y1))
 | 0 => fun _ _ r h => by simp [spec_diCommon.l0] at h
 | k + 1 => by
  have ih0 := spec_diCommon.mono_l k
  ·intro y0 y1
   unfold spec_diCommon.l0
   repeat' first
   | (with_reducible exact ih0 _ _)
   | (with_reducible exact LeO.refl _)
   | (with_reducible exact LeO.none _)
   | (with_reducible refine LeO.ite ?_ ?_)
   | (with_reducible refine LeO.bind ?_ (fun _ => ?_))
   | exact ih0 _ _
   | exact LeO.none _
   | refine LeO.ite ?_ ?_
   | refine LeO.bind ?_ (fun _ => ?_)
theorem spec_diCommon.mono : ∀ a0 a1 k, LeO (spec_diCommon.f k a0 a1) (spec_diCommon.f (k + 1) a0 a1) := by
 intro a0 a1 k
 have ih0 := spec_diCommon.mono_l k
 unfold spec_diCommon.f
 repeat' first
   | (with_reducible exact ih0 _ _)
   | (with_reducible exact LeO.refl _)
   | (with_reducible exact LeO.none _)
   | (with_reducible refine LeO.ite ?_ ?_)
   | (with_reducible refine LeO.bind ?_ (fun _ => ?_))
   | exact ih0 _ _
   | exact LeO.none _
   | refine LeO.ite ?_ ?_
   | refine LeO.bind ?_ (fun _ => ?_)
set_option maxHeartbeats 8000000 in
set_option maxRecDepth 100000 in
theorem spec_diCommon.calls (k : Nat) (a0 : Int) (a1 : Int) (r : Int) (w : World) (h : spec_diCommon.f k a0 a1 = some r) :
  Calls Try.prog 39 #[.int .i64 a0, .int .i64 a1] w fun e w' => e = .returned (.int .i64 r) ∧ Drawn0 w w' := by
 have H : (spec_diCommon.l0 k a0 a1) = some r := h
 clear h
 have H' := Am H
 clear H
 go_enter Try.func39, Try.ntmps39
 go_wp2
 repeat (go_quiet (fail); try go_wp2)
 go_loopg [0, 1] k (fun kq v0 v1 w' => ∃ (x0_1 : Int) (x1_1 : Int), v0 = .int .i64 x0_1 ∧ v1 = .int .i64 x1_1 ∧ Aside0 (spec_diCommon.l0 kq x0_1 x1_1 = some r) ∧ Aside0 (kq ≤ k) ∧ Drawn0 w w')
 case atStart => exact ⟨(a0), (a1), (by first | rfl | (simp; done) | (simp [*]; done)), (by first | rfl | (simp; done) | (simp [*]; done)), H', ⟨Nat.le_refl _⟩, by repeat (first | exact Drawn0.refl _ | apply Drawn0.step)⟩
 case round =>
  clear H'
  obtain ⟨x0_1, x1_1, rfl, rfl, HA, HK1, ⟨m1, rfl⟩⟩ := hrel
  cases gk with
  | zero => exact absurd HA.out (by simp [spec_diCommon.l0])
  | succ k1 =>
   have H := HA.out
   clear HA
   simp only [spec_diCommon.l0] at H
   by_cases c3 : x1_1 > 0
   ·rw [if_pos c3] at H
    have c3b0 : decide (0 < x1_1) = true := decide_eq_true c3
    clear c3
    by_cases c4 : x1_1 = 0
    ·rw [if_pos c4] at H
     exact absurd H (by simp)
    rw [if_neg c4] at H
    have c4b0 : (x1_1 == 0) = false := beq_eq_false_iff_ne.mpr c4
    have c4b1 : (x1_1 != 0) = true := bne_iff_ne.mpr c4
    as_aux_lemma =>
     have H' := Am H
     clear H
     go_wp2
     repeat (go_quiet (fail); try go_wp2)
     go_roundg k1
     case measure => have := HK1.out; omega
     case rel => exact ⟨(x1_1), (Int.tmod x0_1 x1_1), (by first | rfl | (simp; done) | (simp [*]; done)), (by first | rfl | (simp; done) | (simp [*]; done)), H', ⟨by have := HK1.out; omega⟩, by repeat (first | exact Drawn0.refl _ | apply Drawn0.step)⟩
   rw [if_neg c3] at H
   have c3b0 : decide (0 < x1_1) = false := decide_eq_false c3
   clear c3
   as_aux_lemma =>
    obtain rfl := Option.some.inj H
    go_wp2
    repeat (go_quiet (fail); try go_wp2)
    go_ret
    exact ⟨by first | rfl | (simp; done) | (simp [*]; done), by repeat (first | exact Drawn0.refl _ | apply Drawn0.step)⟩
/-! ### spec_diGood: function 23 -/
def spec_diGood.f (k : Nat) (a0_0 : Int) (a0_1 : Int) : Option (Bool) := (spec_l1In.f a0_1 1 1000000).bind fun t132 => (if t132 = true then ((spec_l1In.f a0_0 0 (wrap64 (a0_1 - 1))).bind fun t133 => (if t133 = true then ((spec_diCommon.f k a0_0 a0_1).bind fun t134 => (some (t134 == 1))) else (some false))) else (some false))
theorem spec_diGood.mono : ∀ a0 a1 k, LeO (spec_diGood.f k a0 a1) (spec_diGood.f (k + 1) a0 a1) := by
 intro a0 a1 k
 unfold spec_diGood.f
 repeat' first
   | (with_reducible exact spec_diCommon.mono _ _ _)
   | (with_reducible exact LeO.refl _)
   | (with_reducible exact LeO.none _)
   | (with_reducible refine LeO.ite ?_ ?_)
   | (with_reducible refine LeO.bind ?_ (fun _ => ?_))
   | exact spec_diCommon.mono _ _ _
   | exact LeO.none _
   | refine LeO.ite ?_ ?_
   | refine LeO.bind ?_ (fun _ => ?_)
set_option maxHeartbeats 8000000 in
set_option maxRecDepth 100000 in
theorem spec_diGood.calls (k : Nat) (a0_0 : Int) (a0_1 : Int) (r : Bool) (w : World) (h : spec_diGood.f k a0_0 a0_1 = some r) :
  Calls Try.prog 23 #[.agg #[.int .i64 a0_0, .int .i64 a0_1]] w fun e w' => e = .returned (.bool r) ∧ Below w.heap.size w w' := by
 have hu23 := Try.underlying23
 have HB := Am (Below.refl w.heap.size w)
 have H : ((spec_l1In.f a0_1 1 1000000).bind fun t132 => (if t132 = true then ((spec_l1In.f a0_0 0 (wrap64 (a0_1 - 1))).bind fun t133 => (if t133 = true then ((spec_diCommon.f k a0_0 a0_1).bind fun t134 => (some (t134 == 1))) else (some false))) else (some false))) = some r := h
 clear h
 replace H := Option.bind_eq_some_iff.mp H
 obtain ⟨t132, A20, H⟩ := H
 try dsimp only at H
 have A2 := Am A20
 clear A20
 by_cases c3 : t132 = true
 ·subst c3
  have H1 : ((spec_l1In.f a0_0 0 (wrap64 (a0_1 - 1))).bind fun t133 => (if t133 = true then ((spec_diCommon.f k a0_0 a0_1).bind fun t134 => (some (t134 == 1))) else (some false))) = some r := by rw [if_pos rfl] at H; exact H
  clear H
  have H := H1
  clear H1
  replace H := Option.bind_eq_some_iff.mp H
  obtain ⟨t133, A40, H⟩ := H
  try dsimp only at H
  have A4 := Am A40
  clear A40
  by_cases c5 : t133 = true
  ·subst c5
   have H1 : ((spec_diCommon.f k a0_0 a0_1).bind fun t134 => (some (t134 == 1))) = some r := by rw [if_pos rfl] at H; exact H
   clear H
   have H := H1
   clear H1
   replace H := Option.bind_eq_some_iff.mp H
   obtain ⟨t134, A60, H⟩ := H
   try dsimp only at H
   have A6 := Am A60
   clear A60
   as_aux_lemma =>
    obtain rfl := Option.some.inj H
    go_enter Try.func23, Try.ntmps23
    go_wp2_with (first | ((with_reducible refine gate_dst (N := 1) rfl ?_); refine box_event ?hg (N := 1) ?hd (cs := #[.int .i64 a0_0, .int .i64 a0_1]) (t := 23) ?hr ?_; (case hd => rfl); (case hg => rfl); (case hr => first | (go_simp; done) | (go_simp; rfl)); intro gb131 hg w7 hbox hb; have hv := hvK (w := w) hb (by repeat (first | (with_reducible first | exact HB.out | apply bA | apply bN | apply bD) | exact HB.out)); have n0_ := Am (bT hv hb); have n1_ := Am (hbox); have GW131 := kG hg hv; have GE131 := kG hg hv; clear HB; have HB := n0_; have BK131 := n1_; clear n0_ n1_ hv; clear hb hbox hg; have hcz8_0 : w7.cell? ⟨gb131, 0, none⟩ = some (.int .i64 a0_0) := (kC BK131.out 0).trans rfl; have hcz8_1 : w7.cell? ⟨gb131, 1, none⟩ = some (.int .i64 a0_1) := (kC BK131.out 1).trans rfl; have hfz8_0 := kF BK131.out 0; have hfz8_1 := kF BK131.out 1) | ((with_reducible refine gate_callee (f := 33) rfl ?_); refine goesL_ (some 5) rfl rfl Try.func33 (by kernel_rfl) rfl #[.int .i64 a0_1, .int .i64 1, .int .i64 1000000] rfl (by (try simp only [List.map_toArray, List.map_cons, List.map_nil]); first | done | rfl | (simp only [List.length_drop, List.length_take]; rfl)) ?_; (with_reducible refine (spec_l1In.calls a0_1 1 1000000 true _ A2.out).mono ?_); rintro e w' ⟨rfl, ⟨nd, rfl⟩⟩; refine ⟨_, rfl, ?_⟩) | (go_at_call 33; (with_reducible refine (spec_l1In.calls a0_0 0 (wrap64 (a0_1 - 1)) true _ A4.out).mono ?_); rintro e w' ⟨rfl, ⟨nd, rfl⟩⟩) | (go_at_call 39; (with_reducible refine (spec_diCommon.calls k a0_0 a0_1 t134 _ A6.out).mono ?_); rintro e w' ⟨rfl, ⟨nd, rfl⟩⟩))
    go_ret
    exact ⟨by first | rfl | (simp [errW_none, errW_some] <;> rfl) | (simp [*, errW_none, errW_some] <;> rfl), by repeat (first | (with_reducible first | exact HB.out | apply bA | apply bN | apply bD | refine bX ?_ (by assumption)) | exact HB.out)⟩
  replace c5 := Bool.eq_false_iff.mpr c5
  subst c5
  have H1 : (some false) = some r := by rw [if_neg (show ¬ (false = true) by decide)] at H; exact H
  clear H
  have H := H1
  clear H1
  as_aux_lemma =>
   obtain rfl := Option.some.inj H
   go_enter Try.func23, Try.ntmps23
   go_wp2_with (first | ((with_reducible refine gate_dst (N := 1) rfl ?_); refine box_event ?hg (N := 1) ?hd (cs := #[.int .i64 a0_0, .int .i64 a0_1]) (t := 23) ?hr ?_; (case hd => rfl); (case hg => rfl); (case hr => first | (go_simp; done) | (go_simp; rfl)); intro gb131 hg w9 hbox hb; have hv := hvK (w := w) hb (by repeat (first | (with_reducible first | exact HB.out | apply bA | apply bN | apply bD) | exact HB.out)); have n0_ := Am (bT hv hb); have n1_ := Am (hbox); have GW131 := kG hg hv; have GE131 := kG hg hv; clear HB; have HB := n0_; have BK131 := n1_; clear n0_ n1_ hv; clear hb hbox hg; have hcz10_0 : w9.cell? ⟨gb131, 0, none⟩ = some (.int .i64 a0_0) := (kC BK131.out 0).trans rfl; have hcz10_1 : w9.cell? ⟨gb131, 1, none⟩ = some (.int .i64 a0_1) := (kC BK131.out 1).trans rfl; have hfz10_0 := kF BK131.out 0; have hfz10_1 := kF BK131.out 1) | ((with_reducible refine gate_callee (f := 33) rfl ?_); refine goesL_ (some 5) rfl rfl Try.func33 (by kernel_rfl) rfl #[.int .i64 a0_1, .int .i64 1, .int .i64 1000000] rfl (by (try simp only [List.map_toArray, List.map_cons, List.map_nil]); first | done | rfl | (simp only [List.length_drop, List.length_take]; rfl)) ?_; (with_reducible refine (spec_l1In.calls a0_1 1 1000000 true _ A2.out).mono ?_); rintro e w' ⟨rfl, ⟨nd, rfl⟩⟩; refine ⟨_, rfl, ?_⟩) | (go_at_call 33; (with_reducible refine (spec_l1In.calls a0_0 0 (wrap64 (a0_1 - 1)) false _ A4.out).mono ?_); rintro e w' ⟨rfl, ⟨nd, rfl⟩⟩))
   go_ret
   exact ⟨by first | rfl | (simp [errW_none, errW_some] <;> rfl) | (simp [*, errW_none, errW_some] <;> rfl), by repeat (first | (with_reducible first | exact HB.out | apply bA | apply bN | apply bD | refine bX ?_ (by assumption)) | exact HB.out)⟩
 replace c3 := Bool.eq_false_iff.mpr c3
 subst c3
 have H1 : (some false) = some r := by rw [if_neg (show ¬ (false = true) by decide)] at H; exact H
 clear H
 have H := H1
 clear H1
 as_aux_lemma =>
  obtain rfl := Option.some.inj H
  go_enter Try.func23, Try.ntmps23
  go_wp2_with (first | ((with_reducible refine gate_dst (N := 1) rfl ?_); refine box_event ?hg (N := 1) ?hd (cs := #[.int .i64 a0_0, .int .i64 a0_1]) (t := 23) ?hr ?_; (case hd => rfl); (case hg => rfl); (case hr => first | (go_simp; done) | (go_simp; rfl)); intro gb131 hg w11 hbox hb; have hv := hvK (w := w) hb (by repeat (first | (with_reducible first | exact HB.out | apply bA | apply bN | apply bD) | exact HB.out)); have n0_ := Am (bT hv hb); have n1_ := Am (hbox); have GW131 := kG hg hv; have GE131 := kG hg hv; clear HB; have HB := n0_; have BK131 := n1_; clear n0_ n1_ hv; clear hb hbox hg; have hcz12_0 : w11.cell? ⟨gb131, 0, none⟩ = some (.int .i64 a0_0) := (kC BK131.out 0).trans rfl; have hcz12_1 : w11.cell? ⟨gb131, 1, none⟩ = some (.int .i64 a0_1) := (kC BK131.out 1).trans rfl; have hfz12_0 := kF BK131.out 0; have hfz12_1 := kF BK131.out 1) | ((with_reducible refine gate_callee (f := 33) rfl ?_); refine goesL_ (some 5) rfl rfl Try.func33 (by kernel_rfl) rfl #[.int .i64 a0_1, .int .i64 1, .int .i64 1000000] rfl (by (try simp only [List.map_toArray, List.map_cons, List.map_nil]); first | done | rfl | (simp only [List.length_drop, List.length_take]; rfl)) ?_; (with_reducible refine (spec_l1In.calls a0_1 1 1000000 false _ A2.out).mono ?_); rintro e w' ⟨rfl, ⟨nd, rfl⟩⟩; refine ⟨_, rfl, ?_⟩))
  go_ret
  exact ⟨by first | rfl | (simp [errW_none, errW_some] <;> rfl) | (simp [*, errW_none, errW_some] <;> rfl), by repeat (first | (with_reducible first | exact HB.out | apply bA | apply bN | apply bD | refine bX ?_ (by assumption)) | exact HB.out)⟩
end Go.Proofs.Ytpmldpfoiljmcaa.PFnTurnsAddedOfAll
