/- FnExactHandsOfDial of the program answers as the reference does, whatever is given: the pure part of the proof. No condition. -/
import Derived.Test.YtkhlbicmlpbadaaPFnExactHandsOfDialx0
import Derived.Test.YtkhlbicmlpbadaaPFnExactHandsOfDialx1
import Derived.Test.YtkhlbicmlpbadaaPFnExactHandsOfDialx2
import Derived.Test.YtkhlbicmlpbadaaMath
set_option linter.unusedVariables false
set_option linter.unusedSimpArgs false
namespace Go.Proofs.Ytkhlbicmlpbadaa.Pure
open Go.RowKit Go.Proofs.Ytkhlbicmlpbadaa.PFnExactHandsOfDial Go.Proofs.YtkhlbicmlpbadaaW.PrintWords Go.Proofs.YtkhlbicmlpbadaaW.PrintLast Go.Proofs.YtkhlbicmlpbadaaW.PrintMore Go.Proofs.Ytkhlbicmlpbadaa.Math

/-! spec_l1In -/
theorem spec_l1In_eq (a b c : Int) : spec_l1In.f a b c = some (decide (b ≤ a ∧ a ≤ c)) := by
  unfold spec_l1In.f
  by_cases h : a ≥ b
  · rw [if_pos h]; simp [show b ≤ a from h]
  · rw [if_neg h]; simp [show ¬ b ≤ a from h]

/-! spec_diHours -/
theorem spec_diHours_eq (h : Int) : spec_diHours.f h = some (isD h) := by
  unfold spec_diHours.f isD; simp only [spec_l1In_eq, Option.bind_some]

/-! h_dialhands -/
def vDialHands (h : Int) : List S25 × Bool := if isD h = true then ([⟨⟨0, 1⟩, 1⟩, ⟨⟨0, 1⟩, h⟩], true) else ([], false)
theorem vDialHands_len (h : Int) : (vDialHands h).1.length ≤ 1000 := by unfold vDialHands; split <;> simp

/-! spec_HandsOfDial -/
theorem spec_HandsOfDial_eq (h : Int) : spec_HandsOfDial.f h = some (vDialHands h) := by
  unfold spec_HandsOfDial.f vDialHands
  simp only [spec_diHours_eq, Option.bind_some]
  split <;> rfl

/-! impl_within -/
theorem impl_within_eq (a b c : Int) : impl_within.f a b c = some (decide (b ≤ a ∧ a ≤ c)) := by
  unfold impl_within.f
  by_cases h : a ≥ b
  · rw [if_pos h]; simp [show b ≤ a from h]
  · rw [if_neg h]; simp [show ¬ b ≤ a from h]

/-! impl_isDial -/
theorem impl_isDial_eq (h : Int) : impl_isDial.f h = some (isD h) := by
  unfold impl_isDial.f isD; simp only [impl_within_eq, Option.bind_some]

/-! impl_HandsOfDial -/
theorem impl_HandsOfDial_eq (h : Int) : impl_HandsOfDial.f h = some (vDialHands h) := by
  unfold impl_HandsOfDial.f vDialHands
  simp only [impl_isDial_eq, Option.bind_some]
  split <;> rfl

/-! laws_eqTurn -/
theorem laws_eqTurn_self (a b : Int) : laws_eqTurn.f a b a b = some true := by
  unfold laws_eqTurn.f; rw [if_pos rfl, if_pos rfl]

/-! laws_eqHand -/
theorem laws_eqHand_self (a b c : Int) : laws_eqHand.f a b c a b c = some true := by
  unfold laws_eqHand.f; simp only [laws_eqTurn_self, Option.bind_some]; simp

/-! laws_eqHandS -/
theorem laws_eqHandS_l0 (l : List S25) (hl : l.length ≤ 100000) : ∀ (n i : Nat), l.length - i = n → i ≤ l.length → Ev (fun k => laws_eqHandS.l0 k l l i) true := by
  intro n
  induction n with
  | zero =>
    intro i h0 h1
    refine Ev.step (f := fun k => some true) (fun k => ?_) (Ev.now _)
    simp only [laws_eqHandS.l0]; rw [if_neg (by omega)]
  | succ n ih =>
    intro i h0 h1
    refine Ev.step (f := fun k => laws_eqHandS.l0 k l l ((i + 1 : Nat) : Int)) (fun k => ?_) (ih (i + 1) (by omega) (by omega))
    simp only [laws_eqHandS.l0]
    rw [if_pos (by omega), if_pos (by omega), if_pos (by omega)]
    simp only [laws_eqHand_self, Option.bind_some, if_true]
    rw [wrap_id (by omega) (by omega)]
    rfl
theorem laws_eqHandS_self (l : List S25) (hl : l.length ≤ 100000) : Ev (fun k => laws_eqHandS.f k l l) true := by
  unfold laws_eqHandS.f
  exact Ev.pos rfl (laws_eqHandS_l0 l hl l.length 0 (by omega) (by omega))

/-! h_setmid -/
theorem set_mid' {α : Type} (a : List α) (x y : α) (c : List α) : (a ++ x :: c).set a.length y = a ++ y :: c := by
  induction a with
  | nil => rfl
  | cons z a ih => simp only [List.cons_append, List.length_cons, List.set_cons_succ, ih]

/-! laws_markHandS -/
def mkdH (n : Nat) : List S25 := (List.range n).map fun (i : Nat) => (⟨(⟨3 * (i : Int) + 1, 3 * (i : Int) + 2⟩ : S23), 3 * (i : Int) + 3⟩ : S25)
theorem mkdH_length (n : Nat) : (mkdH n).length = n := by unfold mkdH; simp
theorem mkdH_succ (n : Nat) : mkdH (n + 1) = mkdH n ++ [(⟨(⟨3 * (n : Int) + 1, 3 * (n : Int) + 2⟩ : S23), 3 * (n : Int) + 3⟩ : S25)] := by
  unfold mkdH; rw [List.range_succ, List.map_append]; rfl
theorem laws_markHandS_l0 (l : List S25) (hl : l.length ≤ 100000) : ∀ (n i : Nat), l.length - i = n → i ≤ l.length → Ev (fun k => laws_markHandS.l0 k (mkdH i ++ l.drop i) (3 * (i : Int) + 1) i) (3 * (l.length : Int) + 1, mkdH l.length) := by
  intro n
  induction n with
  | zero =>
    intro i h0 h1
    have hi : i = l.length := by omega
    refine Ev.step (f := fun k => some (3 * (i : Int) + 1, mkdH i ++ l.drop i)) (fun k => ?_) ?_
    · simp only [laws_markHandS.l0]; rw [if_neg (by rw [List.length_append, mkdH_length, List.length_drop]; omega)]
    · rw [hi, List.drop_length, List.append_nil]; exact Ev.now _
  | succ n ih =>
    intro i h0 h1
    have hlt : i < l.length := by omega
    refine Ev.step (f := fun k => laws_markHandS.l0 k (mkdH (i + 1) ++ l.drop (i + 1)) (3 * ((i + 1 : Nat) : Int) + 1) ((i + 1 : Nat) : Int)) (fun k => ?_) (ih (i + 1) (by omega) (by omega))
    simp only [laws_markHandS.l0]
    rw [if_pos (by rw [List.length_append, mkdH_length, List.length_drop]; omega), if_pos (by omega)]
    simp only [Option.bind_some]
    rw [wrap_id (x := 3 * (i : Int) + 1 + 1) (by omega) (by omega), wrap_id (x := 3 * (i : Int) + 1 + 1 + 1) (by omega) (by omega), wrap_id (x := 3 * (i : Int) + 1 + 1 + 1 + 1) (by omega) (by omega), wrap_id (x := (i : Int) + 1) (by omega) (by omega)]
    have e0 : ((i : Int)).toNat = (mkdH i).length := by rw [mkdH_length]; omega
    have e1 : ∀ (y : S25) (c : List S25), rd_T25 (mkdH i ++ y :: c) i = y := by
      intro y c
      unfold rd_T25
      rw [e0]
      simp
    rw [List.drop_eq_getElem_cons hlt, e0]
    simp only [set_mid', e1]
    rw [mkdH_succ, List.append_assoc, show 3 * (i : Int) + 1 + 1 + 1 + 1 = 3 * ((i + 1 : Nat) : Int) + 1 by omega, show 3 * (i : Int) + 1 + 1 + 1 = 3 * (i : Int) + 3 by omega, show 3 * (i : Int) + 1 + 1 = 3 * (i : Int) + 2 by omega]
    rfl
theorem laws_markHandS_ev (l : List S25) (hl : l.length ≤ 100000) : Ev (fun k => laws_markHandS.f k l 1) (3 * (l.length : Int) + 1, mkdH l.length) := by
  unfold laws_markHandS.f
  exact laws_markHandS_l0 l hl l.length 0 (by omega) (by omega)

/-! laws_heldHandS -/
theorem laws_heldHandS_l0 (m : Nat) (hl : m ≤ 100000) : ∀ (n i : Nat), m - i = n → i ≤ m → Ev (fun k => laws_heldHandS.l0 k (mkdH m) (3 * (i : Int) + 1) i) (3 * (m : Int) + 1) := by
  intro n
  induction n with
  | zero =>
    intro i h0 h1
    have hi : i = m := by omega
    refine Ev.step (f := fun k => some (3 * (i : Int) + 1)) (fun k => ?_) ?_
    · simp only [laws_heldHandS.l0]; rw [if_neg (by rw [mkdH_length]; omega)]
    · rw [hi]; exact Ev.now _
  | succ n ih =>
    intro i h0 h1
    have hlt : i < (mkdH m).length := by rw [mkdH_length]; omega
    have e1 : rd_T25 (mkdH m) i = (⟨(⟨3 * (i : Int) + 1, 3 * (i : Int) + 2⟩ : S23), 3 * (i : Int) + 3⟩ : S25) := by
      unfold rd_T25 mkdH
      rw [show ((i : Int)).toNat = i by omega, List.getD_eq_getElem?_getD, List.getElem?_map, List.getElem?_range (by omega)]
      rfl
    refine Ev.step (f := fun k => laws_heldHandS.l0 k (mkdH m) (3 * ((i + 1 : Nat) : Int) + 1) ((i + 1 : Nat) : Int)) (fun k => ?_) (ih (i + 1) (by omega) (by omega))
    simp only [laws_heldHandS.l0]
    rw [if_pos (by rw [mkdH_length]; omega), if_pos (by omega), e1, wrap_id (x := 3 * (i : Int) + 1 + 1) (by omega) (by omega), wrap_id (x := 3 * (i : Int) + 1 + 1 + 1) (by omega) (by omega), wrap_id (x := 3 * (i : Int) + 1 + 1 + 1 + 1) (by omega) (by omega), wrap_id (x := (i : Int) + 1) (by omega) (by omega)]
    rw [if_pos rfl, if_pos (show 3 * (i : Int) + 2 = 3 * (i : Int) + 1 + 1 by omega), if_pos (show 3 * (i : Int) + 3 = 3 * (i : Int) + 1 + 1 + 1 by omega), show 3 * (i : Int) + 1 + 1 + 1 + 1 = 3 * ((i + 1 : Nat) : Int) + 1 by omega]
    rfl
theorem laws_heldHandS_ev (m : Nat) (hl : m ≤ 100000) : Ev (fun k => laws_heldHandS.f k (mkdH m) 1) (3 * (m : Int) + 1) := by
  unfold laws_heldHandS.f
  exact laws_heldHandS_l0 m hl m 0 (by omega) (by omega)

/-! laws_FnExactHandsOfDial -/
theorem FnExactHandsOfDial : laws_FnExactHandsOfDial.Pure := by
  intro h _
  apply Ev.rounds (g := fun k => laws_FnExactHandsOfDial.f k h)
  have hl := vDialHands_len h
  have hs := spec_HandsOfDial_eq h
  have hi := impl_HandsOfDial_eq h
  generalize vDialHands h = v at hl hs hi
  obtain ⟨l, o⟩ := v
  have hl' : l.length ≤ 1000 := hl
  unfold laws_FnExactHandsOfDial.f
  rw [hs, hi]
  simp only [Option.bind_some]
  refine Ev.bind (laws_eqHandS_self l (by omega)) ?_
  refine Ev.pos rfl ?_
  simp only [bne_self_eq_false]
  refine Ev.step (f := fun k => (laws_markHandS.f k l 1).bind fun bt => ((laws_heldHandS.f k bt.2 1).bind fun tq => (if tq < 0 then (some false) else (if tq = bt.1 then ((laws_eqHandS.f k l l).bind fun tr => (if tr = true then (laws_FnExactHandsOfDial.j1 k bt.2 bt.1 (o != o)) else (laws_FnExactHandsOfDial.j1 k bt.2 bt.1 true))) else (some false))))) (fun k => ?_) ?_
  · simp only [laws_FnExactHandsOfDial.j0, hi, Option.bind_some]; rfl
  refine Ev.bind (laws_markHandS_ev l (by omega)) ?_
  refine Ev.bind (laws_heldHandS_ev l.length (by omega)) ?_
  refine Ev.neg (by omega) (Ev.pos rfl ?_)
  refine Ev.bind (laws_eqHandS_self l (by omega)) ?_
  refine Ev.pos rfl ?_
  simp only [bne_self_eq_false]
  refine Ev.step (f := fun k => (laws_heldHandS.f k (mkdH l.length) 1).bind fun tq => (if tq < 0 then (some false) else (if tq = 3 * (l.length : Int) + 1 then (some true) else (some false)))) (fun k => ?_) ?_
  · simp only [laws_FnExactHandsOfDial.j1]; rfl
  refine Ev.bind (laws_heldHandS_ev l.length (by omega)) ?_
  exact Ev.neg (by omega) (Ev.pos rfl (Ev.now _))

end Go.Proofs.Ytkhlbicmlpbadaa.Pure
