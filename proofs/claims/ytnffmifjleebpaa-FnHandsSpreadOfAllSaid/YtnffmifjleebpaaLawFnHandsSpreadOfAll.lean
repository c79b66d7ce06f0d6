-- WRITTEN BY A PROGRAM OF THIS SESSION (wip/tools): its own text, not the kit's printed one.
import Derived.Test.YtnffmifjleebpaaRows
import Derived.Test.YtnffmifjleebpaaPFnHandsSpreadOfAllx10
import Derived.Test.YtnffmifjleebpaaPureFnHandsSpreadOfAll
import Derived.Deep.Slices
import Derived.Lib.SmallJoins
import Derived.WalkKit
import Derived.ProofKit
import Derived.OpenShut
import Derived.ShutString
import Derived.ChangeOld
import Derived.Below
import Derived.SizedLaws
import Derived.Test.YtnffmifjleebpaaWSized
namespace Go.Proofs.Ytnffmifjleebpaa.fnHandsSpreadOfAll
open Go.ChangeShapes Go.WideShapes Go.ChangeAt Go.RowKit
open Go.ChangeMaps (open_string shut_string)
set_option linter.unusedVariables false
theorem own : ownKnob Try.prog.godebug = none := by kernel_rfl
theorem laidOut : laidOutB Try.prog = true := by kernel_rfl
theorem sizedS {H : Type} {enc : TypeId × Value → H} {P : Program} {W : World} {base : Nat} {spare : Nat → Bool} {held : Bool} {t e : TypeId} {a : Option Addr} {len cap : Nat} {d : DataW H} {ps : List MemPlace} {ts : List TypeId} {ds : List (DataW H)} {j : Nat}
    (hsz : (DataW.weightsEach P ts ds).all (· ≤ reachBytes) = true) (ht : ts[j]? = some t) (hd : ds[j]? = some d) (hu : P.underlying t = some (.slice e)) {B : Nat} (hB : P.bytesOf e = B)
    (h : DataW.Trod enc P W base spare held t (.slice a len cap) d ps) : len * B ≤ 140737488351232 := by
  obtain ⟨fuel, hf⟩ := h
  rcases Go.Deep.open_slice hu hf with ⟨hcs, _⟩ | ⟨x, l, c, m, n, D, Pl, hcs, _, hl, _, hmm, hx, _⟩
  · simp [Value.cells] at hcs
    obtain ⟨rfl, rfl, rfl⟩ := hcs
    simp
  · simp [Value.cells] at hcs
    obtain ⟨rfl, rfl, rfl⟩ := hcs
    obtain ⟨hx, _⟩ := Prod.mk.inj hx
    subst hx
    have z := sized_slice hsz ht hd hu
    rw [hB, List.length_map, List.length_map, List.length_range, List.length_range] at z
    exact Nat.le_trans (Nat.mul_le_mul_right _ (Nat.le_add_right _ _)) z
set_option maxRecDepth 100000 in
open Go.Proofs.Ytnffmifjleebpaa.PFnHandsSpreadOfAll Go.Proofs.YtnffmifjleebpaaW.PrintWords Go.Proofs.YtnffmifjleebpaaW.PrintLast Go.Proofs.YtnffmifjleebpaaW.PrintMore in
theorem open_l22 {H : Type} {enc : TypeId × Value → H} {W : World} {A : Option Addr} {len c : Nat} {d : DataW H} {p : List MemPlace} (h : DataW.Trod enc Try.prog W 0 (fun _ => true) true 22 (.slice A len c) d p) :
    ∃ l : List S26, len = l.length ∧ Kd.C k26 W A l.length l ∧ l.length ≤ c ∧ l.length ≤ maxLen ∧ ∀ x ∈ l, (Lit.int .i64 x.f0.f0).wf = true ∧ (Lit.int .i64 x.f0.f1).wf = true ∧ (Lit.int .i64 x.f1).wf = true := by
  obtain ⟨fuel, hf⟩ := h
  replace hf : DataW.trod enc Try.prog W 0 (fun _ => true) true fuel 22 [.slice A len c] = some (d, p) := by simpa [Value.cells] using hf
  rcases Go.Deep.open_slice Try.underlying22 hf with ⟨hcs, _⟩ | ⟨a, len', cap, m, n, D, Pl, hcs, _, hl, hm, hmm, _, hx⟩
  · simp at hcs
    obtain ⟨rfl, rfl, rfl⟩ := hcs
    exact ⟨[], rfl, ⟨rfl, by simp, fun h => absurd h (by simp)⟩, Nat.zero_le _, Nat.zero_le _, fun x hx => by simp at hx⟩
  · simp at hcs
    obtain ⟨rfl, rfl, rfl⟩ := hcs
    have hmm' : m = c := by simpa using hmm
    haveI : Inhabited S26 := ⟨z26⟩
    have each : ∀ i, i < len → ∃ y : S26, W.cell? (a.add (i * 3 + 0)) = some (.int .i64 y.f0.f0) ∧ W.cell? (a.add (i * 3 + 1)) = some (.int .i64 y.f0.f1) ∧ W.cell? (a.add (i * 3 + 2)) = some (.int .i64 y.f1) ∧ (Lit.int .i64 y.f0.f0).wf = true ∧ (Lit.int .i64 y.f0.f1).wf = true ∧ (Lit.int .i64 y.f1).wf = true := by
      intro i hi
      obtain ⟨cs, h1, h2⟩ := hx i (by omega)
      rw [show Try.prog.cellsOf 26 = 3 from by kernel_rfl] at h1
      obtain ⟨_, hlen, hcell⟩ := World.cells?_some h1
      obtain ⟨c_0, c_1, c_2, rfl⟩ : ∃ c_0 c_1 c_2, cs = [c_0, c_1, c_2] := by match cs, hlen with | [c_0, c_1, c_2], _ => exact ⟨c_0, c_1, c_2, rfl⟩
      have e_0 : W.cell? (a.add (i * 3 + 0)) = some c_0 := by have h_ := hcell 0 (by omega); rw [Go.Deep.add_add] at h_; simpa using h_
      have e_1 : W.cell? (a.add (i * 3 + 1)) = some c_1 := by have h_ := hcell 1 (by omega); rw [Go.Deep.add_add] at h_; simpa using h_
      have e_2 : W.cell? (a.add (i * 3 + 2)) = some c_2 := by have h_ := hcell 2 (by omega); rw [Go.Deep.add_add] at h_; simpa using h_
      obtain ⟨y1_0, y1_1, n1, _, _, f1_0, f1_1⟩ := Go.ChangeShapes.trod_struct2 Try.underlying26 h2
      replace f1_0 : DataW.trod enc Try.prog W 0 (fun _ => true) true n1 24 [c_0, c_1] = some y1_0 := by (have c_ : Try.prog.cellsOf 24 = 2 := by kernel_rfl); simpa [c_] using f1_0
      obtain ⟨y2_0, y2_1, n2, _, _, f2_0, f2_1⟩ := Go.ChangeShapes.trod_struct2 Try.underlying24 f1_0
      replace f2_0 : DataW.trod enc Try.prog W 0 (fun _ => true) true n2 3 [c_0] = some y2_0 := by (have c_ : Try.prog.cellsOf 3 = 1 := by kernel_rfl); simpa [c_] using f2_0
      obtain ⟨a3, e3, _, wf_c_0⟩ := DataW.trod_int Try.underlying3 f2_0
      obtain rfl : c_0 = .int .i64 a3 := by simpa using e3
      replace f2_1 : DataW.trod enc Try.prog W 0 (fun _ => true) true n2 3 [c_1] = some y2_1 := by (have c_ : Try.prog.cellsOf 3 = 1 := by kernel_rfl); simpa [c_] using f2_1
      obtain ⟨a4, e4, _, wf_c_1⟩ := DataW.trod_int Try.underlying3 f2_1
      obtain rfl : c_1 = .int .i64 a4 := by simpa using e4
      replace f1_1 : DataW.trod enc Try.prog W 0 (fun _ => true) true n1 3 [c_2] = some y1_1 := by (have c_ : Try.prog.cellsOf 3 = 1 := by kernel_rfl); simpa [c_] using f1_1
      obtain ⟨a5, e5, _, wf_c_2⟩ := DataW.trod_int Try.underlying3 f1_1
      obtain rfl : c_2 = .int .i64 a5 := by simpa using e5
      exact ⟨⟨⟨a3, a4⟩, a5⟩, e_0, e_1, e_2, wf_c_0, wf_c_1, wf_c_2⟩
    obtain ⟨f, hf2⟩ := Go.Deep.choose_lt each
    refine ⟨(List.range len).map f, by simp, ⟨by simp, by rw [List.length_map, List.length_range]; unfold maxLen at hm; omega, fun _ => ⟨a, rfl, fun j q hq => ?_⟩⟩, by simpa using hl, by rw [List.length_map, List.length_range]; omega, fun x hx => ?_⟩
    · have hj : j < len := by have := (List.getElem?_eq_some_iff.1 hq).1; simpa using this
      obtain rfl : f j = q := by rw [List.getElem?_map, List.getElem?_range hj] at hq; exact Option.some.inj hq
      obtain ⟨g_0, g_1, g_2, _, _, _⟩ := hf2 j hj
      refine ⟨_, rfl, k26_mk W _, fun i u hu => ?_⟩
      match i, hu with
      | 0, hu => obtain rfl := Option.some.inj hu; exact g_0
      | 1, hu => obtain rfl := Option.some.inj hu; exact g_1
      | 2, hu => obtain rfl := Option.some.inj hu; exact g_2
      | i + 3, hu => simp at hu
    · obtain ⟨i, hi, rfl⟩ := List.mem_map.1 hx
      obtain ⟨_, _, _, w_0, w_1, w_2⟩ := hf2 i (List.mem_range.1 hi)
      exact ⟨w_0, w_1, w_2⟩
set_option maxRecDepth 100000 in
theorem open_t24 {H : Type} {enc : TypeId × Value → H} {W : World} {r : Reach} {b0 : Nat} {v : Value} {d : DataW H} {p : List MemPlace} (hv : Value.okWide Try.prog W r b0 24 v) (h : DataW.Trod enc Try.prog W 0 (fun _ => true) true 24 v d p) :
    ∃ z_c0 z_c1 : Int, v = .agg #[.int .i64 z_c0, .int .i64 z_c1] ∧ (Lit.int .i64 z_c0).wf = true ∧ (Lit.int .i64 z_c1).wf = true := by
  obtain ⟨cs, rfl, hsz⟩ := okWide_struct Try.underlying24 hv
  obtain ⟨c0, c1, rfl⟩ := Go.Joins.array2 (hsz.trans (by kernel_rfl : Try.prog.cellsOf 24 = 2))
  obtain ⟨fuel, hf⟩ := h
  replace hf : DataW.trod enc Try.prog W 0 (fun _ => true) true fuel 24 [c0, c1] = some (d, p) := by simpa [Value.cells] using hf
  obtain ⟨y1_0, y1_1, n1, _, _, f1_0, f1_1⟩ := Go.ChangeShapes.trod_struct2 Try.underlying24 hf
  replace f1_0 : DataW.trod enc Try.prog W 0 (fun _ => true) true n1 3 [c0] = some y1_0 := by (have c_ : Try.prog.cellsOf 3 = 1 := by kernel_rfl); simpa [c_] using f1_0
  obtain ⟨a2, e2, _, wf_c0⟩ := DataW.trod_int Try.underlying3 f1_0
  obtain rfl : c0 = .int .i64 a2 := by simpa using e2
  replace f1_1 : DataW.trod enc Try.prog W 0 (fun _ => true) true n1 3 [c1] = some y1_1 := by (have c_ : Try.prog.cellsOf 3 = 1 := by kernel_rfl); simpa [c_] using f1_1
  obtain ⟨a3, e3, _, wf_c1⟩ := DataW.trod_int Try.underlying3 f1_1
  obtain rfl : c1 = .int .i64 a3 := by simpa using e3
  exact ⟨_, _, rfl, wf_c0, wf_c1⟩
set_option maxRecDepth 100000 in
theorem open_t26 {H : Type} {enc : TypeId × Value → H} {W : World} {r : Reach} {b0 : Nat} {v : Value} {d : DataW H} {p : List MemPlace} (hv : Value.okWide Try.prog W r b0 26 v) (h : DataW.Trod enc Try.prog W 0 (fun _ => true) true 26 v d p) :
    ∃ z_c0 z_c1 z_c2 : Int, v = .agg #[.int .i64 z_c0, .int .i64 z_c1, .int .i64 z_c2] ∧ (Lit.int .i64 z_c0).wf = true ∧ (Lit.int .i64 z_c1).wf = true ∧ (Lit.int .i64 z_c2).wf = true := by
  obtain ⟨cs, rfl, hsz⟩ := okWide_struct Try.underlying26 hv
  obtain ⟨c0, c1, c2, rfl⟩ := Go.Joins.array3 (hsz.trans (by kernel_rfl : Try.prog.cellsOf 26 = 3))
  obtain ⟨fuel, hf⟩ := h
  replace hf : DataW.trod enc Try.prog W 0 (fun _ => true) true fuel 26 [c0, c1, c2] = some (d, p) := by simpa [Value.cells] using hf
  obtain ⟨y1_0, y1_1, n1, _, _, f1_0, f1_1⟩ := Go.ChangeShapes.trod_struct2 Try.underlying26 hf
  replace f1_0 : DataW.trod enc Try.prog W 0 (fun _ => true) true n1 24 [c0, c1] = some y1_0 := by (have c_ : Try.prog.cellsOf 24 = 2 := by kernel_rfl); simpa [c_] using f1_0
  obtain ⟨y2_0, y2_1, n2, _, _, f2_0, f2_1⟩ := Go.ChangeShapes.trod_struct2 Try.underlying24 f1_0
  replace f2_0 : DataW.trod enc Try.prog W 0 (fun _ => true) true n2 3 [c0] = some y2_0 := by (have c_ : Try.prog.cellsOf 3 = 1 := by kernel_rfl); simpa [c_] using f2_0
  obtain ⟨a3, e3, _, wf_c0⟩ := DataW.trod_int Try.underlying3 f2_0
  obtain rfl : c0 = .int .i64 a3 := by simpa using e3
  replace f2_1 : DataW.trod enc Try.prog W 0 (fun _ => true) true n2 3 [c1] = some y2_1 := by (have c_ : Try.prog.cellsOf 3 = 1 := by kernel_rfl); simpa [c_] using f2_1
  obtain ⟨a4, e4, _, wf_c1⟩ := DataW.trod_int Try.underlying3 f2_1
  obtain rfl : c1 = .int .i64 a4 := by simpa using e4
  replace f1_1 : DataW.trod enc Try.prog W 0 (fun _ => true) true n1 3 [c2] = some y1_1 := by (have c_ : Try.prog.cellsOf 3 = 1 := by kernel_rfl); simpa [c_] using f1_1
  obtain ⟨a5, e5, _, wf_c2⟩ := DataW.trod_int Try.underlying3 f1_1
  obtain rfl : c2 = .int .i64 a5 := by simpa using e5
  exact ⟨_, _, _, rfl, wf_c0, wf_c1, wf_c2⟩
def IsRow (k : IntKind) (w : World) (a : Option Addr) (len cap : Nat) (zs : List Int) : Prop :=
  (a = none ∧ len = 0 ∧ cap = 0 ∧ zs = []) ∨
  ∃ x, a = some x ∧ len ≤ cap ∧ cap ≤ maxLen ∧ zs.length = cap ∧ (∀ i, i < zs.length → w.cell? (x.add i) = some (.int k (zs.getD i 0))) ∧ ∀ n ∈ zs, (Lit.int k n).wf = true
set_option maxRecDepth 100000 in
theorem lifted (os : Os) (started : os.Started) (H : Type) (enc : TypeId × Value → H) :
    ReturnsInHanded {} Try.checked os 3 .any (Rows.fnHandsSpreadOfAllSpec.pre6 enc Try.prog Try.f3 Rows.fnHandsSpreadOfAllRow.domain false) (Rows.fnHandsSpreadOfAllSpec.post enc Try.prog Try.f3 false true false false) := by
  refine returnsInHanded_of_change_sized (C := Try.checked) own started (by kernel_rfl) Try.func3
    (ChangeSpec.witness6 (enc := enc) (C := Try.checked) false ⟨#[], #[.slice none 0 0, .agg #[.int .i64 0, .int .i64 0], .int .i64 0, .agg #[.int .i64 0, .int .i64 0, .int .i64 0]], []⟩ 8 (by kernel_rfl) (by kernel_rfl) (by kernel_rfl) (by kernel_rfl)) ?_
  intro W base args ds gs before hval0 hW hcnd hsz0 _
  have hsz : (DataW.weightsEach Try.prog (Try.f3.params.toList ++ Rows.fnHandsSpreadOfAllSpec.plain.varTypes Try.prog) (ds ++ gs)).all (· ≤ reachBytes) = true := hsz0
  have hval : ∀ (j : Nat) t v, Try.f3.params[j]? = some t → args[j]? = some v → Value.okWide Try.prog W .any base t v := hval0
  have hW' := hW
  obtain ⟨p, q, hA0, hV, rfl, hfz, hnd⟩ := hW
  have hA : DataW.TrodAll enc Try.prog W 0 (fun _ => true) true Try.f3.params.toList args.toList ds p := hA0
  rw [Try.params3] at hA hval hsz
  obtain ⟨v0, vs0, d0, ds0, p0, q0, hargs, rfl, rfl, h0, r0⟩ := trodAll_cons hA
  obtain ⟨v1, vs1, d1, ds1, p1, q1, rfl, rfl, rfl, h1, r1⟩ := trodAll_cons r0
  obtain ⟨v2, vs2, d2, ds2, p2, q2, rfl, rfl, rfl, h2, r2⟩ := trodAll_cons r1
  obtain ⟨v3, vs3, d3, ds3, p3, q3, rfl, rfl, rfl, h3, r3⟩ := trodAll_cons r2
  obtain ⟨rfl, rfl, rfl⟩ := trodAll_nil r3
  obtain rfl : args = #[v0, v1, v2, v3] := by cases args; simp_all
  obtain ⟨rfl, rfl⟩ := trodVars_none hV
  obtain ⟨A0, len0, c0, rfl⟩ := okWide_slice Try.underlying22 (hval 0 22 v0 rfl rfl)
  have k0 := h0
  have lt0 : ∀ x ∈ p0, x.block < W.heap.size := by obtain ⟨m, hm⟩ := k0; exact DataW.trod_lt m _ _ _ hm
  have y0 : len0 * 24 ≤ 140737488351232 := sizedS hsz (j := 0) (t := 22) rfl rfl Try.underlying22 (by kernel_rfl) h0
  obtain ⟨l0, rfl, hr0, hc0, hm0, hw0⟩ := open_l22 h0
  have k1 := h1
  have lt1 : ∀ x ∈ p1, x.block < W.heap.size := by obtain ⟨m, hm⟩ := k1; exact DataW.trod_lt m _ _ _ hm
  obtain ⟨a1_0, a1_1, rfl, w1_0, w1_1⟩ := open_t24 (hval 1 24 v1 rfl rfl) h1
  obtain ⟨a2, rfl, rfl, rfl, w2⟩ := open_int Try.underlying3 (hval 2 3 v2 rfl rfl) h2
  have k3 := h3
  have lt3 : ∀ x ∈ p3, x.block < W.heap.size := by obtain ⟨m, hm⟩ := k3; exact DataW.trod_lt m _ _ _ hm
  obtain ⟨a3_0, a3_1, a3_2, rfl, w3_0, w3_1, w3_2⟩ := open_t26 (hval 3 26 v3 rfl rfl) h3
  clear hA0 hval0 hsz0 hsz
  refine (PFnHandsSpreadOfAll.laws_FnHandsSpreadOfAll.walk Pure.FnHandsSpreadOfAll A0 c0 l0 a1_0 a1_1 a2 a3_0 a3_1 a3_2 W hr0 hc0 hm0 y0 hw0 w1_0 w1_1 w2 w3_0 w3_1 w3_2).mono fun e W' ⟨he, bel⟩ => ?_
  subst he
  exact ⟨_, rfl, _, _, _, [], _, [], hW', trodAll_mk1 (shut_bool Try.underlying4 _), (trodAll_cons_mk (Below.trod laidOut (by kernel_rfl) (of_decide_eq_true (by kernel_rfl)) k0 bel lt0) (trodAll_cons_mk (Below.trod laidOut (by kernel_rfl) (of_decide_eq_true (by kernel_rfl)) k1 bel lt1) (trodAll_cons_mk (shut_int Try.underlying3 w2) (trodAll_cons_mk (Below.trod laidOut (by kernel_rfl) (of_decide_eq_true (by kernel_rfl)) k3 bel lt3) trodAll_mk0)))), rfl, bel.frame _, fun h => by cases h⟩
theorem over : Rows.fnHandsSpreadOfAllRow.holds Try.pinned (OpenSpec.ofChange Rows.fnHandsSpreadOfAllSpec) :=
  OpenClaim.holds_of_wide 3 Try.f3 rfl rfl rfl rfl rfl rfl rfl ⟨rfl, rfl, rfl, rfl, rfl⟩ rfl rfl rfl rfl rfl (by kernel_rfl) Try.func3 (by kernel_rfl)
    (of_decide_eq_true (by kernel_rfl)) (by unfold Func.isWrapper; first | (rw [if_pos (by decide +kernel)]; kernel_rfl) | (rw [if_neg (by decide +kernel)]; exact ⟨rfl, rfl⟩))
    (fun os started H enc _ => lifted os started H enc)
theorem proved : Rows.FnHandsSpreadOfAllSaid := over
#print axioms proved
end Go.Proofs.Ytnffmifjleebpaa.fnHandsSpreadOfAll
namespace Go.Proofs.Ytnffmifjleebpaa
/-- The row, under a short name, for the claim. -/
theorem fnHandsSpreadOfAll_holds : Rows.FnHandsSpreadOfAllSaid := fnHandsSpreadOfAll.proved
end Go.Proofs.Ytnffmifjleebpaa
