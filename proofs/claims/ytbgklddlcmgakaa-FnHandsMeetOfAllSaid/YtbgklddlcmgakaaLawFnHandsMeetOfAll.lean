-- WRITTEN BY A PROGRAM OF THIS SESSION (wip/tools): its own text, not the kit's printed one.
import Derived.Test.YtbgklddlcmgakaaRows
import Derived.Test.YtbgklddlcmgakaaPFnHandsMeetOfAllx12
import Derived.Test.YtbgklddlcmgakaaPureFnHandsMeetOfAll
import Derived.Deep.Slices
import Derived.Lib.SmallJoins
import Derived.WalkKit
import Derived.ProofKit
import Derived.OpenShut
import Derived.ShutString
import Derived.ChangeOld
import Derived.Below
import Derived.SizedLaws
import Derived.Test.YtbgklddlcmgakaaWSized
namespace Go.Proofs.Ytbgklddlcmgakaa.fnHandsMeetOfAll
open Go.ChangeShapes Go.WideShapes Go.ChangeAt Go.RowKit
open Go.ChangeMaps (open_string shut_string)
set_option linter.unusedVariables false
theorem own : ownKnob Try.prog.godebug = none := by kernel_rfl
theorem laidOut : laidOutB Try.prog = true := by kernel_rfl
set_option maxRecDepth 100000 in
theorem open_t25 {H : Type} {enc : TypeId × Value → H} {W : World} {r : Reach} {b0 : Nat} {v : Value} {d : DataW H} {p : List MemPlace} (hv : Value.okWide Try.prog W r b0 25 v) (h : DataW.Trod enc Try.prog W 0 (fun _ => true) true 25 v d p) :
    ∃ z_c0 z_c1 z_c2 : Int, v = .agg #[.int .i64 z_c0, .int .i64 z_c1, .int .i64 z_c2] ∧ (Lit.int .i64 z_c0).wf = true ∧ (Lit.int .i64 z_c1).wf = true ∧ (Lit.int .i64 z_c2).wf = true := by
  obtain ⟨cs, rfl, hsz⟩ := okWide_struct Try.underlying25 hv
  obtain ⟨c0, c1, c2, rfl⟩ := Go.Joins.array3 (hsz.trans (by kernel_rfl : Try.prog.cellsOf 25 = 3))
  obtain ⟨fuel, hf⟩ := h
  replace hf : DataW.trod enc Try.prog W 0 (fun _ => true) true fuel 25 [c0, c1, c2] = some (d, p) := by simpa [Value.cells] using hf
  obtain ⟨y1_0, y1_1, n1, _, _, f1_0, f1_1⟩ := Go.ChangeShapes.trod_struct2 Try.underlying25 hf
  replace f1_0 : DataW.trod enc Try.prog W 0 (fun _ => true) true n1 23 [c0, c1] = some y1_0 := by (have c_ : Try.prog.cellsOf 23 = 2 := by kernel_rfl); simpa [c_] using f1_0
  obtain ⟨y2_0, y2_1, n2, _, _, f2_0, f2_1⟩ := Go.ChangeShapes.trod_struct2 Try.underlying23 f1_0
  replace f2_0 : DataW.trod enc Try.prog W 0 (fun _ => true) true n2 3 [c0] = some y2_0 := by (have c_ : Try.prog.cellsOf 3 = 1 := by kernel_rfl); simpa [c_] using f2_0
  obtain ⟨a3, e3, _, wf_c0⟩ := DataW.trod_int Try.underlying3 f2_0
  obtain rfl : c0 = .int .i64 a3 := by simpa using e3
  replace f2_1 : DataW.trod enc Try.prog W 0 (fun _ => true) true n2 3 [c1] = some y2_1 := by (have c_ : Try.prog.cellsOf 3 = 1 := by kernel_rfl); simpa [c_] using f2_1
  obtain ⟨a4, e4, _, wf_c1⟩ := DataW.trod_int Try.underlying3 f2_1
  obtain rfl : c1 = .int .i64 a4 := by simpa using e4
  replace f1_1 : DataW.trod enc Try.prog W 0 (fun _ => true) true n1 3 [c2] = some y1_1 := by (have c_ : Try.prog.cellsOf 3 = 1 := by kernel_rfl); simpa [c_] using f1_1
  obtain ⟨a5, e5, _, wf_c2⟩ := DataW.trod_int Try.underlying3 f1_1
  obtain rfl : c2 = .int .i64 a5 := by simpa using e5
  exact ⟨_, _, _, rfl, wf_c0, wf_c1, wf_c2⟩
set_option maxRecDepth 100000 in
theorem open_t23 {H : Type} {enc : TypeId × Value → H} {W : World} {r : Reach} {b0 : Nat} {v : Value} {d : DataW H} {p : List MemPlace} (hv : Value.okWide Try.prog W r b0 23 v) (h : DataW.Trod enc Try.prog W 0 (fun _ => true) true 23 v d p) :
    ∃ z_c0 z_c1 : Int, v = .agg #[.int .i64 z_c0, .int .i64 z_c1] ∧ (Lit.int .i64 z_c0).wf = true ∧ (Lit.int .i64 z_c1).wf = true := by
  obtain ⟨cs, rfl, hsz⟩ := okWide_struct Try.underlying23 hv
  obtain ⟨c0, c1, rfl⟩ := Go.Joins.array2 (hsz.trans (by kernel_rfl : Try.prog.cellsOf 23 = 2))
  obtain ⟨fuel, hf⟩ := h
  replace hf : DataW.trod enc Try.prog W 0 (fun _ => true) true fuel 23 [c0, c1] = some (d, p) := by simpa [Value.cells] using hf
  obtain ⟨y1_0, y1_1, n1, _, _, f1_0, f1_1⟩ := Go.ChangeShapes.trod_struct2 Try.underlying23 hf
  replace f1_0 : DataW.trod enc Try.prog W 0 (fun _ => true) true n1 3 [c0] = some y1_0 := by (have c_ : Try.prog.cellsOf 3 = 1 := by kernel_rfl); simpa [c_] using f1_0
  obtain ⟨a2, e2, _, wf_c0⟩ := DataW.trod_int Try.underlying3 f1_0
  obtain rfl : c0 = .int .i64 a2 := by simpa using e2
  replace f1_1 : DataW.trod enc Try.prog W 0 (fun _ => true) true n1 3 [c1] = some y1_1 := by (have c_ : Try.prog.cellsOf 3 = 1 := by kernel_rfl); simpa [c_] using f1_1
  obtain ⟨a3, e3, _, wf_c1⟩ := DataW.trod_int Try.underlying3 f1_1
  obtain rfl : c1 = .int .i64 a3 := by simpa using e3
  exact ⟨_, _, rfl, wf_c0, wf_c1⟩
def IsRow (k : IntKind) (w : World) (a : Option Addr) (len cap : Nat) (zs : List Int) : Prop :=
  (a = none ∧ len = 0 ∧ cap = 0 ∧ zs = []) ∨
  ∃ x, a = some x ∧ len ≤ cap ∧ cap ≤ maxLen ∧ zs.length = cap ∧ (∀ i, i < zs.length → w.cell? (x.add i) = some (.int k (zs.getD i 0))) ∧ ∀ n ∈ zs, (Lit.int k n).wf = true
set_option maxRecDepth 100000 in
theorem lifted (os : Os) (started : os.Started) (H : Type) (enc : TypeId × Value → H) :
    ReturnsInHanded {} Try.checked os 3 .any (Rows.fnHandsMeetOfAllSpec.pre6 enc Try.prog Try.f3 Rows.fnHandsMeetOfAllRow.domain false) (Rows.fnHandsMeetOfAllSpec.post enc Try.prog Try.f3 false true false false) := by
  refine returnsInHanded_of_change_sized (C := Try.checked) own started (by kernel_rfl) Try.func3
    (ChangeSpec.witness6 (enc := enc) (C := Try.checked) false ⟨#[], #[.agg #[.int .i64 0, .int .i64 0, .int .i64 0], .agg #[.int .i64 0, .int .i64 0, .int .i64 0], .agg #[.int .i64 0, .int .i64 0, .int .i64 0], .agg #[.int .i64 0, .int .i64 0, .int .i64 0], .agg #[.int .i64 0, .int .i64 0]], []⟩ 8 (by kernel_rfl) (by kernel_rfl) (by kernel_rfl) (by kernel_rfl)) ?_
  intro W base args ds gs before hval0 hW hcnd hsz0 _
  have hsz : (DataW.weightsEach Try.prog (Try.f3.params.toList ++ Rows.fnHandsMeetOfAllSpec.plain.varTypes Try.prog) (ds ++ gs)).all (· ≤ reachBytes) = true := hsz0
  have hval : ∀ (j : Nat) t v, Try.f3.params[j]? = some t → args[j]? = some v → Value.okWide Try.prog W .any base t v := hval0
  have hW' := hW
  obtain ⟨p, q, hA0, hV, rfl, hfz, hnd⟩ := hW
  have hA : DataW.TrodAll enc Try.prog W 0 (fun _ => true) true Try.f3.params.toList args.toList ds p := hA0
  rw [Try.params3] at hA hval hsz
  obtain ⟨v0, vs0, d0, ds0, p0, q0, hargs, rfl, rfl, h0, r0⟩ := trodAll_cons hA
  obtain ⟨v1, vs1, d1, ds1, p1, q1, rfl, rfl, rfl, h1, r1⟩ := trodAll_cons r0
  obtain ⟨v2, vs2, d2, ds2, p2, q2, rfl, rfl, rfl, h2, r2⟩ := trodAll_cons r1
  obtain ⟨v3, vs3, d3, ds3, p3, q3, rfl, rfl, rfl, h3, r3⟩ := trodAll_cons r2
  obtain ⟨v4, vs4, d4, ds4, p4, q4, rfl, rfl, rfl, h4, r4⟩ := trodAll_cons r3
  obtain ⟨rfl, rfl, rfl⟩ := trodAll_nil r4
  obtain rfl : args = #[v0, v1, v2, v3, v4] := by cases args; simp_all
  obtain ⟨rfl, rfl⟩ := trodVars_none hV
  have k0 := h0
  have lt0 : ∀ x ∈ p0, x.block < W.heap.size := by obtain ⟨m, hm⟩ := k0; exact DataW.trod_lt m _ _ _ hm
  obtain ⟨a0_0, a0_1, a0_2, rfl, w0_0, w0_1, w0_2⟩ := open_t25 (hval 0 25 v0 rfl rfl) h0
  have k1 := h1
  have lt1 : ∀ x ∈ p1, x.block < W.heap.size := by obtain ⟨m, hm⟩ := k1; exact DataW.trod_lt m _ _ _ hm
  obtain ⟨a1_0, a1_1, a1_2, rfl, w1_0, w1_1, w1_2⟩ := open_t25 (hval 1 25 v1 rfl rfl) h1
  have k2 := h2
  have lt2 : ∀ x ∈ p2, x.block < W.heap.size := by obtain ⟨m, hm⟩ := k2; exact DataW.trod_lt m _ _ _ hm
  obtain ⟨a2_0, a2_1, a2_2, rfl, w2_0, w2_1, w2_2⟩ := open_t25 (hval 2 25 v2 rfl rfl) h2
  have k3 := h3
  have lt3 : ∀ x ∈ p3, x.block < W.heap.size := by obtain ⟨m, hm⟩ := k3; exact DataW.trod_lt m _ _ _ hm
  obtain ⟨a3_0, a3_1, a3_2, rfl, w3_0, w3_1, w3_2⟩ := open_t25 (hval 3 25 v3 rfl rfl) h3
  have k4 := h4
  have lt4 : ∀ x ∈ p4, x.block < W.heap.size := by obtain ⟨m, hm⟩ := k4; exact DataW.trod_lt m _ _ _ hm
  obtain ⟨a4_0, a4_1, rfl, w4_0, w4_1⟩ := open_t23 (hval 4 23 v4 rfl rfl) h4
  clear hA0 hval0 hsz0 hsz
  refine (PFnHandsMeetOfAll.laws_FnHandsMeetOfAll.walk Pure.FnHandsMeetOfAll a0_0 a0_1 a0_2 a1_0 a1_1 a1_2 a2_0 a2_1 a2_2 a3_0 a3_1 a3_2 a4_0 a4_1 W w0_0 w0_1 w0_2 w1_0 w1_1 w1_2 w2_0 w2_1 w2_2 w3_0 w3_1 w3_2 w4_0 w4_1).mono fun e W' ⟨he, bel⟩ => ?_
  subst he
  exact ⟨_, rfl, _, _, _, [], _, [], hW', trodAll_mk1 (shut_bool Try.underlying4 _), (trodAll_cons_mk (Below.trod laidOut (by kernel_rfl) (of_decide_eq_true (by kernel_rfl)) k0 bel lt0) (trodAll_cons_mk (Below.trod laidOut (by kernel_rfl) (of_decide_eq_true (by kernel_rfl)) k1 bel lt1) (trodAll_cons_mk (Below.trod laidOut (by kernel_rfl) (of_decide_eq_true (by kernel_rfl)) k2 bel lt2) (trodAll_cons_mk (Below.trod laidOut (by kernel_rfl) (of_decide_eq_true (by kernel_rfl)) k3 bel lt3) (trodAll_cons_mk (Below.trod laidOut (by kernel_rfl) (of_decide_eq_true (by kernel_rfl)) k4 bel lt4) trodAll_mk0))))), rfl, bel.frame _, fun h => by cases h⟩
theorem over : Rows.fnHandsMeetOfAllRow.holds Try.pinned (OpenSpec.ofChange Rows.fnHandsMeetOfAllSpec) :=
  OpenClaim.holds_of_wide 3 Try.f3 rfl rfl rfl rfl rfl rfl rfl ⟨rfl, rfl, rfl, rfl, rfl⟩ rfl rfl rfl rfl rfl (by kernel_rfl) Try.func3 (by kernel_rfl)
    (of_decide_eq_true (by kernel_rfl)) (by unfold Func.isWrapper; first | (rw [if_pos (by decide +kernel)]; kernel_rfl) | (rw [if_neg (by decide +kernel)]; exact ⟨rfl, rfl⟩))
    (fun os started H enc _ => lifted os started H enc)
theorem proved : Rows.FnHandsMeetOfAllSaid := over
#print axioms proved
end Go.Proofs.Ytbgklddlcmgakaa.fnHandsMeetOfAll
namespace Go.Proofs.Ytbgklddlcmgakaa
/-- The row, under a short name, for the claim. -/
theorem fnHandsMeetOfAll_holds : Rows.FnHandsMeetOfAllSaid := fnHandsMeetOfAll.proved
end Go.Proofs.Ytbgklddlcmgakaa
