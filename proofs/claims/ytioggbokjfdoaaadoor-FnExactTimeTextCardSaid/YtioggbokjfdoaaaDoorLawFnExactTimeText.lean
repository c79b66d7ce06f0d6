/-
The row of TimeText, and its card. The library's table of powers of ten reads as the row lists it; strconv.Itoa asks for no more.
-/
import Derived.Test.YtioggbokjfdoaaaDoorCards
import Derived.Test.YtioggbokjfdoaaaDoorTie
import Derived.Test.YtioggbokjfdoaaaDoorPFnExactTimeTextx4
import Derived.Test.YtioggbokjfdoaaaDoorPureFnExactTimeText
import Derived.Deep.Slices
import Derived.Lib.SmallJoins
import Derived.Lib.LaidTab
import Derived.WalkKit
import Derived.ProofKit
import Derived.OpenShut
import Derived.LaidMore
import Derived.LaidSub
import Derived.Below
import Derived.Stop.Joined
import Derived.SevenTiedAt
namespace Go.Proofs.YtioggbokjfdoaaaDoor.fnExactTimeText
open Go.ChangeShapes Go.WideShapes Go.ChangeAt Go.RowKit
set_option linter.unusedVariables false
theorem own : ownKnob Tryd.prog.godebug = none := by kernel_rfl
theorem laidOut : laidOutB Tryd.prog = true := by kernel_rfl
theorem gT : Tryd.prog.globalNamed "internal/strconv.uint64pow10" = some 0 := by kernel_rfl
theorem gTType : (Tryd.prog.globals[0]?).map (·.type) = some 54 := by kernel_rfl
abbrev lays : List (String × DataW Unit) := [("math/bits.deBruijn32tab", Rows.laid_math_bits_deBruijn32tab), ("math/bits.deBruijn64tab", Rows.laid_math_bits_deBruijn64tab), ("internal/strconv.uint64pow10", Rows.laid_internal_strconv_uint64pow10)]
theorem door_met (os : Os) (args : Array Value) : laidMetH Tryd.prog lays ((World.doorLaid Tryd.prog 400 os).forCall (fun _ _ => 0) ⟨#[], args, []⟩).memory :=
  laidMetH_of_parts3 (fuel := 8) (laidMet_of_run' 8 (by kernel_rfl) (by kernel_rfl)) (by kernel_rfl) (by kernel_rfl)
theorem tab_of {W : World} (h : laidMetH Tryd.prog lays W) : Lib.TabIs Tryd.prog W "internal/strconv.uint64pow10" .u64 Lib.pow10Tab := by
  have h1 := laidMetH.filter (fun x => x.1 == "internal/strconv.uint64pow10") h
  rw [MakeChecks.laidMetH_plain _ _ _ (by kernel_rfl)] at h1
  have e : lays.filter (fun x => x.1 == "internal/strconv.uint64pow10") = [("internal/strconv.uint64pow10", Lib.tabData .u64 Lib.pow10Tab)] := by kernel_rfl
  rw [e] at h1
  exact Lib.tabIs_of_head gT gTType Tryd.underlying54 Tryd.underlying47 (by kernel_rfl) (by kernel_rfl) h1
set_option maxRecDepth 100000 in
theorem open_t23 {H : Type} {enc : TypeId × Value → H} {W : World} {r : Reach} {b0 : Nat} {v : Value} {d : DataW H} {p : List MemPlace} (hv : Value.okWide Tryd.prog W r b0 23 v) (h : DataW.Trod enc Tryd.prog W 0 (fun _ => true) true 23 v d p) :
    ∃ z_c0 z_c1 : Int, v = .agg #[.int .i64 z_c0, .int .i64 z_c1] ∧ (Lit.int .i64 z_c0).wf = true ∧ (Lit.int .i64 z_c1).wf = true := by
  obtain ⟨cs, rfl, hsz⟩ := okWide_struct Tryd.underlying23 hv
  obtain ⟨c0, c1, rfl⟩ := Go.Joins.array2 (hsz.trans (by kernel_rfl : Tryd.prog.cellsOf 23 = 2))
  obtain ⟨fuel, hf⟩ := h
  replace hf : DataW.trod enc Tryd.prog W 0 (fun _ => true) true fuel 23 [c0, c1] = some (d, p) := by simpa [Value.cells] using hf
  obtain ⟨y1_0, y1_1, n1, _, _, f1_0, f1_1⟩ := Go.ChangeShapes.trod_struct2 Tryd.underlying23 hf
  replace f1_0 : DataW.trod enc Tryd.prog W 0 (fun _ => true) true n1 3 [c0] = some y1_0 := by (have c_ : Tryd.prog.cellsOf 3 = 1 := by kernel_rfl); simpa [c_] using f1_0
  obtain ⟨a2, e2, _, wf_c0⟩ := DataW.trod_int Tryd.underlying3 f1_0
  obtain rfl : c0 = .int .i64 a2 := by simpa using e2
  replace f1_1 : DataW.trod enc Tryd.prog W 0 (fun _ => true) true n1 3 [c1] = some y1_1 := by (have c_ : Tryd.prog.cellsOf 3 = 1 := by kernel_rfl); simpa [c_] using f1_1
  obtain ⟨a3, e3, _, wf_c1⟩ := DataW.trod_int Tryd.underlying3 f1_1
  obtain rfl : c1 = .int .i64 a3 := by simpa using e3
  exact ⟨_, _, rfl, wf_c0, wf_c1⟩
set_option maxRecDepth 100000 in
theorem lifted (os : Os) (started : os.Started) (H : Type) (enc : TypeId × Value → H) :
    ReturnsInHanded {} Tryd.checked os 3 .any (fun w args => (Rows.fnExactTimeTextSpec.pre enc Tryd.prog Tryd.f3 [] false w args ∧ laidMetH Tryd.prog lays w) ∧ sizedMet enc Tryd.prog Tryd.f3 (OpenSpec.ofChange Rows.fnExactTimeTextSpec) false w args)
      (Rows.fnExactTimeTextSpec.post enc Tryd.prog Tryd.f3 false true false false) := by
  refine returnsInHanded_of_change_and (C := Tryd.checked) (X := fun w _ => laidMetH Tryd.prog lays w) (fun _ _ _ hh h => h.of_heap hh) own started (by kernel_rfl) Tryd.func3
    (ChangeSpec.witness_shaped (enc := enc) (C := Tryd.checked) (os := os) (X := fun w _ => laidMetH Tryd.prog lays w) false (World.doorLaid Tryd.prog 400 os) #[.int .i64 0, .agg #[.int .i64 0, .int .i64 0]] 8 rfl (World.shaped_of_RefB (by kernel_rfl) (by kernel_rfl)) (by kernel_rfl) (by kernel_rfl) (by kernel_rfl) (door_met os _)) ?_
  intro W base args ds gs before hval0 hW _ _ hL _
  have hval : ∀ (j : Nat) t v, Tryd.f3.params[j]? = some t → args[j]? = some v → Value.okWide Tryd.prog W .any base t v := hval0
  have hW' := hW
  obtain ⟨p, q, hA0, hV, rfl, hfz, hnd⟩ := hW
  have hA : DataW.TrodAll enc Tryd.prog W 0 (fun _ => true) true Tryd.f3.params.toList args.toList ds p := hA0
  rw [Tryd.params3] at hA hval
  obtain ⟨v0, vs0, d0, ds0, p0, q0, hargs, rfl, rfl, h0, r0⟩ := trodAll_cons hA
  obtain ⟨v1, vs1, d1, ds1, p1, q1, rfl, rfl, rfl, h1, r1⟩ := trodAll_cons r0
  obtain ⟨rfl, rfl, rfl⟩ := trodAll_nil r1
  obtain rfl : args = #[v0, v1] := by cases args; simp_all
  obtain ⟨rfl, rfl⟩ := trodVars_none hV
  obtain ⟨a0, rfl, rfl, rfl, w0⟩ := open_int Tryd.underlying3 (hval 0 3 v0 rfl rfl) h0
  have k1 := h1
  have lt1 : ∀ x ∈ p1, x.block < W.heap.size := by obtain ⟨m, hm⟩ := k1; exact DataW.trod_lt m _ _ _ hm
  obtain ⟨a1_0, a1_1, rfl, w1_0, w1_1⟩ := open_t23 (hval 1 23 v1 rfl rfl) h1
  have htab := tab_of hL
  clear hA0 hval0
  refine (PFnExactTimeText.laws_FnExactTimeText.walk Pure.FnExactTimeText a0 a1_0 a1_1 W htab w0 w1_0 w1_1).mono fun e W' ⟨he, bel⟩ => ?_
  subst he
  exact ⟨_, rfl, _, _, _, [], _, [], hW', trodAll_mk1 (shut_bool Tryd.underlying4 _), (trodAll_cons_mk (shut_int Tryd.underlying3 w0) (trodAll_cons_mk (Below.trod laidOut (by kernel_rfl) (of_decide_eq_true (by kernel_rfl)) k1 bel lt1) trodAll_mk0)), rfl, bel.frame _, fun h => by cases h⟩
theorem over : Rows.fnExactTimeTextRow.holds Tryd.pinned (OpenSpec.ofChange Rows.fnExactTimeTextSpec) :=
  OpenClaim.holds_of_wide 3 Tryd.f3 rfl rfl rfl rfl rfl rfl rfl ⟨rfl, rfl, rfl, rfl, rfl⟩ rfl rfl rfl rfl rfl (by kernel_rfl) Tryd.func3 (by kernel_rfl)
    (of_decide_eq_true (by kernel_rfl)) (by unfold Func.isWrapper; first | (rw [if_pos (by decide +kernel)]; kernel_rfl) | (rw [if_neg (by decide +kernel)]; exact ⟨rfl, rfl⟩))
    (fun os started H enc _ => lifted os started H enc)
theorem proved : Rows.FnExactTimeTextSaid := over
/-- THE TIED CARD. -/
theorem card : Rows.FnExactTimeTextCardSaid :=
  Claim7.holds_tied_plain_at .later [] [.data, .data, .data] true (true, "e1df2da6b1950fb1cc1c72fd03a1e7e6952b3fc9763f2724e1dbf45757ae994c") false
    proved (fun _ h => by cases h) (by kernel_rfl) (fun _ h => by cases h) fnExactTimeText_row_tie rfl ⟨rfl, rfl⟩ (by kernel_rfl) rfl
    (fun f fn hf hfn => by
      obtain rfl : f = 3 := Option.some.inj ((show Tryd.prog.funcNamed "loop.example/g01241/laws.FnExactTimeText" = some 3 by kernel_rfl).symm.trans hf) |>.symm
      obtain rfl : fn = Tryd.f3 := (Option.some.inj (Tryd.func3.symm.trans hfn)).symm
      exact ⟨by kernel_rfl, fun j t ht => by
        rw [Tryd.params3] at ht
        have hm : t ∈ [3, 23] := by simpa using Array.mem_of_getElem? ht
        have hall : ([3, 23].all fun u => !Tryd.prog.wantsStandIn u) = true := by kernel_rfl
        exact (show Tryd.prog.wantsStandIn t = false by simpa using List.all_eq_true.1 hall t hm)⟩)
    (by kernel_rfl)
#print axioms card
end Go.Proofs.YtioggbokjfdoaaaDoor.fnExactTimeText
namespace Go.Proofs.YtioggbokjfdoaaaDoor
/-- The card, under a short name, for the claim. -/
theorem fnExactTimeTextCard_holds : Rows.FnExactTimeTextCardSaid := fnExactTimeText.card
end Go.Proofs.YtioggbokjfdoaaaDoor
