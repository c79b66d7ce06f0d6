/-
  No cell of these rows narrows 'for every input' (looked for: loops, veiled, ifaces, maps, wideKeys, modest, calm, conditions, laid).
  DERIVED. THE GIVEN ROWS OF THIS SEAT. 11 by the template 'for every input the law returns true; each argument reads behind the call as it read before'; 0 by the template 'total and deterministic' (their statements: YtkhlbicmlpbadaaTotals.lean).
  GIVEN WITH THE SEED: the statements are not yours to turn. If you find one false, say at which input.
  Laid BY PROGRAM, IN A SANDBOX (cutbox-rows.mjs): the forced cells as the released guide's own fill.sh prints them over the translation e3b4adcd9c2c6b69… (all of the seat's roots in one cut). By AI agents, Wed Nov 11 2026. No macro, syntax, notation, axiom, sorry.
-/
import Derived.Test.YtkhlbicmlpbadaaChecked
import GoSem.Claim
import GoSem.ClaimJoined
import GoSem.ClaimMapViews
import Derived.JoinedTies
import Derived.KernelRfl
namespace Go.Proofs.Ytkhlbicmlpbadaa
/- THE CELL 'sum', in the pinned program and in every row, IS THE sha256 OF THE DUMP (.gsa) THAT YtkhlbicmlpbadaaProg.lean LOADS. Nothing in Lean hashes anything: it is a label: what it is worth is what the hold of that sum in a sandbox is worth. -/
noncomputable def Try.pinned : Pinned := { name := "ytkhlbicmlpbadaa", sum := "e3b4adcd9c2c6b694427f08bf7aa55927185a3c7f2e9e4ff3a41042ff8ebbda2", checked := Try.checked }
namespace Rows
def none {H : Type} : Left H := { results := [], args := [] }

/-- 'laws.FnHandsMeetOfAll': WHATEVER THE INPUT: true; the input reads as it did. -/
def fnHandsMeetOfAllSpec : ChangeSpec := { name := "fnHandsMeetOfAll", fn := fun _ => fun
  | [d1, d2, d3, d4, d5] => { results := [.lit (.bool true)], args := [d1, d2, d3, d4, d5] }
  | _ => none }
def fnHandsMeetOfAllRow : OpenClaim := { program := "ytkhlbicmlpbadaa", sum := "e3b4adcd9c2c6b694427f08bf7aa55927185a3c7f2e9e4ff3a41042ff8ebbda2", func := "loop.example/g01241/laws.FnHandsMeetOfAll", spec := "fnHandsMeetOfAll", unfollowed := true, recurses := true, apart := false }
def FnHandsMeetOfAllSaid : Prop := fnHandsMeetOfAllRow.holds Try.pinned (OpenSpec.ofChange fnHandsMeetOfAllSpec)

/-- ITS FALSE NEIGHBOUR: 'it returns false'. Refute it at one input. -/
def fnHandsMeetOfAllWrong : ChangeSpec := { name := "fnHandsMeetOfAll", fn := fun _ => fun
  | [d1, d2, d3, d4, d5] => { results := [.lit (.bool false)], args := [d1, d2, d3, d4, d5] }
  | _ => none }
def FnHandsMeetOfAllWrongFalsely : Prop := fnHandsMeetOfAllRow.holds Try.pinned (OpenSpec.ofChange fnHandsMeetOfAllWrong)

/-- 'laws.FnExactMakeSpan': WHATEVER THE INPUT: true; the input reads as it did. -/
def fnExactMakeSpanSpec : ChangeSpec := { name := "fnExactMakeSpan", fn := fun _ => fun
  | [d1, d2] => { results := [.lit (.bool true)], args := [d1, d2] }
  | _ => none }
def fnExactMakeSpanRow : OpenClaim := { program := "ytkhlbicmlpbadaa", sum := "e3b4adcd9c2c6b694427f08bf7aa55927185a3c7f2e9e4ff3a41042ff8ebbda2", func := "loop.example/g01241/laws.FnExactMakeSpan", spec := "fnExactMakeSpan", apart := false }
def FnExactMakeSpanSaid : Prop := fnExactMakeSpanRow.holds Try.pinned (OpenSpec.ofChange fnExactMakeSpanSpec)

/-- ITS FALSE NEIGHBOUR: 'it returns false'. Refute it at one input. -/
def fnExactMakeSpanWrong : ChangeSpec := { name := "fnExactMakeSpan", fn := fun _ => fun
  | [d1, d2] => { results := [.lit (.bool false)], args := [d1, d2] }
  | _ => none }
def FnExactMakeSpanWrongFalsely : Prop := fnExactMakeSpanRow.holds Try.pinned (OpenSpec.ofChange fnExactMakeSpanWrong)

/-- 'laws.FnExactHourOf': WHATEVER THE INPUT: true; the input reads as it did. -/
def fnExactHourOfSpec : ChangeSpec := { name := "fnExactHourOf", fn := fun _ => fun
  | [d1, d2] => { results := [.lit (.bool true)], args := [d1, d2] }
  | _ => none }
def fnExactHourOfRow : OpenClaim := { program := "ytkhlbicmlpbadaa", sum := "e3b4adcd9c2c6b694427f08bf7aa55927185a3c7f2e9e4ff3a41042ff8ebbda2", func := "loop.example/g01241/laws.FnExactHourOf", spec := "fnExactHourOf", apart := false }
def FnExactHourOfSaid : Prop := fnExactHourOfRow.holds Try.pinned (OpenSpec.ofChange fnExactHourOfSpec)

/-- ITS FALSE NEIGHBOUR: 'it returns false'. Refute it at one input. -/
def fnExactHourOfWrong : ChangeSpec := { name := "fnExactHourOf", fn := fun _ => fun
  | [d1, d2] => { results := [.lit (.bool false)], args := [d1, d2] }
  | _ => none }
def FnExactHourOfWrongFalsely : Prop := fnExactHourOfRow.holds Try.pinned (OpenSpec.ofChange fnExactHourOfWrong)

/-- 'laws.FnExactMinuteOf': WHATEVER THE INPUT: true; the input reads as it did. -/
def fnExactMinuteOfSpec : ChangeSpec := { name := "fnExactMinuteOf", fn := fun _ => fun
  | [d1, d2] => { results := [.lit (.bool true)], args := [d1, d2] }
  | _ => none }
def fnExactMinuteOfRow : OpenClaim := { program := "ytkhlbicmlpbadaa", sum := "e3b4adcd9c2c6b694427f08bf7aa55927185a3c7f2e9e4ff3a41042ff8ebbda2", func := "loop.example/g01241/laws.FnExactMinuteOf", spec := "fnExactMinuteOf", apart := false }
def FnExactMinuteOfSaid : Prop := fnExactMinuteOfRow.holds Try.pinned (OpenSpec.ofChange fnExactMinuteOfSpec)

/-- ITS FALSE NEIGHBOUR: 'it returns false'. Refute it at one input. -/
def fnExactMinuteOfWrong : ChangeSpec := { name := "fnExactMinuteOf", fn := fun _ => fun
  | [d1, d2] => { results := [.lit (.bool false)], args := [d1, d2] }
  | _ => none }
def FnExactMinuteOfWrongFalsely : Prop := fnExactMinuteOfRow.holds Try.pinned (OpenSpec.ofChange fnExactMinuteOfWrong)

/-- 'laws.FnExactTimeOf': WHATEVER THE INPUT: true; the input reads as it did. -/
def fnExactTimeOfSpec : ChangeSpec := { name := "fnExactTimeOf", fn := fun _ => fun
  | [d1, d2, d3, d4] => { results := [.lit (.bool true)], args := [d1, d2, d3, d4] }
  | _ => none }
def fnExactTimeOfRow : OpenClaim := { program := "ytkhlbicmlpbadaa", sum := "e3b4adcd9c2c6b694427f08bf7aa55927185a3c7f2e9e4ff3a41042ff8ebbda2", func := "loop.example/g01241/laws.FnExactTimeOf", spec := "fnExactTimeOf", apart := false }
def FnExactTimeOfSaid : Prop := fnExactTimeOfRow.holds Try.pinned (OpenSpec.ofChange fnExactTimeOfSpec)

/-- ITS FALSE NEIGHBOUR: 'it returns false'. Refute it at one input. -/
def fnExactTimeOfWrong : ChangeSpec := { name := "fnExactTimeOf", fn := fun _ => fun
  | [d1, d2, d3, d4] => { results := [.lit (.bool false)], args := [d1, d2, d3, d4] }
  | _ => none }
def FnExactTimeOfWrongFalsely : Prop := fnExactTimeOfRow.holds Try.pinned (OpenSpec.ofChange fnExactTimeOfWrong)

/-- 'laws.FnExactAddSpans': WHATEVER THE INPUT: true; the input reads as it did. -/
def fnExactAddSpansSpec : ChangeSpec := { name := "fnExactAddSpans", fn := fun _ => fun
  | [d1, d2] => { results := [.lit (.bool true)], args := [d1, d2] }
  | _ => none }
def fnExactAddSpansRow : OpenClaim := { program := "ytkhlbicmlpbadaa", sum := "e3b4adcd9c2c6b694427f08bf7aa55927185a3c7f2e9e4ff3a41042ff8ebbda2", func := "loop.example/g01241/laws.FnExactAddSpans", spec := "fnExactAddSpans", apart := false }
def FnExactAddSpansSaid : Prop := fnExactAddSpansRow.holds Try.pinned (OpenSpec.ofChange fnExactAddSpansSpec)

/-- ITS FALSE NEIGHBOUR: 'it returns false'. Refute it at one input. -/
def fnExactAddSpansWrong : ChangeSpec := { name := "fnExactAddSpans", fn := fun _ => fun
  | [d1, d2] => { results := [.lit (.bool false)], args := [d1, d2] }
  | _ => none }
def FnExactAddSpansWrongFalsely : Prop := fnExactAddSpansRow.holds Try.pinned (OpenSpec.ofChange fnExactAddSpansWrong)

/-- 'laws.FnExactCommonSpan': WHATEVER THE INPUT: true; the input reads as it did. -/
def fnExactCommonSpanSpec : ChangeSpec := { name := "fnExactCommonSpan", fn := fun _ => fun
  | [d1, d2] => { results := [.lit (.bool true)], args := [d1, d2] }
  | _ => none }
def fnExactCommonSpanRow : OpenClaim := { program := "ytkhlbicmlpbadaa", sum := "e3b4adcd9c2c6b694427f08bf7aa55927185a3c7f2e9e4ff3a41042ff8ebbda2", func := "loop.example/g01241/laws.FnExactCommonSpan", spec := "fnExactCommonSpan", apart := false }
def FnExactCommonSpanSaid : Prop := fnExactCommonSpanRow.holds Try.pinned (OpenSpec.ofChange fnExactCommonSpanSpec)

/-- ITS FALSE NEIGHBOUR: 'it returns false'. Refute it at one input. -/
def fnExactCommonSpanWrong : ChangeSpec := { name := "fnExactCommonSpan", fn := fun _ => fun
  | [d1, d2] => { results := [.lit (.bool false)], args := [d1, d2] }
  | _ => none }
def FnExactCommonSpanWrongFalsely : Prop := fnExactCommonSpanRow.holds Try.pinned (OpenSpec.ofChange fnExactCommonSpanWrong)

/-- 'laws.FnExactMakeTurn': WHATEVER THE INPUT: true; the input reads as it did. -/
def fnExactMakeTurnSpec : ChangeSpec := { name := "fnExactMakeTurn", fn := fun _ => fun
  | [d1, d2] => { results := [.lit (.bool true)], args := [d1, d2] }
  | _ => none }
def fnExactMakeTurnRow : OpenClaim := { program := "ytkhlbicmlpbadaa", sum := "e3b4adcd9c2c6b694427f08bf7aa55927185a3c7f2e9e4ff3a41042ff8ebbda2", func := "loop.example/g01241/laws.FnExactMakeTurn", spec := "fnExactMakeTurn", apart := false }
def FnExactMakeTurnSaid : Prop := fnExactMakeTurnRow.holds Try.pinned (OpenSpec.ofChange fnExactMakeTurnSpec)

/-- ITS FALSE NEIGHBOUR: 'it returns false'. Refute it at one input. -/
def fnExactMakeTurnWrong : ChangeSpec := { name := "fnExactMakeTurn", fn := fun _ => fun
  | [d1, d2] => { results := [.lit (.bool false)], args := [d1, d2] }
  | _ => none }
def FnExactMakeTurnWrongFalsely : Prop := fnExactMakeTurnRow.holds Try.pinned (OpenSpec.ofChange fnExactMakeTurnWrong)

/-- 'laws.FnExactCompareSpans': WHATEVER THE INPUT: true; the input reads as it did. -/
def fnExactCompareSpansSpec : ChangeSpec := { name := "fnExactCompareSpans", fn := fun _ => fun
  | [d1, d2] => { results := [.lit (.bool true)], args := [d1, d2] }
  | _ => none }
def fnExactCompareSpansRow : OpenClaim := { program := "ytkhlbicmlpbadaa", sum := "e3b4adcd9c2c6b694427f08bf7aa55927185a3c7f2e9e4ff3a41042ff8ebbda2", func := "loop.example/g01241/laws.FnExactCompareSpans", spec := "fnExactCompareSpans", apart := false }
def FnExactCompareSpansSaid : Prop := fnExactCompareSpansRow.holds Try.pinned (OpenSpec.ofChange fnExactCompareSpansSpec)

/-- ITS FALSE NEIGHBOUR: 'it returns false'. Refute it at one input. -/
def fnExactCompareSpansWrong : ChangeSpec := { name := "fnExactCompareSpans", fn := fun _ => fun
  | [d1, d2] => { results := [.lit (.bool false)], args := [d1, d2] }
  | _ => none }
def FnExactCompareSpansWrongFalsely : Prop := fnExactCompareSpansRow.holds Try.pinned (OpenSpec.ofChange fnExactCompareSpansWrong)

/-- 'laws.FnExactCountMeets': WHATEVER THE INPUT: true; the input reads as it did. -/
def fnExactCountMeetsSpec : ChangeSpec := { name := "fnExactCountMeets", fn := fun _ => fun
  | [d1, d2] => { results := [.lit (.bool true)], args := [d1, d2] }
  | _ => none }
def fnExactCountMeetsRow : OpenClaim := { program := "ytkhlbicmlpbadaa", sum := "e3b4adcd9c2c6b694427f08bf7aa55927185a3c7f2e9e4ff3a41042ff8ebbda2", func := "loop.example/g01241/laws.FnExactCountMeets", spec := "fnExactCountMeets", unfollowed := true, recurses := true, apart := false }
def FnExactCountMeetsSaid : Prop := fnExactCountMeetsRow.holds Try.pinned (OpenSpec.ofChange fnExactCountMeetsSpec)

/-- ITS FALSE NEIGHBOUR: 'it returns false'. Refute it at one input. -/
def fnExactCountMeetsWrong : ChangeSpec := { name := "fnExactCountMeets", fn := fun _ => fun
  | [d1, d2] => { results := [.lit (.bool false)], args := [d1, d2] }
  | _ => none }
def FnExactCountMeetsWrongFalsely : Prop := fnExactCountMeetsRow.holds Try.pinned (OpenSpec.ofChange fnExactCountMeetsWrong)

/-- 'laws.FnExactHandsOfDial': WHATEVER THE INPUT: true; the input reads as it did. -/
def fnExactHandsOfDialSpec : ChangeSpec := { name := "fnExactHandsOfDial", fn := fun _ => fun
  | [d] => { results := [.lit (.bool true)], args := [d] }
  | _ => none }
def fnExactHandsOfDialRow : OpenClaim := { program := "ytkhlbicmlpbadaa", sum := "e3b4adcd9c2c6b694427f08bf7aa55927185a3c7f2e9e4ff3a41042ff8ebbda2", func := "loop.example/g01241/laws.FnExactHandsOfDial", spec := "fnExactHandsOfDial", apart := false }
def FnExactHandsOfDialSaid : Prop := fnExactHandsOfDialRow.holds Try.pinned (OpenSpec.ofChange fnExactHandsOfDialSpec)

/-- ITS FALSE NEIGHBOUR: 'it returns false'. Refute it at one input. -/
def fnExactHandsOfDialWrong : ChangeSpec := { name := "fnExactHandsOfDial", fn := fun _ => fun
  | [d] => { results := [.lit (.bool false)], args := [d] }
  | _ => none }
def FnExactHandsOfDialWrongFalsely : Prop := fnExactHandsOfDialRow.holds Try.pinned (OpenSpec.ofChange fnExactHandsOfDialWrong)

/- THE SECOND FORM. 'bulk': how many values and letters a reading holds, each counted each time it is reached (what is shared counts as often as it is met; a slice's spare places count too). A statement '..UptoSaid' is the law's where the arguments, and the package variables that the reading takes, are together of bulk at most 1048576: NARROWER than '..Said'. Prove '..Said' where nothing that the law and all that it calls make is longer than what came in: it says more and counts as full. Else prove '..UptoSaid'. A law counts once. -/
mutual
def uptoBulk {H : Type} : DataW H → Nat
  | .lit (.string bytes) => bytes.length + 1
  | .lit _ => 1
  | .nil => 1
  | .ptr d => uptoBulk d + 1
  | .slice elems spare => uptoBulkAll elems + uptoBulkAll spare + 1
  | .agg parts => uptoBulkAll parts + 1
  | .iface _ d => uptoBulk d + 1
  | .map entries => uptoBulkEntries entries + 1
  | .held _ => 1
def uptoBulkAll {H : Type} : List (DataW H) → Nat
  | [] => 0
  | d :: r => uptoBulk d + uptoBulkAll r
def uptoBulkEntries {H : Type} : List (Lit × DataW H) → Nat
  | [] => 0
  | x :: r => uptoBulkEntry x + uptoBulkEntries r
def uptoBulkEntry {H : Type} : Lit × DataW H → Nat
  | (.string bytes, d) => bytes.length + uptoBulk d + 1
  | (_, d) => uptoBulk d + 1
 end
def uptoSmall : (H : Type) → List (DataW H) → Bool := fun _ ds => decide (uptoBulkAll ds ≤ 1048576)
def OpenSpec.upto (s : _root_.Go.ChangeSpec) : _root_.Go.OpenSpec := { _root_.Go.OpenSpec.ofChange s with cond := some uptoSmall }

/-- 'laws.FnHandsMeetOfAll', WHERE WHAT IT READS IS OF BULK AT MOST 1048576: true; the input reads as it did. -/
def fnHandsMeetOfAllUptoRow : OpenClaim := { program := "ytkhlbicmlpbadaa", sum := "e3b4adcd9c2c6b694427f08bf7aa55927185a3c7f2e9e4ff3a41042ff8ebbda2", func := "loop.example/g01241/laws.FnHandsMeetOfAll", spec := "fnHandsMeetOfAll", unfollowed := true, recurses := true, apart := false, narrowed := true }
def FnHandsMeetOfAllUptoSaid : Prop := fnHandsMeetOfAllUptoRow.holds Try.pinned (OpenSpec.upto fnHandsMeetOfAllSpec)

/-- 'laws.FnExactMakeSpan', WHERE WHAT IT READS IS OF BULK AT MOST 1048576: true; the input reads as it did. -/
def fnExactMakeSpanUptoRow : OpenClaim := { program := "ytkhlbicmlpbadaa", sum := "e3b4adcd9c2c6b694427f08bf7aa55927185a3c7f2e9e4ff3a41042ff8ebbda2", func := "loop.example/g01241/laws.FnExactMakeSpan", spec := "fnExactMakeSpan", apart := false, narrowed := true }
def FnExactMakeSpanUptoSaid : Prop := fnExactMakeSpanUptoRow.holds Try.pinned (OpenSpec.upto fnExactMakeSpanSpec)

/-- 'laws.FnExactHourOf', WHERE WHAT IT READS IS OF BULK AT MOST 1048576: true; the input reads as it did. -/
def fnExactHourOfUptoRow : OpenClaim := { program := "ytkhlbicmlpbadaa", sum := "e3b4adcd9c2c6b694427f08bf7aa55927185a3c7f2e9e4ff3a41042ff8ebbda2", func := "loop.example/g01241/laws.FnExactHourOf", spec := "fnExactHourOf", apart := false, narrowed := true }
def FnExactHourOfUptoSaid : Prop := fnExactHourOfUptoRow.holds Try.pinned (OpenSpec.upto fnExactHourOfSpec)

/-- 'laws.FnExactMinuteOf', WHERE WHAT IT READS IS OF BULK AT MOST 1048576: true; the input reads as it did. -/
def fnExactMinuteOfUptoRow : OpenClaim := { program := "ytkhlbicmlpbadaa", sum := "e3b4adcd9c2c6b694427f08bf7aa55927185a3c7f2e9e4ff3a41042ff8ebbda2", func := "loop.example/g01241/laws.FnExactMinuteOf", spec := "fnExactMinuteOf", apart := false, narrowed := true }
def FnExactMinuteOfUptoSaid : Prop := fnExactMinuteOfUptoRow.holds Try.pinned (OpenSpec.upto fnExactMinuteOfSpec)

/-- 'laws.FnExactTimeOf', WHERE WHAT IT READS IS OF BULK AT MOST 1048576: true; the input reads as it did. -/
def fnExactTimeOfUptoRow : OpenClaim := { program := "ytkhlbicmlpbadaa", sum := "e3b4adcd9c2c6b694427f08bf7aa55927185a3c7f2e9e4ff3a41042ff8ebbda2", func := "loop.example/g01241/laws.FnExactTimeOf", spec := "fnExactTimeOf", apart := false, narrowed := true }
def FnExactTimeOfUptoSaid : Prop := fnExactTimeOfUptoRow.holds Try.pinned (OpenSpec.upto fnExactTimeOfSpec)

/-- 'laws.FnExactAddSpans', WHERE WHAT IT READS IS OF BULK AT MOST 1048576: true; the input reads as it did. -/
def fnExactAddSpansUptoRow : OpenClaim := { program := "ytkhlbicmlpbadaa", sum := "e3b4adcd9c2c6b694427f08bf7aa55927185a3c7f2e9e4ff3a41042ff8ebbda2", func := "loop.example/g01241/laws.FnExactAddSpans", spec := "fnExactAddSpans", apart := false, narrowed := true }
def FnExactAddSpansUptoSaid : Prop := fnExactAddSpansUptoRow.holds Try.pinned (OpenSpec.upto fnExactAddSpansSpec)

/-- 'laws.FnExactCommonSpan', WHERE WHAT IT READS IS OF BULK AT MOST 1048576: true; the input reads as it did. -/
def fnExactCommonSpanUptoRow : OpenClaim := { program := "ytkhlbicmlpbadaa", sum := "e3b4adcd9c2c6b694427f08bf7aa55927185a3c7f2e9e4ff3a41042ff8ebbda2", func := "loop.example/g01241/laws.FnExactCommonSpan", spec := "fnExactCommonSpan", apart := false, narrowed := true }
def FnExactCommonSpanUptoSaid : Prop := fnExactCommonSpanUptoRow.holds Try.pinned (OpenSpec.upto fnExactCommonSpanSpec)

/-- 'laws.FnExactMakeTurn', WHERE WHAT IT READS IS OF BULK AT MOST 1048576: true; the input reads as it did. -/
def fnExactMakeTurnUptoRow : OpenClaim := { program := "ytkhlbicmlpbadaa", sum := "e3b4adcd9c2c6b694427f08bf7aa55927185a3c7f2e9e4ff3a41042ff8ebbda2", func := "loop.example/g01241/laws.FnExactMakeTurn", spec := "fnExactMakeTurn", apart := false, narrowed := true }
def FnExactMakeTurnUptoSaid : Prop := fnExactMakeTurnUptoRow.holds Try.pinned (OpenSpec.upto fnExactMakeTurnSpec)

/-- 'laws.FnExactCompareSpans', WHERE WHAT IT READS IS OF BULK AT MOST 1048576: true; the input reads as it did. -/
def fnExactCompareSpansUptoRow : OpenClaim := { program := "ytkhlbicmlpbadaa", sum := "e3b4adcd9c2c6b694427f08bf7aa55927185a3c7f2e9e4ff3a41042ff8ebbda2", func := "loop.example/g01241/laws.FnExactCompareSpans", spec := "fnExactCompareSpans", apart := false, narrowed := true }
def FnExactCompareSpansUptoSaid : Prop := fnExactCompareSpansUptoRow.holds Try.pinned (OpenSpec.upto fnExactCompareSpansSpec)

/-- 'laws.FnExactCountMeets', WHERE WHAT IT READS IS OF BULK AT MOST 1048576: true; the input reads as it did. -/
def fnExactCountMeetsUptoRow : OpenClaim := { program := "ytkhlbicmlpbadaa", sum := "e3b4adcd9c2c6b694427f08bf7aa55927185a3c7f2e9e4ff3a41042ff8ebbda2", func := "loop.example/g01241/laws.FnExactCountMeets", spec := "fnExactCountMeets", unfollowed := true, recurses := true, apart := false, narrowed := true }
def FnExactCountMeetsUptoSaid : Prop := fnExactCountMeetsUptoRow.holds Try.pinned (OpenSpec.upto fnExactCountMeetsSpec)

/-- 'laws.FnExactHandsOfDial', WHERE WHAT IT READS IS OF BULK AT MOST 1048576: true; the input reads as it did. -/
def fnExactHandsOfDialUptoRow : OpenClaim := { program := "ytkhlbicmlpbadaa", sum := "e3b4adcd9c2c6b694427f08bf7aa55927185a3c7f2e9e4ff3a41042ff8ebbda2", func := "loop.example/g01241/laws.FnExactHandsOfDial", spec := "fnExactHandsOfDial", apart := false, narrowed := true }
def FnExactHandsOfDialUptoSaid : Prop := fnExactHandsOfDialUptoRow.holds Try.pinned (OpenSpec.upto fnExactHandsOfDialSpec)

end Rows
end Go.Proofs.Ytkhlbicmlpbadaa
