/-
  No cell of these rows narrows 'for every input' (looked for: loops, veiled, ifaces, maps, wideKeys, modest, calm, conditions, laid).
  DERIVED. THE GIVEN ROWS OF THIS SEAT. 11 by the template 'for every input the law returns true; each argument reads behind the call as it read before'; 0 by the template 'total and deterministic' (their statements: YtodjlnpopaodoaaTotals.lean).
  GIVEN WITH THE SEED: the statements are not yours to turn. If you find one false, say at which input.
  Laid BY PROGRAM, IN A SANDBOX (cutbox-rows.mjs): the forced cells as the released guide's own fill.sh prints them over the translation a0681906b4ffceaa… (all of the seat's roots in one cut). By AI agents, Wed Nov 11 2026. No macro, syntax, notation, axiom, sorry.
-/
import Derived.Test.YtodjlnpopaodoaaChecked
import GoSem.Claim
import GoSem.ClaimJoined
import GoSem.ClaimMapViews
import Derived.JoinedTies
import Derived.KernelRfl
namespace Go.Proofs.Ytodjlnpopaodoaa
/- THE CELL 'sum', in the pinned program and in every row, IS THE sha256 OF THE DUMP (.gsa) THAT YtodjlnpopaodoaaProg.lean LOADS. Nothing in Lean hashes anything: it is a label: what it is worth is what the hold of that sum in a sandbox is worth. -/
noncomputable def Try.pinned : Pinned := { name := "ytodjlnpopaodoaa", sum := "a0681906b4ffceaaeba62077a547ff233c7cc6cf27dd2176da6423324a4912ee", checked := Try.checked }
namespace Rows
def none {H : Type} : Left H := { results := [], args := [] }

/-- 'laws.FnExactPartOfTurn': WHATEVER THE INPUT: true; the input reads as it did. -/
def fnExactPartOfTurnSpec : ChangeSpec := { name := "fnExactPartOfTurn", fn := fun _ => fun
  | [d1, d2] => { results := [.lit (.bool true)], args := [d1, d2] }
  | _ => none }
def fnExactPartOfTurnRow : OpenClaim := { program := "ytodjlnpopaodoaa", sum := "a0681906b4ffceaaeba62077a547ff233c7cc6cf27dd2176da6423324a4912ee", func := "loop.example/g01241/laws.FnExactPartOfTurn", spec := "fnExactPartOfTurn", apart := false }
def FnExactPartOfTurnSaid : Prop := fnExactPartOfTurnRow.holds Try.pinned (OpenSpec.ofChange fnExactPartOfTurnSpec)

/-- ITS FALSE NEIGHBOUR: 'it returns false'. Refute it at one input. -/
def fnExactPartOfTurnWrong : ChangeSpec := { name := "fnExactPartOfTurn", fn := fun _ => fun
  | [d1, d2] => { results := [.lit (.bool false)], args := [d1, d2] }
  | _ => none }
def FnExactPartOfTurnWrongFalsely : Prop := fnExactPartOfTurnRow.holds Try.pinned (OpenSpec.ofChange fnExactPartOfTurnWrong)

/-- 'laws.FnExactMirrorTurn': WHATEVER THE INPUT: true; the input reads as it did. -/
def fnExactMirrorTurnSpec : ChangeSpec := { name := "fnExactMirrorTurn", fn := fun _ => fun
  | [d] => { results := [.lit (.bool true)], args := [d] }
  | _ => none }
def fnExactMirrorTurnRow : OpenClaim := { program := "ytodjlnpopaodoaa", sum := "a0681906b4ffceaaeba62077a547ff233c7cc6cf27dd2176da6423324a4912ee", func := "loop.example/g01241/laws.FnExactMirrorTurn", spec := "fnExactMirrorTurn", apart := false }
def FnExactMirrorTurnSaid : Prop := fnExactMirrorTurnRow.holds Try.pinned (OpenSpec.ofChange fnExactMirrorTurnSpec)

/-- ITS FALSE NEIGHBOUR: 'it returns false'. Refute it at one input. -/
def fnExactMirrorTurnWrong : ChangeSpec := { name := "fnExactMirrorTurn", fn := fun _ => fun
  | [d] => { results := [.lit (.bool false)], args := [d] }
  | _ => none }
def FnExactMirrorTurnWrongFalsely : Prop := fnExactMirrorTurnRow.holds Try.pinned (OpenSpec.ofChange fnExactMirrorTurnWrong)

/-- 'laws.FnExactAngleOf': WHATEVER THE INPUT: true; the input reads as it did. -/
def fnExactAngleOfSpec : ChangeSpec := { name := "fnExactAngleOf", fn := fun _ => fun
  | [d1, d2] => { results := [.lit (.bool true)], args := [d1, d2] }
  | _ => none }
def fnExactAngleOfRow : OpenClaim := { program := "ytodjlnpopaodoaa", sum := "a0681906b4ffceaaeba62077a547ff233c7cc6cf27dd2176da6423324a4912ee", func := "loop.example/g01241/laws.FnExactAngleOf", spec := "fnExactAngleOf", apart := false }
def FnExactAngleOfSaid : Prop := fnExactAngleOfRow.holds Try.pinned (OpenSpec.ofChange fnExactAngleOfSpec)

/-- ITS FALSE NEIGHBOUR: 'it returns false'. Refute it at one input. -/
def fnExactAngleOfWrong : ChangeSpec := { name := "fnExactAngleOf", fn := fun _ => fun
  | [d1, d2] => { results := [.lit (.bool false)], args := [d1, d2] }
  | _ => none }
def FnExactAngleOfWrongFalsely : Prop := fnExactAngleOfRow.holds Try.pinned (OpenSpec.ofChange fnExactAngleOfWrong)

/-- 'laws.FnExactLongHand': WHATEVER THE INPUT: true; the input reads as it did. -/
def fnExactLongHandSpec : ChangeSpec := { name := "fnExactLongHand", fn := fun _ => fun
  | [d1, d2] => { results := [.lit (.bool true)], args := [d1, d2] }
  | _ => none }
def fnExactLongHandRow : OpenClaim := { program := "ytodjlnpopaodoaa", sum := "a0681906b4ffceaaeba62077a547ff233c7cc6cf27dd2176da6423324a4912ee", func := "loop.example/g01241/laws.FnExactLongHand", spec := "fnExactLongHand", apart := false }
def FnExactLongHandSaid : Prop := fnExactLongHandRow.holds Try.pinned (OpenSpec.ofChange fnExactLongHandSpec)

/-- ITS FALSE NEIGHBOUR: 'it returns false'. Refute it at one input. -/
def fnExactLongHandWrong : ChangeSpec := { name := "fnExactLongHand", fn := fun _ => fun
  | [d1, d2] => { results := [.lit (.bool false)], args := [d1, d2] }
  | _ => none }
def FnExactLongHandWrongFalsely : Prop := fnExactLongHandRow.holds Try.pinned (OpenSpec.ofChange fnExactLongHandWrong)

/-- 'laws.FnExactTimesTurn': WHATEVER THE INPUT: true; the input reads as it did. -/
def fnExactTimesTurnSpec : ChangeSpec := { name := "fnExactTimesTurn", fn := fun _ => fun
  | [d1, d2] => { results := [.lit (.bool true)], args := [d1, d2] }
  | _ => none }
def fnExactTimesTurnRow : OpenClaim := { program := "ytodjlnpopaodoaa", sum := "a0681906b4ffceaaeba62077a547ff233c7cc6cf27dd2176da6423324a4912ee", func := "loop.example/g01241/laws.FnExactTimesTurn", spec := "fnExactTimesTurn", apart := false }
def FnExactTimesTurnSaid : Prop := fnExactTimesTurnRow.holds Try.pinned (OpenSpec.ofChange fnExactTimesTurnSpec)

/-- ITS FALSE NEIGHBOUR: 'it returns false'. Refute it at one input. -/
def fnExactTimesTurnWrong : ChangeSpec := { name := "fnExactTimesTurn", fn := fun _ => fun
  | [d1, d2] => { results := [.lit (.bool false)], args := [d1, d2] }
  | _ => none }
def FnExactTimesTurnWrongFalsely : Prop := fnExactTimesTurnRow.holds Try.pinned (OpenSpec.ofChange fnExactTimesTurnWrong)

/-- 'laws.FnExactSecondOf': WHATEVER THE INPUT: true; the input reads as it did. -/
def fnExactSecondOfSpec : ChangeSpec := { name := "fnExactSecondOf", fn := fun _ => fun
  | [d1, d2] => { results := [.lit (.bool true)], args := [d1, d2] }
  | _ => none }
def fnExactSecondOfRow : OpenClaim := { program := "ytodjlnpopaodoaa", sum := "a0681906b4ffceaaeba62077a547ff233c7cc6cf27dd2176da6423324a4912ee", func := "loop.example/g01241/laws.FnExactSecondOf", spec := "fnExactSecondOf", apart := false }
def FnExactSecondOfSaid : Prop := fnExactSecondOfRow.holds Try.pinned (OpenSpec.ofChange fnExactSecondOfSpec)

/-- ITS FALSE NEIGHBOUR: 'it returns false'. Refute it at one input. -/
def fnExactSecondOfWrong : ChangeSpec := { name := "fnExactSecondOf", fn := fun _ => fun
  | [d1, d2] => { results := [.lit (.bool false)], args := [d1, d2] }
  | _ => none }
def FnExactSecondOfWrongFalsely : Prop := fnExactSecondOfRow.holds Try.pinned (OpenSpec.ofChange fnExactSecondOfWrong)

/-- 'laws.FnExactCompareTurns': WHATEVER THE INPUT: true; the input reads as it did. -/
def fnExactCompareTurnsSpec : ChangeSpec := { name := "fnExactCompareTurns", fn := fun _ => fun
  | [d1, d2] => { results := [.lit (.bool true)], args := [d1, d2] }
  | _ => none }
def fnExactCompareTurnsRow : OpenClaim := { program := "ytodjlnpopaodoaa", sum := "a0681906b4ffceaaeba62077a547ff233c7cc6cf27dd2176da6423324a4912ee", func := "loop.example/g01241/laws.FnExactCompareTurns", spec := "fnExactCompareTurns", unfollowed := true, recurses := true, apart := false }
def FnExactCompareTurnsSaid : Prop := fnExactCompareTurnsRow.holds Try.pinned (OpenSpec.ofChange fnExactCompareTurnsSpec)

/-- ITS FALSE NEIGHBOUR: 'it returns false'. Refute it at one input. -/
def fnExactCompareTurnsWrong : ChangeSpec := { name := "fnExactCompareTurns", fn := fun _ => fun
  | [d1, d2] => { results := [.lit (.bool false)], args := [d1, d2] }
  | _ => none }
def FnExactCompareTurnsWrongFalsely : Prop := fnExactCompareTurnsRow.holds Try.pinned (OpenSpec.ofChange fnExactCompareTurnsWrong)

/-- 'laws.FnExactAddTurns': WHATEVER THE INPUT: true; the input reads as it did. -/
def fnExactAddTurnsSpec : ChangeSpec := { name := "fnExactAddTurns", fn := fun _ => fun
  | [d1, d2] => { results := [.lit (.bool true)], args := [d1, d2] }
  | _ => none }
def fnExactAddTurnsRow : OpenClaim := { program := "ytodjlnpopaodoaa", sum := "a0681906b4ffceaaeba62077a547ff233c7cc6cf27dd2176da6423324a4912ee", func := "loop.example/g01241/laws.FnExactAddTurns", spec := "fnExactAddTurns", unfollowed := true, recurses := true, apart := false }
def FnExactAddTurnsSaid : Prop := fnExactAddTurnsRow.holds Try.pinned (OpenSpec.ofChange fnExactAddTurnsSpec)

/-- ITS FALSE NEIGHBOUR: 'it returns false'. Refute it at one input. -/
def fnExactAddTurnsWrong : ChangeSpec := { name := "fnExactAddTurns", fn := fun _ => fun
  | [d1, d2] => { results := [.lit (.bool false)], args := [d1, d2] }
  | _ => none }
def FnExactAddTurnsWrongFalsely : Prop := fnExactAddTurnsRow.holds Try.pinned (OpenSpec.ofChange fnExactAddTurnsWrong)

/-- 'laws.FnExactLessTurn': WHATEVER THE INPUT: true; the input reads as it did. -/
def fnExactLessTurnSpec : ChangeSpec := { name := "fnExactLessTurn", fn := fun _ => fun
  | [d1, d2] => { results := [.lit (.bool true)], args := [d1, d2] }
  | _ => none }
def fnExactLessTurnRow : OpenClaim := { program := "ytodjlnpopaodoaa", sum := "a0681906b4ffceaaeba62077a547ff233c7cc6cf27dd2176da6423324a4912ee", func := "loop.example/g01241/laws.FnExactLessTurn", spec := "fnExactLessTurn", unfollowed := true, recurses := true, apart := false }
def FnExactLessTurnSaid : Prop := fnExactLessTurnRow.holds Try.pinned (OpenSpec.ofChange fnExactLessTurnSpec)

/-- ITS FALSE NEIGHBOUR: 'it returns false'. Refute it at one input. -/
def fnExactLessTurnWrong : ChangeSpec := { name := "fnExactLessTurn", fn := fun _ => fun
  | [d1, d2] => { results := [.lit (.bool false)], args := [d1, d2] }
  | _ => none }
def FnExactLessTurnWrongFalsely : Prop := fnExactLessTurnRow.holds Try.pinned (OpenSpec.ofChange fnExactLessTurnWrong)

/-- 'laws.FnExactHandAt': WHATEVER THE INPUT: true; the input reads as it did. -/
def fnExactHandAtSpec : ChangeSpec := { name := "fnExactHandAt", fn := fun _ => fun
  | [d1, d2] => { results := [.lit (.bool true)], args := [d1, d2] }
  | _ => none }
def fnExactHandAtRow : OpenClaim := { program := "ytodjlnpopaodoaa", sum := "a0681906b4ffceaaeba62077a547ff233c7cc6cf27dd2176da6423324a4912ee", func := "loop.example/g01241/laws.FnExactHandAt", spec := "fnExactHandAt", apart := false }
def FnExactHandAtSaid : Prop := fnExactHandAtRow.holds Try.pinned (OpenSpec.ofChange fnExactHandAtSpec)

/-- ITS FALSE NEIGHBOUR: 'it returns false'. Refute it at one input. -/
def fnExactHandAtWrong : ChangeSpec := { name := "fnExactHandAt", fn := fun _ => fun
  | [d1, d2] => { results := [.lit (.bool false)], args := [d1, d2] }
  | _ => none }
def FnExactHandAtWrongFalsely : Prop := fnExactHandAtRow.holds Try.pinned (OpenSpec.ofChange fnExactHandAtWrong)

/-- 'laws.FnExactRightEvery': WHATEVER THE INPUT: true; the input reads as it did. -/
def fnExactRightEverySpec : ChangeSpec := { name := "fnExactRightEvery", fn := fun _ => fun
  | [d] => { results := [.lit (.bool true)], args := [d] }
  | _ => none }
def fnExactRightEveryRow : OpenClaim := { program := "ytodjlnpopaodoaa", sum := "a0681906b4ffceaaeba62077a547ff233c7cc6cf27dd2176da6423324a4912ee", func := "loop.example/g01241/laws.FnExactRightEvery", spec := "fnExactRightEvery", apart := false }
def FnExactRightEverySaid : Prop := fnExactRightEveryRow.holds Try.pinned (OpenSpec.ofChange fnExactRightEverySpec)

/-- ITS FALSE NEIGHBOUR: 'it returns false'. Refute it at one input. -/
def fnExactRightEveryWrong : ChangeSpec := { name := "fnExactRightEvery", fn := fun _ => fun
  | [d] => { results := [.lit (.bool false)], args := [d] }
  | _ => none }
def FnExactRightEveryWrongFalsely : Prop := fnExactRightEveryRow.holds Try.pinned (OpenSpec.ofChange fnExactRightEveryWrong)

/- THE SECOND FORM. 'bulk': how many values and letters a reading holds, each counted each time it is reached (what is shared counts as often as it is met; a slice's spare places count too). A statement '..UptoSaid' is the law's where the arguments, and the package variables that the reading takes, are together of bulk at most 1048576: NARROWER than '..Said'. Prove '..Said' where nothing that the law and all that it calls make is longer than what came in: it says more and counts as full. Else prove '..UptoSaid'. A law counts once. -/
mutual
def uptoBulk {H : Type} : DataW H → Nat
  | .lit (.string bytes) => bytes.length + 1
  | .lit _ => 1
  | .nil => 1
  | .ptr d => uptoBulk d + 1
  | .slice elems spare => uptoBulkAll elems + uptoBulkAll spare + 1
  | .agg parts => uptoBulkAll parts + 1
  | .iface _ d => uptoBulk d + 1
  | .map entries => uptoBulkEntries entries + 1
  | .held _ => 1
def uptoBulkAll {H : Type} : List (DataW H) → Nat
  | [] => 0
  | d :: r => uptoBulk d + uptoBulkAll r
def uptoBulkEntries {H : Type} : List (Lit × DataW H) → Nat
  | [] => 0
  | x :: r => uptoBulkEntry x + uptoBulkEntries r
def uptoBulkEntry {H : Type} : Lit × DataW H → Nat
  | (.string bytes, d) => bytes.length + uptoBulk d + 1
  | (_, d) => uptoBulk d + 1
 end
def uptoSmall : (H : Type) → List (DataW H) → Bool := fun _ ds => decide (uptoBulkAll ds ≤ 1048576)
def OpenSpec.upto (s : _root_.Go.ChangeSpec) : _root_.Go.OpenSpec := { _root_.Go.OpenSpec.ofChange s with cond := some uptoSmall }

/-- 'laws.FnExactPartOfTurn', WHERE WHAT IT READS IS OF BULK AT MOST 1048576: true; the input reads as it did. -/
def fnExactPartOfTurnUptoRow : OpenClaim := { program := "ytodjlnpopaodoaa", sum := "a0681906b4ffceaaeba62077a547ff233c7cc6cf27dd2176da6423324a4912ee", func := "loop.example/g01241/laws.FnExactPartOfTurn", spec := "fnExactPartOfTurn", apart := false, narrowed := true }
def FnExactPartOfTurnUptoSaid : Prop := fnExactPartOfTurnUptoRow.holds Try.pinned (OpenSpec.upto fnExactPartOfTurnSpec)

/-- 'laws.FnExactMirrorTurn', WHERE WHAT IT READS IS OF BULK AT MOST 1048576: true; the input reads as it did. -/
def fnExactMirrorTurnUptoRow : OpenClaim := { program := "ytodjlnpopaodoaa", sum := "a0681906b4ffceaaeba62077a547ff233c7cc6cf27dd2176da6423324a4912ee", func := "loop.example/g01241/laws.FnExactMirrorTurn", spec := "fnExactMirrorTurn", apart := false, narrowed := true }
def FnExactMirrorTurnUptoSaid : Prop := fnExactMirrorTurnUptoRow.holds Try.pinned (OpenSpec.upto fnExactMirrorTurnSpec)

/-- 'laws.FnExactAngleOf', WHERE WHAT IT READS IS OF BULK AT MOST 1048576: true; the input reads as it did. -/
def fnExactAngleOfUptoRow : OpenClaim := { program := "ytodjlnpopaodoaa", sum := "a0681906b4ffceaaeba62077a547ff233c7cc6cf27dd2176da6423324a4912ee", func := "loop.example/g01241/laws.FnExactAngleOf", spec := "fnExactAngleOf", apart := false, narrowed := true }
def FnExactAngleOfUptoSaid : Prop := fnExactAngleOfUptoRow.holds Try.pinned (OpenSpec.upto fnExactAngleOfSpec)

/-- 'laws.FnExactLongHand', WHERE WHAT IT READS IS OF BULK AT MOST 1048576: true; the input reads as it did. -/
def fnExactLongHandUptoRow : OpenClaim := { program := "ytodjlnpopaodoaa", sum := "a0681906b4ffceaaeba62077a547ff233c7cc6cf27dd2176da6423324a4912ee", func := "loop.example/g01241/laws.FnExactLongHand", spec := "fnExactLongHand", apart := false, narrowed := true }
def FnExactLongHandUptoSaid : Prop := fnExactLongHandUptoRow.holds Try.pinned (OpenSpec.upto fnExactLongHandSpec)

/-- 'laws.FnExactTimesTurn', WHERE WHAT IT READS IS OF BULK AT MOST 1048576: true; the input reads as it did. -/
def fnExactTimesTurnUptoRow : OpenClaim := { program := "ytodjlnpopaodoaa", sum := "a0681906b4ffceaaeba62077a547ff233c7cc6cf27dd2176da6423324a4912ee", func := "loop.example/g01241/laws.FnExactTimesTurn", spec := "fnExactTimesTurn", apart := false, narrowed := true }
def FnExactTimesTurnUptoSaid : Prop := fnExactTimesTurnUptoRow.holds Try.pinned (OpenSpec.upto fnExactTimesTurnSpec)

/-- 'laws.FnExactSecondOf', WHERE WHAT IT READS IS OF BULK AT MOST 1048576: true; the input reads as it did. -/
def fnExactSecondOfUptoRow : OpenClaim := { program := "ytodjlnpopaodoaa", sum := "a0681906b4ffceaaeba62077a547ff233c7cc6cf27dd2176da6423324a4912ee", func := "loop.example/g01241/laws.FnExactSecondOf", spec := "fnExactSecondOf", apart := false, narrowed := true }
def FnExactSecondOfUptoSaid : Prop := fnExactSecondOfUptoRow.holds Try.pinned (OpenSpec.upto fnExactSecondOfSpec)

/-- 'laws.FnExactCompareTurns', WHERE WHAT IT READS IS OF BULK AT MOST 1048576: true; the input reads as it did. -/
def fnExactCompareTurnsUptoRow : OpenClaim := { program := "ytodjlnpopaodoaa", sum := "a0681906b4ffceaaeba62077a547ff233c7cc6cf27dd2176da6423324a4912ee", func := "loop.example/g01241/laws.FnExactCompareTurns", spec := "fnExactCompareTurns", unfollowed := true, recurses := true, apart := false, narrowed := true }
def FnExactCompareTurnsUptoSaid : Prop := fnExactCompareTurnsUptoRow.holds Try.pinned (OpenSpec.upto fnExactCompareTurnsSpec)

/-- 'laws.FnExactAddTurns', WHERE WHAT IT READS IS OF BULK AT MOST 1048576: true; the input reads as it did. -/
def fnExactAddTurnsUptoRow : OpenClaim := { program := "ytodjlnpopaodoaa", sum := "a0681906b4ffceaaeba62077a547ff233c7cc6cf27dd2176da6423324a4912ee", func := "loop.example/g01241/laws.FnExactAddTurns", spec := "fnExactAddTurns", unfollowed := true, recurses := true, apart := false, narrowed := true }
def FnExactAddTurnsUptoSaid : Prop := fnExactAddTurnsUptoRow.holds Try.pinned (OpenSpec.upto fnExactAddTurnsSpec)

/-- 'laws.FnExactLessTurn', WHERE WHAT IT READS IS OF BULK AT MOST 1048576: true; the input reads as it did. -/
def fnExactLessTurnUptoRow : OpenClaim := { program := "ytodjlnpopaodoaa", sum := "a0681906b4ffceaaeba62077a547ff233c7cc6cf27dd2176da6423324a4912ee", func := "loop.example/g01241/laws.FnExactLessTurn", spec := "fnExactLessTurn", unfollowed := true, recurses := true, apart := false, narrowed := true }
def FnExactLessTurnUptoSaid : Prop := fnExactLessTurnUptoRow.holds Try.pinned (OpenSpec.upto fnExactLessTurnSpec)

/-- 'laws.FnExactHandAt', WHERE WHAT IT READS IS OF BULK AT MOST 1048576: true; the input reads as it did. -/
def fnExactHandAtUptoRow : OpenClaim := { program := "ytodjlnpopaodoaa", sum := "a0681906b4ffceaaeba62077a547ff233c7cc6cf27dd2176da6423324a4912ee", func := "loop.example/g01241/laws.FnExactHandAt", spec := "fnExactHandAt", apart := false, narrowed := true }
def FnExactHandAtUptoSaid : Prop := fnExactHandAtUptoRow.holds Try.pinned (OpenSpec.upto fnExactHandAtSpec)

/-- 'laws.FnExactRightEvery', WHERE WHAT IT READS IS OF BULK AT MOST 1048576: true; the input reads as it did. -/
def fnExactRightEveryUptoRow : OpenClaim := { program := "ytodjlnpopaodoaa", sum := "a0681906b4ffceaaeba62077a547ff233c7cc6cf27dd2176da6423324a4912ee", func := "loop.example/g01241/laws.FnExactRightEvery", spec := "fnExactRightEvery", apart := false, narrowed := true }
def FnExactRightEveryUptoSaid : Prop := fnExactRightEveryUptoRow.holds Try.pinned (OpenSpec.upto fnExactRightEverySpec)

end Rows
end Go.Proofs.Ytodjlnpopaodoaa
