/-
  No cell of these rows narrows 'for every input' (looked for: loops, veiled, ifaces, maps, wideKeys, modest, calm, conditions, laid).
  DERIVED. THE GIVEN ROWS OF THIS SEAT. 12 by the template 'for every input the law returns true; each argument reads behind the call as it read before'; 0 by the template 'total and deterministic' (their statements: YthhienjfgcjleaaTotals.lean).
  GIVEN WITH THE SEED: the statements are not yours to turn. If you find one false, say at which input.
  Laid BY PROGRAM, IN A SANDBOX (cutbox-rows.mjs): the forced cells as the released guide's own fill.sh prints them over the translation a17f49ad2c0c731d… (all of the seat's roots in one cut). By AI agents, Wed Nov 11 2026. No macro, syntax, notation, axiom, sorry.
-/
import Derived.Test.YthhienjfgcjleaaChecked
import GoSem.Claim
import GoSem.ClaimJoined
import GoSem.ClaimMapViews
import Derived.JoinedTies
import Derived.KernelRfl
namespace Go.Proofs.Ythhienjfgcjleaa
/- THE CELL 'sum', in the pinned program and in every row, IS THE sha256 OF THE DUMP (.gsa) THAT YthhienjfgcjleaaProg.lean LOADS. Nothing in Lean hashes anything: it is a label: what it is worth is what the hold of that sum in a sandbox is worth. -/
noncomputable def Try.pinned : Pinned := { name := "ythhienjfgcjleaa", sum := "a17f49ad2c0c731d07536812970497775e15e2e56246a960ae7f487b5f7236d3", checked := Try.checked }
namespace Rows
def none {H : Type} : Left H := { results := [], args := [] }

/-- 'laws.FnExactAheadAfter': WHATEVER THE INPUT: true; the input reads as it did. -/
def fnExactAheadAfterSpec : ChangeSpec := { name := "fnExactAheadAfter", fn := fun _ => fun
  | [d1, d2] => { results := [.lit (.bool true)], args := [d1, d2] }
  | _ => none }
def fnExactAheadAfterRow : OpenClaim := { program := "ythhienjfgcjleaa", sum := "a17f49ad2c0c731d07536812970497775e15e2e56246a960ae7f487b5f7236d3", func := "loop.example/g01241/laws.FnExactAheadAfter", spec := "fnExactAheadAfter", apart := false }
def FnExactAheadAfterSaid : Prop := fnExactAheadAfterRow.holds Try.pinned (OpenSpec.ofChange fnExactAheadAfterSpec)

/-- ITS FALSE NEIGHBOUR: 'it returns false'. Refute it at one input. -/
def fnExactAheadAfterWrong : ChangeSpec := { name := "fnExactAheadAfter", fn := fun _ => fun
  | [d1, d2] => { results := [.lit (.bool false)], args := [d1, d2] }
  | _ => none }
def FnExactAheadAfterWrongFalsely : Prop := fnExactAheadAfterRow.holds Try.pinned (OpenSpec.ofChange fnExactAheadAfterWrong)

/-- 'laws.FnExactShownAfter': WHATEVER THE INPUT: true; the input reads as it did. -/
def fnExactShownAfterSpec : ChangeSpec := { name := "fnExactShownAfter", fn := fun _ => fun
  | [d1, d2] => { results := [.lit (.bool true)], args := [d1, d2] }
  | _ => none }
def fnExactShownAfterRow : OpenClaim := { program := "ythhienjfgcjleaa", sum := "a17f49ad2c0c731d07536812970497775e15e2e56246a960ae7f487b5f7236d3", func := "loop.example/g01241/laws.FnExactShownAfter", spec := "fnExactShownAfter", apart := false }
def FnExactShownAfterSaid : Prop := fnExactShownAfterRow.holds Try.pinned (OpenSpec.ofChange fnExactShownAfterSpec)

/-- ITS FALSE NEIGHBOUR: 'it returns false'. Refute it at one input. -/
def fnExactShownAfterWrong : ChangeSpec := { name := "fnExactShownAfter", fn := fun _ => fun
  | [d1, d2] => { results := [.lit (.bool false)], args := [d1, d2] }
  | _ => none }
def FnExactShownAfterWrongFalsely : Prop := fnExactShownAfterRow.holds Try.pinned (OpenSpec.ofChange fnExactShownAfterWrong)

/-- 'laws.FnExactAheadAt': WHATEVER THE INPUT: true; the input reads as it did. -/
def fnExactAheadAtSpec : ChangeSpec := { name := "fnExactAheadAt", fn := fun _ => fun
  | [d1, d2, d3] => { results := [.lit (.bool true)], args := [d1, d2, d3] }
  | _ => none }
def fnExactAheadAtRow : OpenClaim := { program := "ythhienjfgcjleaa", sum := "a17f49ad2c0c731d07536812970497775e15e2e56246a960ae7f487b5f7236d3", func := "loop.example/g01241/laws.FnExactAheadAt", spec := "fnExactAheadAt", unfollowed := true, recurses := true, apart := false }
def FnExactAheadAtSaid : Prop := fnExactAheadAtRow.holds Try.pinned (OpenSpec.ofChange fnExactAheadAtSpec)

/-- ITS FALSE NEIGHBOUR: 'it returns false'. Refute it at one input. -/
def fnExactAheadAtWrong : ChangeSpec := { name := "fnExactAheadAt", fn := fun _ => fun
  | [d1, d2, d3] => { results := [.lit (.bool false)], args := [d1, d2, d3] }
  | _ => none }
def FnExactAheadAtWrongFalsely : Prop := fnExactAheadAtRow.holds Try.pinned (OpenSpec.ofChange fnExactAheadAtWrong)

/-- 'laws.FnExactRelativeHand': WHATEVER THE INPUT: true; the input reads as it did. -/
def fnExactRelativeHandSpec : ChangeSpec := { name := "fnExactRelativeHand", fn := fun _ => fun
  | [d1, d2] => { results := [.lit (.bool true)], args := [d1, d2] }
  | _ => none }
def fnExactRelativeHandRow : OpenClaim := { program := "ythhienjfgcjleaa", sum := "a17f49ad2c0c731d07536812970497775e15e2e56246a960ae7f487b5f7236d3", func := "loop.example/g01241/laws.FnExactRelativeHand", spec := "fnExactRelativeHand", unfollowed := true, recurses := true, apart := false }
def FnExactRelativeHandSaid : Prop := fnExactRelativeHandRow.holds Try.pinned (OpenSpec.ofChange fnExactRelativeHandSpec)

/-- ITS FALSE NEIGHBOUR: 'it returns false'. Refute it at one input. -/
def fnExactRelativeHandWrong : ChangeSpec := { name := "fnExactRelativeHand", fn := fun _ => fun
  | [d1, d2] => { results := [.lit (.bool false)], args := [d1, d2] }
  | _ => none }
def FnExactRelativeHandWrongFalsely : Prop := fnExactRelativeHandRow.holds Try.pinned (OpenSpec.ofChange fnExactRelativeHandWrong)

/-- 'laws.FnExactSmallAngle': WHATEVER THE INPUT: true; the input reads as it did. -/
def fnExactSmallAngleSpec : ChangeSpec := { name := "fnExactSmallAngle", fn := fun _ => fun
  | [d1, d2] => { results := [.lit (.bool true)], args := [d1, d2] }
  | _ => none }
def fnExactSmallAngleRow : OpenClaim := { program := "ythhienjfgcjleaa", sum := "a17f49ad2c0c731d07536812970497775e15e2e56246a960ae7f487b5f7236d3", func := "loop.example/g01241/laws.FnExactSmallAngle", spec := "fnExactSmallAngle", apart := false }
def FnExactSmallAngleSaid : Prop := fnExactSmallAngleRow.holds Try.pinned (OpenSpec.ofChange fnExactSmallAngleSpec)

/-- ITS FALSE NEIGHBOUR: 'it returns false'. Refute it at one input. -/
def fnExactSmallAngleWrong : ChangeSpec := { name := "fnExactSmallAngle", fn := fun _ => fun
  | [d1, d2] => { results := [.lit (.bool false)], args := [d1, d2] }
  | _ => none }
def FnExactSmallAngleWrongFalsely : Prop := fnExactSmallAngleRow.holds Try.pinned (OpenSpec.ofChange fnExactSmallAngleWrong)

/-- 'laws.FnExactTimesWithLong': WHATEVER THE INPUT: true; the input reads as it did. -/
def fnExactTimesWithLongSpec : ChangeSpec := { name := "fnExactTimesWithLong", fn := fun _ => fun
  | [d1, d2] => { results := [.lit (.bool true)], args := [d1, d2] }
  | _ => none }
def fnExactTimesWithLongRow : OpenClaim := { program := "ythhienjfgcjleaa", sum := "a17f49ad2c0c731d07536812970497775e15e2e56246a960ae7f487b5f7236d3", func := "loop.example/g01241/laws.FnExactTimesWithLong", spec := "fnExactTimesWithLong", unfollowed := true, recurses := true, apart := false }
def FnExactTimesWithLongSaid : Prop := fnExactTimesWithLongRow.holds Try.pinned (OpenSpec.ofChange fnExactTimesWithLongSpec)

/-- ITS FALSE NEIGHBOUR: 'it returns false'. Refute it at one input. -/
def fnExactTimesWithLongWrong : ChangeSpec := { name := "fnExactTimesWithLong", fn := fun _ => fun
  | [d1, d2] => { results := [.lit (.bool false)], args := [d1, d2] }
  | _ => none }
def FnExactTimesWithLongWrongFalsely : Prop := fnExactTimesWithLongRow.holds Try.pinned (OpenSpec.ofChange fnExactTimesWithLongWrong)

/-- 'laws.FnExactFirstMeet': WHATEVER THE INPUT: true; the input reads as it did. -/
def fnExactFirstMeetSpec : ChangeSpec := { name := "fnExactFirstMeet", fn := fun _ => fun
  | [d1, d2] => { results := [.lit (.bool true)], args := [d1, d2] }
  | _ => none }
def fnExactFirstMeetRow : OpenClaim := { program := "ythhienjfgcjleaa", sum := "a17f49ad2c0c731d07536812970497775e15e2e56246a960ae7f487b5f7236d3", func := "loop.example/g01241/laws.FnExactFirstMeet", spec := "fnExactFirstMeet", unfollowed := true, recurses := true, apart := false }
def FnExactFirstMeetSaid : Prop := fnExactFirstMeetRow.holds Try.pinned (OpenSpec.ofChange fnExactFirstMeetSpec)

/-- ITS FALSE NEIGHBOUR: 'it returns false'. Refute it at one input. -/
def fnExactFirstMeetWrong : ChangeSpec := { name := "fnExactFirstMeet", fn := fun _ => fun
  | [d1, d2] => { results := [.lit (.bool false)], args := [d1, d2] }
  | _ => none }
def FnExactFirstMeetWrongFalsely : Prop := fnExactFirstMeetRow.holds Try.pinned (OpenSpec.ofChange fnExactFirstMeetWrong)

/-- 'laws.FnExactTimesAtPlace': WHATEVER THE INPUT: true; the input reads as it did. -/
def fnExactTimesAtPlaceSpec : ChangeSpec := { name := "fnExactTimesAtPlace", fn := fun _ => fun
  | [d1, d2] => { results := [.lit (.bool true)], args := [d1, d2] }
  | _ => none }
def fnExactTimesAtPlaceRow : OpenClaim := { program := "ythhienjfgcjleaa", sum := "a17f49ad2c0c731d07536812970497775e15e2e56246a960ae7f487b5f7236d3", func := "loop.example/g01241/laws.FnExactTimesAtPlace", spec := "fnExactTimesAtPlace", unfollowed := true, recurses := true, apart := false }
def FnExactTimesAtPlaceSaid : Prop := fnExactTimesAtPlaceRow.holds Try.pinned (OpenSpec.ofChange fnExactTimesAtPlaceSpec)

/-- ITS FALSE NEIGHBOUR: 'it returns false'. Refute it at one input. -/
def fnExactTimesAtPlaceWrong : ChangeSpec := { name := "fnExactTimesAtPlace", fn := fun _ => fun
  | [d1, d2] => { results := [.lit (.bool false)], args := [d1, d2] }
  | _ => none }
def FnExactTimesAtPlaceWrongFalsely : Prop := fnExactTimesAtPlaceRow.holds Try.pinned (OpenSpec.ofChange fnExactTimesAtPlaceWrong)

/-- 'laws.FnExactMeetTimes': WHATEVER THE INPUT: true; the input reads as it did. -/
def fnExactMeetTimesSpec : ChangeSpec := { name := "fnExactMeetTimes", fn := fun _ => fun
  | [d1, d2] => { results := [.lit (.bool true)], args := [d1, d2] }
  | _ => none }
def fnExactMeetTimesRow : OpenClaim := { program := "ythhienjfgcjleaa", sum := "a17f49ad2c0c731d07536812970497775e15e2e56246a960ae7f487b5f7236d3", func := "loop.example/g01241/laws.FnExactMeetTimes", spec := "fnExactMeetTimes", unfollowed := true, recurses := true, apart := false }
def FnExactMeetTimesSaid : Prop := fnExactMeetTimesRow.holds Try.pinned (OpenSpec.ofChange fnExactMeetTimesSpec)

/-- ITS FALSE NEIGHBOUR: 'it returns false'. Refute it at one input. -/
def fnExactMeetTimesWrong : ChangeSpec := { name := "fnExactMeetTimes", fn := fun _ => fun
  | [d1, d2] => { results := [.lit (.bool false)], args := [d1, d2] }
  | _ => none }
def FnExactMeetTimesWrongFalsely : Prop := fnExactMeetTimesRow.holds Try.pinned (OpenSpec.ofChange fnExactMeetTimesWrong)

/-- 'laws.FnTurnsAddedOfAll': WHATEVER THE INPUT: true; the input reads as it did. -/
def fnTurnsAddedOfAllSpec : ChangeSpec := { name := "fnTurnsAddedOfAll", fn := fun _ => fun
  | [d1, d2, d3, d4, d5, d6] => { results := [.lit (.bool true)], args := [d1, d2, d3, d4, d5, d6] }
  | _ => none }
def fnTurnsAddedOfAllRow : OpenClaim := { program := "ythhienjfgcjleaa", sum := "a17f49ad2c0c731d07536812970497775e15e2e56246a960ae7f487b5f7236d3", func := "loop.example/g01241/laws.FnTurnsAddedOfAll", spec := "fnTurnsAddedOfAll", unfollowed := true, recurses := true, apart := false }
def FnTurnsAddedOfAllSaid : Prop := fnTurnsAddedOfAllRow.holds Try.pinned (OpenSpec.ofChange fnTurnsAddedOfAllSpec)

/-- ITS FALSE NEIGHBOUR: 'it returns false'. Refute it at one input. -/
def fnTurnsAddedOfAllWrong : ChangeSpec := { name := "fnTurnsAddedOfAll", fn := fun _ => fun
  | [d1, d2, d3, d4, d5, d6] => { results := [.lit (.bool false)], args := [d1, d2, d3, d4, d5, d6] }
  | _ => none }
def FnTurnsAddedOfAllWrongFalsely : Prop := fnTurnsAddedOfAllRow.holds Try.pinned (OpenSpec.ofChange fnTurnsAddedOfAllWrong)

/-- 'laws.FnExactOppositeTimes': WHATEVER THE INPUT: true; the input reads as it did. -/
def fnExactOppositeTimesSpec : ChangeSpec := { name := "fnExactOppositeTimes", fn := fun _ => fun
  | [d1, d2] => { results := [.lit (.bool true)], args := [d1, d2] }
  | _ => none }
def fnExactOppositeTimesRow : OpenClaim := { program := "ythhienjfgcjleaa", sum := "a17f49ad2c0c731d07536812970497775e15e2e56246a960ae7f487b5f7236d3", func := "loop.example/g01241/laws.FnExactOppositeTimes", spec := "fnExactOppositeTimes", unfollowed := true, recurses := true, apart := false }
def FnExactOppositeTimesSaid : Prop := fnExactOppositeTimesRow.holds Try.pinned (OpenSpec.ofChange fnExactOppositeTimesSpec)

/-- ITS FALSE NEIGHBOUR: 'it returns false'. Refute it at one input. -/
def fnExactOppositeTimesWrong : ChangeSpec := { name := "fnExactOppositeTimes", fn := fun _ => fun
  | [d1, d2] => { results := [.lit (.bool false)], args := [d1, d2] }
  | _ => none }
def FnExactOppositeTimesWrongFalsely : Prop := fnExactOppositeTimesRow.holds Try.pinned (OpenSpec.ofChange fnExactOppositeTimesWrong)

/-- 'laws.FnExactAheadTimes': WHATEVER THE INPUT: true; the input reads as it did. -/
def fnExactAheadTimesSpec : ChangeSpec := { name := "fnExactAheadTimes", fn := fun _ => fun
  | [d1, d2, d3] => { results := [.lit (.bool true)], args := [d1, d2, d3] }
  | _ => none }
def fnExactAheadTimesRow : OpenClaim := { program := "ythhienjfgcjleaa", sum := "a17f49ad2c0c731d07536812970497775e15e2e56246a960ae7f487b5f7236d3", func := "loop.example/g01241/laws.FnExactAheadTimes", spec := "fnExactAheadTimes", unfollowed := true, recurses := true, apart := false }
def FnExactAheadTimesSaid : Prop := fnExactAheadTimesRow.holds Try.pinned (OpenSpec.ofChange fnExactAheadTimesSpec)

/-- ITS FALSE NEIGHBOUR: 'it returns false'. Refute it at one input. -/
def fnExactAheadTimesWrong : ChangeSpec := { name := "fnExactAheadTimes", fn := fun _ => fun
  | [d1, d2, d3] => { results := [.lit (.bool false)], args := [d1, d2, d3] }
  | _ => none }
def FnExactAheadTimesWrongFalsely : Prop := fnExactAheadTimesRow.holds Try.pinned (OpenSpec.ofChange fnExactAheadTimesWrong)

/- THE SECOND FORM. 'bulk': how many values and letters a reading holds, each counted each time it is reached (what is shared counts as often as it is met; a slice's spare places count too). A statement '..UptoSaid' is the law's where the arguments, and the package variables that the reading takes, are together of bulk at most 1048576: NARROWER than '..Said'. Prove '..Said' where nothing that the law and all that it calls make is longer than what came in: it says more and counts as full. Else prove '..UptoSaid'. A law counts once. -/
mutual
def uptoBulk {H : Type} : DataW H → Nat
  | .lit (.string bytes) => bytes.length + 1
  | .lit _ => 1
  | .nil => 1
  | .ptr d => uptoBulk d + 1
  | .slice elems spare => uptoBulkAll elems + uptoBulkAll spare + 1
  | .agg parts => uptoBulkAll parts + 1
  | .iface _ d => uptoBulk d + 1
  | .map entries => uptoBulkEntries entries + 1
  | .held _ => 1
def uptoBulkAll {H : Type} : List (DataW H) → Nat
  | [] => 0
  | d :: r => uptoBulk d + uptoBulkAll r
def uptoBulkEntries {H : Type} : List (Lit × DataW H) → Nat
  | [] => 0
  | x :: r => uptoBulkEntry x + uptoBulkEntries r
def uptoBulkEntry {H : Type} : Lit × DataW H → Nat
  | (.string bytes, d) => bytes.length + uptoBulk d + 1
  | (_, d) => uptoBulk d + 1
 end
def uptoSmall : (H : Type) → List (DataW H) → Bool := fun _ ds => decide (uptoBulkAll ds ≤ 1048576)
def OpenSpec.upto (s : _root_.Go.ChangeSpec) : _root_.Go.OpenSpec := { _root_.Go.OpenSpec.ofChange s with cond := some uptoSmall }

/-- 'laws.FnExactAheadAfter', WHERE WHAT IT READS IS OF BULK AT MOST 1048576: true; the input reads as it did. -/
def fnExactAheadAfterUptoRow : OpenClaim := { program := "ythhienjfgcjleaa", sum := "a17f49ad2c0c731d07536812970497775e15e2e56246a960ae7f487b5f7236d3", func := "loop.example/g01241/laws.FnExactAheadAfter", spec := "fnExactAheadAfter", apart := false, narrowed := true }
def FnExactAheadAfterUptoSaid : Prop := fnExactAheadAfterUptoRow.holds Try.pinned (OpenSpec.upto fnExactAheadAfterSpec)

/-- 'laws.FnExactShownAfter', WHERE WHAT IT READS IS OF BULK AT MOST 1048576: true; the input reads as it did. -/
def fnExactShownAfterUptoRow : OpenClaim := { program := "ythhienjfgcjleaa", sum := "a17f49ad2c0c731d07536812970497775e15e2e56246a960ae7f487b5f7236d3", func := "loop.example/g01241/laws.FnExactShownAfter", spec := "fnExactShownAfter", apart := false, narrowed := true }
def FnExactShownAfterUptoSaid : Prop := fnExactShownAfterUptoRow.holds Try.pinned (OpenSpec.upto fnExactShownAfterSpec)

/-- 'laws.FnExactAheadAt', WHERE WHAT IT READS IS OF BULK AT MOST 1048576: true; the input reads as it did. -/
def fnExactAheadAtUptoRow : OpenClaim := { program := "ythhienjfgcjleaa", sum := "a17f49ad2c0c731d07536812970497775e15e2e56246a960ae7f487b5f7236d3", func := "loop.example/g01241/laws.FnExactAheadAt", spec := "fnExactAheadAt", unfollowed := true, recurses := true, apart := false, narrowed := true }
def FnExactAheadAtUptoSaid : Prop := fnExactAheadAtUptoRow.holds Try.pinned (OpenSpec.upto fnExactAheadAtSpec)

/-- 'laws.FnExactRelativeHand', WHERE WHAT IT READS IS OF BULK AT MOST 1048576: true; the input reads as it did. -/
def fnExactRelativeHandUptoRow : OpenClaim := { program := "ythhienjfgcjleaa", sum := "a17f49ad2c0c731d07536812970497775e15e2e56246a960ae7f487b5f7236d3", func := "loop.example/g01241/laws.FnExactRelativeHand", spec := "fnExactRelativeHand", unfollowed := true, recurses := true, apart := false, narrowed := true }
def FnExactRelativeHandUptoSaid : Prop := fnExactRelativeHandUptoRow.holds Try.pinned (OpenSpec.upto fnExactRelativeHandSpec)

/-- 'laws.FnExactSmallAngle', WHERE WHAT IT READS IS OF BULK AT MOST 1048576: true; the input reads as it did. -/
def fnExactSmallAngleUptoRow : OpenClaim := { program := "ythhienjfgcjleaa", sum := "a17f49ad2c0c731d07536812970497775e15e2e56246a960ae7f487b5f7236d3", func := "loop.example/g01241/laws.FnExactSmallAngle", spec := "fnExactSmallAngle", apart := false, narrowed := true }
def FnExactSmallAngleUptoSaid : Prop := fnExactSmallAngleUptoRow.holds Try.pinned (OpenSpec.upto fnExactSmallAngleSpec)

/-- 'laws.FnExactTimesWithLong', WHERE WHAT IT READS IS OF BULK AT MOST 1048576: true; the input reads as it did. -/
def fnExactTimesWithLongUptoRow : OpenClaim := { program := "ythhienjfgcjleaa", sum := "a17f49ad2c0c731d07536812970497775e15e2e56246a960ae7f487b5f7236d3", func := "loop.example/g01241/laws.FnExactTimesWithLong", spec := "fnExactTimesWithLong", unfollowed := true, recurses := true, apart := false, narrowed := true }
def FnExactTimesWithLongUptoSaid : Prop := fnExactTimesWithLongUptoRow.holds Try.pinned (OpenSpec.upto fnExactTimesWithLongSpec)

/-- 'laws.FnExactFirstMeet', WHERE WHAT IT READS IS OF BULK AT MOST 1048576: true; the input reads as it did. -/
def fnExactFirstMeetUptoRow : OpenClaim := { program := "ythhienjfgcjleaa", sum := "a17f49ad2c0c731d07536812970497775e15e2e56246a960ae7f487b5f7236d3", func := "loop.example/g01241/laws.FnExactFirstMeet", spec := "fnExactFirstMeet", unfollowed := true, recurses := true, apart := false, narrowed := true }
def FnExactFirstMeetUptoSaid : Prop := fnExactFirstMeetUptoRow.holds Try.pinned (OpenSpec.upto fnExactFirstMeetSpec)

/-- 'laws.FnExactTimesAtPlace', WHERE WHAT IT READS IS OF BULK AT MOST 1048576: true; the input reads as it did. -/
def fnExactTimesAtPlaceUptoRow : OpenClaim := { program := "ythhienjfgcjleaa", sum := "a17f49ad2c0c731d07536812970497775e15e2e56246a960ae7f487b5f7236d3", func := "loop.example/g01241/laws.FnExactTimesAtPlace", spec := "fnExactTimesAtPlace", unfollowed := true, recurses := true, apart := false, narrowed := true }
def FnExactTimesAtPlaceUptoSaid : Prop := fnExactTimesAtPlaceUptoRow.holds Try.pinned (OpenSpec.upto fnExactTimesAtPlaceSpec)

/-- 'laws.FnExactMeetTimes', WHERE WHAT IT READS IS OF BULK AT MOST 1048576: true; the input reads as it did. -/
def fnExactMeetTimesUptoRow : OpenClaim := { program := "ythhienjfgcjleaa", sum := "a17f49ad2c0c731d07536812970497775e15e2e56246a960ae7f487b5f7236d3", func := "loop.example/g01241/laws.FnExactMeetTimes", spec := "fnExactMeetTimes", unfollowed := true, recurses := true, apart := false, narrowed := true }
def FnExactMeetTimesUptoSaid : Prop := fnExactMeetTimesUptoRow.holds Try.pinned (OpenSpec.upto fnExactMeetTimesSpec)

/-- 'laws.FnTurnsAddedOfAll', WHERE WHAT IT READS IS OF BULK AT MOST 1048576: true; the input reads as it did. -/
def fnTurnsAddedOfAllUptoRow : OpenClaim := { program := "ythhienjfgcjleaa", sum := "a17f49ad2c0c731d07536812970497775e15e2e56246a960ae7f487b5f7236d3", func := "loop.example/g01241/laws.FnTurnsAddedOfAll", spec := "fnTurnsAddedOfAll", unfollowed := true, recurses := true, apart := false, narrowed := true }
def FnTurnsAddedOfAllUptoSaid : Prop := fnTurnsAddedOfAllUptoRow.holds Try.pinned (OpenSpec.upto fnTurnsAddedOfAllSpec)

/-- 'laws.FnExactOppositeTimes', WHERE WHAT IT READS IS OF BULK AT MOST 1048576: true; the input reads as it did. -/
def fnExactOppositeTimesUptoRow : OpenClaim := { program := "ythhienjfgcjleaa", sum := "a17f49ad2c0c731d07536812970497775e15e2e56246a960ae7f487b5f7236d3", func := "loop.example/g01241/laws.FnExactOppositeTimes", spec := "fnExactOppositeTimes", unfollowed := true, recurses := true, apart := false, narrowed := true }
def FnExactOppositeTimesUptoSaid : Prop := fnExactOppositeTimesUptoRow.holds Try.pinned (OpenSpec.upto fnExactOppositeTimesSpec)

/-- 'laws.FnExactAheadTimes', WHERE WHAT IT READS IS OF BULK AT MOST 1048576: true; the input reads as it did. -/
def fnExactAheadTimesUptoRow : OpenClaim := { program := "ythhienjfgcjleaa", sum := "a17f49ad2c0c731d07536812970497775e15e2e56246a960ae7f487b5f7236d3", func := "loop.example/g01241/laws.FnExactAheadTimes", spec := "fnExactAheadTimes", unfollowed := true, recurses := true, apart := false, narrowed := true }
def FnExactAheadTimesUptoSaid : Prop := fnExactAheadTimesUptoRow.holds Try.pinned (OpenSpec.upto fnExactAheadTimesSpec)

end Rows
end Go.Proofs.Ythhienjfgcjleaa
