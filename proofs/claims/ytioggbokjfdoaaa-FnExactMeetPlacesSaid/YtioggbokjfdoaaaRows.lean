/-
  No cell of these rows narrows 'for every input' (looked for: loops, veiled, ifaces, maps, wideKeys, modest, calm, conditions, laid).
  DERIVED. THE GIVEN ROWS OF THIS SEAT. 7 by the template 'for every input the law returns true; each argument reads behind the call as it read before'; 0 by the template 'total and deterministic' (their statements: YtioggbokjfdoaaaTotals.lean).
  GIVEN WITH THE SEED: the statements are not yours to turn. If you find one false, say at which input.
  Laid BY PROGRAM, IN A SANDBOX (cutbox-rows.mjs): the forced cells as the released guide's own fill.sh prints them over the translation 816a3b6f68d6e7be… (all of the seat's roots in one cut). By AI agents, Wed Nov 11 2026. No macro, syntax, notation, axiom, sorry.
-/
import Derived.Test.YtioggbokjfdoaaaChecked
import GoSem.Claim
import GoSem.ClaimJoined
import GoSem.ClaimMapViews
import Derived.JoinedTies
import Derived.KernelRfl
namespace Go.Proofs.Ytioggbokjfdoaaa
/- THE CELL 'sum', in the pinned program and in every row, IS THE sha256 OF THE DUMP (.gsa) THAT YtioggbokjfdoaaaProg.lean LOADS. Nothing in Lean hashes anything: it is a label: what it is worth is what the hold of that sum in a sandbox is worth. -/
noncomputable def Try.pinned : Pinned := { name := "ytioggbokjfdoaaa", sum := "816a3b6f68d6e7be3319e28a685eaa2707cafbc0230758c0f00112ebf01b83e5", checked := Try.checked }
namespace Rows
def none {H : Type} : Left H := { results := [], args := [] }

/-- 'laws.FnExactNextMeet': WHATEVER THE INPUT: true; the input reads as it did. -/
def fnExactNextMeetSpec : ChangeSpec := { name := "fnExactNextMeet", fn := fun _ => fun
  | [d1, d2, d3] => { results := [.lit (.bool true)], args := [d1, d2, d3] }
  | _ => none }
def fnExactNextMeetRow : OpenClaim := { program := "ytioggbokjfdoaaa", sum := "816a3b6f68d6e7be3319e28a685eaa2707cafbc0230758c0f00112ebf01b83e5", func := "loop.example/g01241/laws.FnExactNextMeet", spec := "fnExactNextMeet", unfollowed := true, recurses := true, apart := false }
def FnExactNextMeetSaid : Prop := fnExactNextMeetRow.holds Try.pinned (OpenSpec.ofChange fnExactNextMeetSpec)

/-- ITS FALSE NEIGHBOUR: 'it returns false'. Refute it at one input. -/
def fnExactNextMeetWrong : ChangeSpec := { name := "fnExactNextMeet", fn := fun _ => fun
  | [d1, d2, d3] => { results := [.lit (.bool false)], args := [d1, d2, d3] }
  | _ => none }
def FnExactNextMeetWrongFalsely : Prop := fnExactNextMeetRow.holds Try.pinned (OpenSpec.ofChange fnExactNextMeetWrong)

/-- 'laws.FnExactThreeMeet': WHATEVER THE INPUT: true; the input reads as it did. -/
def fnExactThreeMeetSpec : ChangeSpec := { name := "fnExactThreeMeet", fn := fun _ => fun
  | [d1, d2, d3] => { results := [.lit (.bool true)], args := [d1, d2, d3] }
  | _ => none }
def fnExactThreeMeetRow : OpenClaim := { program := "ytioggbokjfdoaaa", sum := "816a3b6f68d6e7be3319e28a685eaa2707cafbc0230758c0f00112ebf01b83e5", func := "loop.example/g01241/laws.FnExactThreeMeet", spec := "fnExactThreeMeet", unfollowed := true, recurses := true, apart := false }
def FnExactThreeMeetSaid : Prop := fnExactThreeMeetRow.holds Try.pinned (OpenSpec.ofChange fnExactThreeMeetSpec)

/-- ITS FALSE NEIGHBOUR: 'it returns false'. Refute it at one input. -/
def fnExactThreeMeetWrong : ChangeSpec := { name := "fnExactThreeMeet", fn := fun _ => fun
  | [d1, d2, d3] => { results := [.lit (.bool false)], args := [d1, d2, d3] }
  | _ => none }
def FnExactThreeMeetWrongFalsely : Prop := fnExactThreeMeetRow.holds Try.pinned (OpenSpec.ofChange fnExactThreeMeetWrong)

/-- 'laws.FnHandsAheadOfAll': WHATEVER THE INPUT: true; the input reads as it did. -/
def fnHandsAheadOfAllSpec : ChangeSpec := { name := "fnHandsAheadOfAll", fn := fun _ => fun
  | [d1, d2, d3, d4, d5, d6, d7, d8] => { results := [.lit (.bool true)], args := [d1, d2, d3, d4, d5, d6, d7, d8] }
  | _ => none }
def fnHandsAheadOfAllRow : OpenClaim := { program := "ytioggbokjfdoaaa", sum := "816a3b6f68d6e7be3319e28a685eaa2707cafbc0230758c0f00112ebf01b83e5", func := "loop.example/g01241/laws.FnHandsAheadOfAll", spec := "fnHandsAheadOfAll", unfollowed := true, recurses := true, apart := false }
def FnHandsAheadOfAllSaid : Prop := fnHandsAheadOfAllRow.holds Try.pinned (OpenSpec.ofChange fnHandsAheadOfAllSpec)

/-- ITS FALSE NEIGHBOUR: 'it returns false'. Refute it at one input. -/
def fnHandsAheadOfAllWrong : ChangeSpec := { name := "fnHandsAheadOfAll", fn := fun _ => fun
  | [d1, d2, d3, d4, d5, d6, d7, d8] => { results := [.lit (.bool false)], args := [d1, d2, d3, d4, d5, d6, d7, d8] }
  | _ => none }
def FnHandsAheadOfAllWrongFalsely : Prop := fnHandsAheadOfAllRow.holds Try.pinned (OpenSpec.ofChange fnHandsAheadOfAllWrong)

/-- 'laws.FnExactAreSpread': WHATEVER THE INPUT: true; the input reads as it did. -/
def fnExactAreSpreadSpec : ChangeSpec := { name := "fnExactAreSpread", fn := fun _ => fun
  | [d1, d2] => { results := [.lit (.bool true)], args := [d1, d2] }
  | _ => none }
def fnExactAreSpreadRow : OpenClaim := { program := "ytioggbokjfdoaaa", sum := "816a3b6f68d6e7be3319e28a685eaa2707cafbc0230758c0f00112ebf01b83e5", func := "loop.example/g01241/laws.FnExactAreSpread", spec := "fnExactAreSpread", unfollowed := true, recurses := true, apart := false }
def FnExactAreSpreadSaid : Prop := fnExactAreSpreadRow.holds Try.pinned (OpenSpec.ofChange fnExactAreSpreadSpec)

/-- ITS FALSE NEIGHBOUR: 'it returns false'. Refute it at one input. -/
def fnExactAreSpreadWrong : ChangeSpec := { name := "fnExactAreSpread", fn := fun _ => fun
  | [d1, d2] => { results := [.lit (.bool false)], args := [d1, d2] }
  | _ => none }
def FnExactAreSpreadWrongFalsely : Prop := fnExactAreSpreadRow.holds Try.pinned (OpenSpec.ofChange fnExactAreSpreadWrong)

/-- 'laws.FnExactGapsAt': WHATEVER THE INPUT: true; the input reads as it did. -/
def fnExactGapsAtSpec : ChangeSpec := { name := "fnExactGapsAt", fn := fun _ => fun
  | [d1, d2] => { results := [.lit (.bool true)], args := [d1, d2] }
  | _ => none }
def fnExactGapsAtRow : OpenClaim := { program := "ytioggbokjfdoaaa", sum := "816a3b6f68d6e7be3319e28a685eaa2707cafbc0230758c0f00112ebf01b83e5", func := "loop.example/g01241/laws.FnExactGapsAt", spec := "fnExactGapsAt", unfollowed := true, recurses := true, apart := false }
def FnExactGapsAtSaid : Prop := fnExactGapsAtRow.holds Try.pinned (OpenSpec.ofChange fnExactGapsAtSpec)

/-- ITS FALSE NEIGHBOUR: 'it returns false'. Refute it at one input. -/
def fnExactGapsAtWrong : ChangeSpec := { name := "fnExactGapsAt", fn := fun _ => fun
  | [d1, d2] => { results := [.lit (.bool false)], args := [d1, d2] }
  | _ => none }
def FnExactGapsAtWrongFalsely : Prop := fnExactGapsAtRow.holds Try.pinned (OpenSpec.ofChange fnExactGapsAtWrong)

/-- 'laws.FnHandsSpreadOfAll': WHATEVER THE INPUT: true; the input reads as it did. -/
def fnHandsSpreadOfAllSpec : ChangeSpec := { name := "fnHandsSpreadOfAll", fn := fun _ => fun
  | [d1, d2, d3, d4] => { results := [.lit (.bool true)], args := [d1, d2, d3, d4] }
  | _ => none }
def fnHandsSpreadOfAllRow : OpenClaim := { program := "ytioggbokjfdoaaa", sum := "816a3b6f68d6e7be3319e28a685eaa2707cafbc0230758c0f00112ebf01b83e5", func := "loop.example/g01241/laws.FnHandsSpreadOfAll", spec := "fnHandsSpreadOfAll", unfollowed := true, recurses := true, apart := false }
def FnHandsSpreadOfAllSaid : Prop := fnHandsSpreadOfAllRow.holds Try.pinned (OpenSpec.ofChange fnHandsSpreadOfAllSpec)

/-- ITS FALSE NEIGHBOUR: 'it returns false'. Refute it at one input. -/
def fnHandsSpreadOfAllWrong : ChangeSpec := { name := "fnHandsSpreadOfAll", fn := fun _ => fun
  | [d1, d2, d3, d4] => { results := [.lit (.bool false)], args := [d1, d2, d3, d4] }
  | _ => none }
def FnHandsSpreadOfAllWrongFalsely : Prop := fnHandsSpreadOfAllRow.holds Try.pinned (OpenSpec.ofChange fnHandsSpreadOfAllWrong)

/-- 'laws.FnExactMeetPlaces': WHATEVER THE INPUT: true; the input reads as it did. -/
def fnExactMeetPlacesSpec : ChangeSpec := { name := "fnExactMeetPlaces", fn := fun _ => fun
  | [d1, d2] => { results := [.lit (.bool true)], args := [d1, d2] }
  | _ => none }
def fnExactMeetPlacesRow : OpenClaim := { program := "ytioggbokjfdoaaa", sum := "816a3b6f68d6e7be3319e28a685eaa2707cafbc0230758c0f00112ebf01b83e5", func := "loop.example/g01241/laws.FnExactMeetPlaces", spec := "fnExactMeetPlaces", unfollowed := true, recurses := true, apart := false }
def FnExactMeetPlacesSaid : Prop := fnExactMeetPlacesRow.holds Try.pinned (OpenSpec.ofChange fnExactMeetPlacesSpec)

/-- ITS FALSE NEIGHBOUR: 'it returns false'. Refute it at one input. -/
def fnExactMeetPlacesWrong : ChangeSpec := { name := "fnExactMeetPlaces", fn := fun _ => fun
  | [d1, d2] => { results := [.lit (.bool false)], args := [d1, d2] }
  | _ => none }
def FnExactMeetPlacesWrongFalsely : Prop := fnExactMeetPlacesRow.holds Try.pinned (OpenSpec.ofChange fnExactMeetPlacesWrong)

/- THE SECOND FORM. 'bulk': how many values and letters a reading holds, each counted each time it is reached (what is shared counts as often as it is met; a slice's spare places count too). A statement '..UptoSaid' is the law's where the arguments, and the package variables that the reading takes, are together of bulk at most 1048576: NARROWER than '..Said'. Prove '..Said' where nothing that the law and all that it calls make is longer than what came in: it says more and counts as full. Else prove '..UptoSaid'. A law counts once. -/
mutual
def uptoBulk {H : Type} : DataW H → Nat
  | .lit (.string bytes) => bytes.length + 1
  | .lit _ => 1
  | .nil => 1
  | .ptr d => uptoBulk d + 1
  | .slice elems spare => uptoBulkAll elems + uptoBulkAll spare + 1
  | .agg parts => uptoBulkAll parts + 1
  | .iface _ d => uptoBulk d + 1
  | .map entries => uptoBulkEntries entries + 1
  | .held _ => 1
def uptoBulkAll {H : Type} : List (DataW H) → Nat
  | [] => 0
  | d :: r => uptoBulk d + uptoBulkAll r
def uptoBulkEntries {H : Type} : List (Lit × DataW H) → Nat
  | [] => 0
  | x :: r => uptoBulkEntry x + uptoBulkEntries r
def uptoBulkEntry {H : Type} : Lit × DataW H → Nat
  | (.string bytes, d) => bytes.length + uptoBulk d + 1
  | (_, d) => uptoBulk d + 1
 end
def uptoSmall : (H : Type) → List (DataW H) → Bool := fun _ ds => decide (uptoBulkAll ds ≤ 1048576)
def OpenSpec.upto (s : _root_.Go.ChangeSpec) : _root_.Go.OpenSpec := { _root_.Go.OpenSpec.ofChange s with cond := some uptoSmall }

/-- 'laws.FnExactNextMeet', WHERE WHAT IT READS IS OF BULK AT MOST 1048576: true; the input reads as it did. -/
def fnExactNextMeetUptoRow : OpenClaim := { program := "ytioggbokjfdoaaa", sum := "816a3b6f68d6e7be3319e28a685eaa2707cafbc0230758c0f00112ebf01b83e5", func := "loop.example/g01241/laws.FnExactNextMeet", spec := "fnExactNextMeet", unfollowed := true, recurses := true, apart := false, narrowed := true }
def FnExactNextMeetUptoSaid : Prop := fnExactNextMeetUptoRow.holds Try.pinned (OpenSpec.upto fnExactNextMeetSpec)

/-- 'laws.FnExactThreeMeet', WHERE WHAT IT READS IS OF BULK AT MOST 1048576: true; the input reads as it did. -/
def fnExactThreeMeetUptoRow : OpenClaim := { program := "ytioggbokjfdoaaa", sum := "816a3b6f68d6e7be3319e28a685eaa2707cafbc0230758c0f00112ebf01b83e5", func := "loop.example/g01241/laws.FnExactThreeMeet", spec := "fnExactThreeMeet", unfollowed := true, recurses := true, apart := false, narrowed := true }
def FnExactThreeMeetUptoSaid : Prop := fnExactThreeMeetUptoRow.holds Try.pinned (OpenSpec.upto fnExactThreeMeetSpec)

/-- 'laws.FnHandsAheadOfAll', WHERE WHAT IT READS IS OF BULK AT MOST 1048576: true; the input reads as it did. -/
def fnHandsAheadOfAllUptoRow : OpenClaim := { program := "ytioggbokjfdoaaa", sum := "816a3b6f68d6e7be3319e28a685eaa2707cafbc0230758c0f00112ebf01b83e5", func := "loop.example/g01241/laws.FnHandsAheadOfAll", spec := "fnHandsAheadOfAll", unfollowed := true, recurses := true, apart := false, narrowed := true }
def FnHandsAheadOfAllUptoSaid : Prop := fnHandsAheadOfAllUptoRow.holds Try.pinned (OpenSpec.upto fnHandsAheadOfAllSpec)

/-- 'laws.FnExactAreSpread', WHERE WHAT IT READS IS OF BULK AT MOST 1048576: true; the input reads as it did. -/
def fnExactAreSpreadUptoRow : OpenClaim := { program := "ytioggbokjfdoaaa", sum := "816a3b6f68d6e7be3319e28a685eaa2707cafbc0230758c0f00112ebf01b83e5", func := "loop.example/g01241/laws.FnExactAreSpread", spec := "fnExactAreSpread", unfollowed := true, recurses := true, apart := false, narrowed := true }
def FnExactAreSpreadUptoSaid : Prop := fnExactAreSpreadUptoRow.holds Try.pinned (OpenSpec.upto fnExactAreSpreadSpec)

/-- 'laws.FnExactGapsAt', WHERE WHAT IT READS IS OF BULK AT MOST 1048576: true; the input reads as it did. -/
def fnExactGapsAtUptoRow : OpenClaim := { program := "ytioggbokjfdoaaa", sum := "816a3b6f68d6e7be3319e28a685eaa2707cafbc0230758c0f00112ebf01b83e5", func := "loop.example/g01241/laws.FnExactGapsAt", spec := "fnExactGapsAt", unfollowed := true, recurses := true, apart := false, narrowed := true }
def FnExactGapsAtUptoSaid : Prop := fnExactGapsAtUptoRow.holds Try.pinned (OpenSpec.upto fnExactGapsAtSpec)

/-- 'laws.FnHandsSpreadOfAll', WHERE WHAT IT READS IS OF BULK AT MOST 1048576: true; the input reads as it did. -/
def fnHandsSpreadOfAllUptoRow : OpenClaim := { program := "ytioggbokjfdoaaa", sum := "816a3b6f68d6e7be3319e28a685eaa2707cafbc0230758c0f00112ebf01b83e5", func := "loop.example/g01241/laws.FnHandsSpreadOfAll", spec := "fnHandsSpreadOfAll", unfollowed := true, recurses := true, apart := false, narrowed := true }
def FnHandsSpreadOfAllUptoSaid : Prop := fnHandsSpreadOfAllUptoRow.holds Try.pinned (OpenSpec.upto fnHandsSpreadOfAllSpec)

/-- 'laws.FnExactMeetPlaces', WHERE WHAT IT READS IS OF BULK AT MOST 1048576: true; the input reads as it did. -/
def fnExactMeetPlacesUptoRow : OpenClaim := { program := "ytioggbokjfdoaaa", sum := "816a3b6f68d6e7be3319e28a685eaa2707cafbc0230758c0f00112ebf01b83e5", func := "loop.example/g01241/laws.FnExactMeetPlaces", spec := "fnExactMeetPlaces", unfollowed := true, recurses := true, apart := false, narrowed := true }
def FnExactMeetPlacesUptoSaid : Prop := fnExactMeetPlacesUptoRow.holds Try.pinned (OpenSpec.upto fnExactMeetPlacesSpec)

end Rows
end Go.Proofs.Ytioggbokjfdoaaa
