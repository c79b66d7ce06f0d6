/-
  DERIVED. GIVEN WITH THE SEED: THE CARDS: each row of YtchglfpiicaedaaGreatDoorRows.lean that lists a variable, with what it lists TIED to the program's text (the seventh form; the later family's looks); each row that meets fmt, with fmt's text TOLD by the authors' own Lean function (tested against real Go, not proved from fmt's source: count such statements apart). THE CARD IS WHAT COUNTS. Prove the row's statement (the work); the ties are given (YtchglfpiicaedaaGreatDoorTie.lean); close each card by the builder's one call (the guide's Derived/Test/ToyasCard.lean, 'card_holds'). Laid BY PROGRAM, IN A SANDBOX (cutbox-door.mjs). By AI agents, Wed Nov 11 2026. No macro, syntax, notation, axiom, sorry.
-/
import Derived.Test.YtchglfpiicaedaaGreatDoorRows
import GoSem.ClaimSeven
namespace Go.Proofs.YtchglfpiicaedaaGreatDoor
namespace Rows

/-- THE TIED CARD OF 'laws.FnHandsStandOfAll'. -/
def fnHandsStandOfAllCard : Claim7 := { stood := { row := fnHandsStandOfAllRow, standIns := [], harness := (true, "b465bd6ede1a08c26e24718f4dce4c0abc23f26913f7b46747028ac0d662d62f"), looks := true }, kinds := [], alts := [], laidByText := true, laidKinds := [.data, .data, .data, .sentinel, .sentinel], laidTests := true, laidLooks := .later }
def FnHandsStandOfAllCardSaid : Prop := Claim7.holds Tryz.pinned (.plain (OpenSpec.ofChange fnHandsStandOfAllSpec)) fnHandsStandOfAllCard

/-- THE SECOND FORM's CARD OF 'laws.FnHandsStandOfAll'. -/
def fnHandsStandOfAllUptoCard : Claim7 := { stood := { row := fnHandsStandOfAllUptoRow, standIns := [], harness := (true, "b465bd6ede1a08c26e24718f4dce4c0abc23f26913f7b46747028ac0d662d62f"), looks := true }, kinds := [], alts := [], laidByText := true, laidKinds := [.data, .data, .data, .sentinel, .sentinel], laidTests := true, laidLooks := .later }
def FnHandsStandOfAllUptoCardSaid : Prop := Claim7.holds Tryz.pinned (.plain (OpenSpec.upto fnHandsStandOfAllSpec)) fnHandsStandOfAllUptoCard
end Rows
end Go.Proofs.YtchglfpiicaedaaGreatDoor
