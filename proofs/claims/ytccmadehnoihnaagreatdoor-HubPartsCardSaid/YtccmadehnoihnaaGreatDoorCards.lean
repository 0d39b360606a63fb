/-
  DERIVED. GIVEN WITH THE SEED: THE CARDS: each row of YtccmadehnoihnaaGreatDoorRows.lean that lists a variable, with what it lists TIED to the program's text (the seventh form; the later family's looks); each row that meets fmt, with fmt's text TOLD by the authors' own Lean function (tested against real Go, not proved from fmt's source: count such statements apart). THE CARD IS WHAT COUNTS. Prove the row's statement (the work); the ties are given (YtccmadehnoihnaaGreatDoorTie.lean); close each card by the builder's one call (the guide's Derived/Test/ToyasCard.lean, 'card_holds'). Laid BY PROGRAM, IN A SANDBOX (cutbox-door.mjs). By AI agents, Wed Nov 11 2026. No macro, syntax, notation, axiom, sorry.
-/
import Derived.Test.YtccmadehnoihnaaGreatDoorRows
import GoSem.ClaimSeven
namespace Go.Proofs.YtccmadehnoihnaaGreatDoor
namespace Rows

/-- THE TIED CARD OF 'orangerylaw.HubParts'. -/
def hubPartsCard : Claim7 := { stood := { row := hubPartsRow, standIns := [], harness := (true, "9288ec85024959beeab315331fc405b5acb50a8d88ba4be7b734e73ef504749e"), looks := true }, kinds := [], alts := [], laidByText := true, laidKinds := [.data, .data, .data, .data, .sentinel, .sentinel, .pinned], laidTests := true, laidLooks := .later }
def HubPartsCardSaid : Prop := Claim7.holds Tryz.pinned (.plain (OpenSpec.ofChange hubPartsSpec)) hubPartsCard

/-- THE SECOND FORM's CARD OF 'orangerylaw.HubParts'. -/
def hubPartsUptoCard : Claim7 := { stood := { row := hubPartsUptoRow, standIns := [], harness := (true, "9288ec85024959beeab315331fc405b5acb50a8d88ba4be7b734e73ef504749e"), looks := true }, kinds := [], alts := [], laidByText := true, laidKinds := [.data, .data, .data, .data, .sentinel, .sentinel, .pinned], laidTests := true, laidLooks := .later }
def HubPartsUptoCardSaid : Prop := Claim7.holds Tryz.pinned (.plain (OpenSpec.upto hubPartsSpec)) hubPartsUptoCard
end Rows
end Go.Proofs.YtccmadehnoihnaaGreatDoor
