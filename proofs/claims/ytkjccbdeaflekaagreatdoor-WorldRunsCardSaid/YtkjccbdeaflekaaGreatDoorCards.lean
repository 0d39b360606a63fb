/-
  DERIVED. GIVEN WITH THE SEED: THE CARDS: each row of YtkjccbdeaflekaaGreatDoorRows.lean that lists a variable, with what it lists TIED to the program's text (the seventh form; the later family's looks); each row that meets fmt, with fmt's text TOLD by the authors' own Lean function (tested against real Go, not proved from fmt's source: count such statements apart). THE CARD IS WHAT COUNTS. Prove the row's statement (the work); the ties are given (YtkjccbdeaflekaaGreatDoorTie.lean); close each card by the builder's one call (the guide's Derived/Test/ToyasCard.lean, 'card_holds'). Laid BY PROGRAM, IN A SANDBOX (cutbox-door.mjs). By AI agents, Wed Nov 11 2026. No macro, syntax, notation, axiom, sorry.
-/
import Derived.Test.YtkjccbdeaflekaaGreatDoorRows
import GoSem.ClaimSeven
namespace Go.Proofs.YtkjccbdeaflekaaGreatDoor
namespace Rows

/-- THE TIED CARD OF 'orangerylaw.WorldRuns'. -/
def worldRunsCard : Claim7 := { stood := { row := worldRunsRow, standIns := [], harness := (true, "b511acc97878c561733fabbe88ba21788b6cd08f82e09a3e00101e0fc4720dff"), looks := true }, kinds := [], alts := [], laidByText := true, laidKinds := [.data, .data, .data, .data, .sentinel, .sentinel, .pinned], laidTests := true, laidLooks := .later }
def WorldRunsCardSaid : Prop := Claim7.holds Tryz.pinned (.plain (OpenSpec.ofChange worldRunsSpec)) worldRunsCard

/-- THE TIED CARD OF 'orangerylaw.WorldDoes'. -/
def worldDoesCard : Claim7 := { stood := { row := worldDoesRow, standIns := [], harness := (true, "b511acc97878c561733fabbe88ba21788b6cd08f82e09a3e00101e0fc4720dff"), looks := true }, kinds := [], alts := [], laidByText := true, laidKinds := [.data, .data, .data, .data, .sentinel, .sentinel, .pinned], laidTests := true, laidLooks := .later }
def WorldDoesCardSaid : Prop := Claim7.holds Tryz.pinned (.plain (OpenSpec.ofChange worldDoesSpec)) worldDoesCard

/-- THE TIED CARD OF 'orangerylaw.StoryCalm'. -/
def storyCalmCard : Claim7 := { stood := { row := storyCalmRow, standIns := [], harness := (true, "b511acc97878c561733fabbe88ba21788b6cd08f82e09a3e00101e0fc4720dff"), looks := true }, kinds := [], alts := [], laidByText := true, laidKinds := [.data, .data, .data, .data, .sentinel, .sentinel, .pinned], laidTests := true, laidLooks := .later }
def StoryCalmCardSaid : Prop := Claim7.holds Tryz.pinned (.plain (OpenSpec.ofChange storyCalmSpec)) storyCalmCard

/-- THE TIED CARD OF 'orangerylaw.StorySays'. -/
def storySaysCard : Claim7 := { stood := { row := storySaysRow, standIns := [], harness := (true, "b511acc97878c561733fabbe88ba21788b6cd08f82e09a3e00101e0fc4720dff"), looks := true }, kinds := [], alts := [], laidByText := true, laidKinds := [.data, .data, .data, .data, .sentinel, .sentinel, .pinned], laidTests := true, laidLooks := .later }
def StorySaysCardSaid : Prop := Claim7.holds Tryz.pinned (.plain (OpenSpec.ofChange storySaysSpec)) storySaysCard

/-- THE SECOND FORM's CARD OF 'orangerylaw.WorldRuns'. -/
def worldRunsUptoCard : Claim7 := { stood := { row := worldRunsUptoRow, standIns := [], harness := (true, "b511acc97878c561733fabbe88ba21788b6cd08f82e09a3e00101e0fc4720dff"), looks := true }, kinds := [], alts := [], laidByText := true, laidKinds := [.data, .data, .data, .data, .sentinel, .sentinel, .pinned], laidTests := true, laidLooks := .later }
def WorldRunsUptoCardSaid : Prop := Claim7.holds Tryz.pinned (.plain (OpenSpec.upto worldRunsSpec)) worldRunsUptoCard

/-- THE SECOND FORM's CARD OF 'orangerylaw.WorldDoes'. -/
def worldDoesUptoCard : Claim7 := { stood := { row := worldDoesUptoRow, standIns := [], harness := (true, "b511acc97878c561733fabbe88ba21788b6cd08f82e09a3e00101e0fc4720dff"), looks := true }, kinds := [], alts := [], laidByText := true, laidKinds := [.data, .data, .data, .data, .sentinel, .sentinel, .pinned], laidTests := true, laidLooks := .later }
def WorldDoesUptoCardSaid : Prop := Claim7.holds Tryz.pinned (.plain (OpenSpec.upto worldDoesSpec)) worldDoesUptoCard

/-- THE SECOND FORM's CARD OF 'orangerylaw.StoryCalm'. -/
def storyCalmUptoCard : Claim7 := { stood := { row := storyCalmUptoRow, standIns := [], harness := (true, "b511acc97878c561733fabbe88ba21788b6cd08f82e09a3e00101e0fc4720dff"), looks := true }, kinds := [], alts := [], laidByText := true, laidKinds := [.data, .data, .data, .data, .sentinel, .sentinel, .pinned], laidTests := true, laidLooks := .later }
def StoryCalmUptoCardSaid : Prop := Claim7.holds Tryz.pinned (.plain (OpenSpec.upto storyCalmSpec)) storyCalmUptoCard

/-- THE SECOND FORM's CARD OF 'orangerylaw.StorySays'. -/
def storySaysUptoCard : Claim7 := { stood := { row := storySaysUptoRow, standIns := [], harness := (true, "b511acc97878c561733fabbe88ba21788b6cd08f82e09a3e00101e0fc4720dff"), looks := true }, kinds := [], alts := [], laidByText := true, laidKinds := [.data, .data, .data, .data, .sentinel, .sentinel, .pinned], laidTests := true, laidLooks := .later }
def StorySaysUptoCardSaid : Prop := Claim7.holds Tryz.pinned (.plain (OpenSpec.upto storySaysSpec)) storySaysUptoCard
end Rows
end Go.Proofs.YtkjccbdeaflekaaGreatDoor
