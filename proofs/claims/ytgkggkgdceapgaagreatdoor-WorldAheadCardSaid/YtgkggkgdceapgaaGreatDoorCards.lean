/-
  DERIVED. GIVEN WITH THE SEED: THE CARDS: each row of YtgkggkgdceapgaaGreatDoorRows.lean that lists a variable, with what it lists TIED to the program's text (the seventh form; the later family's looks); each row that meets fmt, with fmt's text TOLD by the authors' own Lean function (tested against real Go, not proved from fmt's source: count such statements apart). THE CARD IS WHAT COUNTS. Prove the row's statement (the work); the ties are given (YtgkggkgdceapgaaGreatDoorTie.lean); close each card by the builder's one call (the guide's Derived/Test/ToyasCard.lean, 'card_holds'). Laid BY PROGRAM, IN A SANDBOX (cutbox-door.mjs). By AI agents, Wed Nov 11 2026. No macro, syntax, notation, axiom, sorry.
-/
import Derived.Test.YtgkggkgdceapgaaGreatDoorRows
import GoSem.ClaimSeven
namespace Go.Proofs.YtgkggkgdceapgaaGreatDoor
namespace Rows

/-- THE TIED CARD OF 'orangerylaw.WorldParts'. -/
def worldPartsCard : Claim7 := { stood := { row := worldPartsRow, standIns := [], harness := (true, "6a1279a22a02e63429dff5165ef15c74059904ff22408555226000ec35544305"), looks := true }, kinds := [], alts := [], laidByText := true, laidKinds := [.data, .data, .data, .data, .sentinel, .sentinel, .pinned], laidTests := true, laidLooks := .later }
def WorldPartsCardSaid : Prop := Claim7.holds Tryz.pinned (.plain (OpenSpec.ofChange worldPartsSpec)) worldPartsCard

/-- THE TIED CARD OF 'orangerylaw.WorldKeeps'. -/
def worldKeepsCard : Claim7 := { stood := { row := worldKeepsRow, standIns := [], harness := (true, "6a1279a22a02e63429dff5165ef15c74059904ff22408555226000ec35544305"), looks := true }, kinds := [], alts := [], laidByText := true, laidKinds := [.data, .data, .data, .data, .sentinel, .sentinel, .pinned], laidTests := true, laidLooks := .later }
def WorldKeepsCardSaid : Prop := Claim7.holds Tryz.pinned (.plain (OpenSpec.ofChange worldKeepsSpec)) worldKeepsCard

/-- THE TIED CARD OF 'orangerylaw.WorldStands'. -/
def worldStandsCard : Claim7 := { stood := { row := worldStandsRow, standIns := [], harness := (true, "6a1279a22a02e63429dff5165ef15c74059904ff22408555226000ec35544305"), looks := true }, kinds := [], alts := [], laidByText := true, laidKinds := [.data, .data, .data, .data, .sentinel, .sentinel, .pinned], laidTests := true, laidLooks := .later }
def WorldStandsCardSaid : Prop := Claim7.holds Tryz.pinned (.plain (OpenSpec.ofChange worldStandsSpec)) worldStandsCard

/-- THE TIED CARD OF 'orangerylaw.WorldTwice'. -/
def worldTwiceCard : Claim7 := { stood := { row := worldTwiceRow, standIns := [], harness := (true, "6a1279a22a02e63429dff5165ef15c74059904ff22408555226000ec35544305"), looks := true }, kinds := [], alts := [], laidByText := true, laidKinds := [.data, .data, .data, .data, .sentinel, .sentinel, .pinned], laidTests := true, laidLooks := .later }
def WorldTwiceCardSaid : Prop := Claim7.holds Tryz.pinned (.plain (OpenSpec.ofChange worldTwiceSpec)) worldTwiceCard

/-- THE TIED CARD OF 'orangerylaw.WorldAhead'. -/
def worldAheadCard : Claim7 := { stood := { row := worldAheadRow, standIns := [], harness := (true, "6a1279a22a02e63429dff5165ef15c74059904ff22408555226000ec35544305"), looks := true }, kinds := [], alts := [], laidByText := true, laidKinds := [.data, .data, .data, .data, .sentinel, .sentinel, .pinned], laidTests := true, laidLooks := .later }
def WorldAheadCardSaid : Prop := Claim7.holds Tryz.pinned (.plain (OpenSpec.ofChange worldAheadSpec)) worldAheadCard

/-- THE SECOND FORM's CARD OF 'orangerylaw.WorldParts'. -/
def worldPartsUptoCard : Claim7 := { stood := { row := worldPartsUptoRow, standIns := [], harness := (true, "6a1279a22a02e63429dff5165ef15c74059904ff22408555226000ec35544305"), looks := true }, kinds := [], alts := [], laidByText := true, laidKinds := [.data, .data, .data, .data, .sentinel, .sentinel, .pinned], laidTests := true, laidLooks := .later }
def WorldPartsUptoCardSaid : Prop := Claim7.holds Tryz.pinned (.plain (OpenSpec.upto worldPartsSpec)) worldPartsUptoCard

/-- THE SECOND FORM's CARD OF 'orangerylaw.WorldKeeps'. -/
def worldKeepsUptoCard : Claim7 := { stood := { row := worldKeepsUptoRow, standIns := [], harness := (true, "6a1279a22a02e63429dff5165ef15c74059904ff22408555226000ec35544305"), looks := true }, kinds := [], alts := [], laidByText := true, laidKinds := [.data, .data, .data, .data, .sentinel, .sentinel, .pinned], laidTests := true, laidLooks := .later }
def WorldKeepsUptoCardSaid : Prop := Claim7.holds Tryz.pinned (.plain (OpenSpec.upto worldKeepsSpec)) worldKeepsUptoCard

/-- THE SECOND FORM's CARD OF 'orangerylaw.WorldStands'. -/
def worldStandsUptoCard : Claim7 := { stood := { row := worldStandsUptoRow, standIns := [], harness := (true, "6a1279a22a02e63429dff5165ef15c74059904ff22408555226000ec35544305"), looks := true }, kinds := [], alts := [], laidByText := true, laidKinds := [.data, .data, .data, .data, .sentinel, .sentinel, .pinned], laidTests := true, laidLooks := .later }
def WorldStandsUptoCardSaid : Prop := Claim7.holds Tryz.pinned (.plain (OpenSpec.upto worldStandsSpec)) worldStandsUptoCard

/-- THE SECOND FORM's CARD OF 'orangerylaw.WorldTwice'. -/
def worldTwiceUptoCard : Claim7 := { stood := { row := worldTwiceUptoRow, standIns := [], harness := (true, "6a1279a22a02e63429dff5165ef15c74059904ff22408555226000ec35544305"), looks := true }, kinds := [], alts := [], laidByText := true, laidKinds := [.data, .data, .data, .data, .sentinel, .sentinel, .pinned], laidTests := true, laidLooks := .later }
def WorldTwiceUptoCardSaid : Prop := Claim7.holds Tryz.pinned (.plain (OpenSpec.upto worldTwiceSpec)) worldTwiceUptoCard

/-- THE SECOND FORM's CARD OF 'orangerylaw.WorldAhead'. -/
def worldAheadUptoCard : Claim7 := { stood := { row := worldAheadUptoRow, standIns := [], harness := (true, "6a1279a22a02e63429dff5165ef15c74059904ff22408555226000ec35544305"), looks := true }, kinds := [], alts := [], laidByText := true, laidKinds := [.data, .data, .data, .data, .sentinel, .sentinel, .pinned], laidTests := true, laidLooks := .later }
def WorldAheadUptoCardSaid : Prop := Claim7.holds Tryz.pinned (.plain (OpenSpec.upto worldAheadSpec)) worldAheadUptoCard
end Rows
end Go.Proofs.YtgkggkgdceapgaaGreatDoor
