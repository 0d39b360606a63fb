/-
  DERIVED. GIVEN WITH THE SEED: THE CARDS: each row of YtpkaloknohpleaaGreatDoorRows.lean that lists a variable, with what it lists TIED to the program's text (the seventh form; the later family's looks); each row that meets fmt, with fmt's text TOLD by the authors' own Lean function (tested against real Go, not proved from fmt's source: count such statements apart). THE CARD IS WHAT COUNTS. Prove the row's statement (the work); the ties are given (YtpkaloknohpleaaGreatDoorTie.lean); close each card by the builder's one call (the guide's Derived/Test/ToyasCard.lean, 'card_holds'). Laid BY PROGRAM, IN A SANDBOX (cutbox-door.mjs). By AI agents, Wed Nov 11 2026. No macro, syntax, notation, axiom, sorry.
-/
import Derived.Test.YtpkaloknohpleaaGreatDoorRows
import GoSem.ClaimSeven
namespace Go.Proofs.YtpkaloknohpleaaGreatDoor
namespace Rows

/-- THE TIED CARD OF 'orangerylaw.StoryTree'. -/
def storyTreeCard : Claim7 := { stood := { row := storyTreeRow, standIns := [], harness := (true, "38609dfd9591d0d0aa3b720bdbc6c39407bd99e8a6d5766142e2bec977ab3d12"), looks := true }, kinds := [], alts := [], laidByText := true, laidKinds := [.data, .data, .data, .data, .sentinel, .sentinel, .pinned], laidTests := true, laidLooks := .later }
def StoryTreeCardSaid : Prop := Claim7.holds Tryz.pinned (.plain (OpenSpec.ofChange storyTreeSpec)) storyTreeCard

/-- THE TIED CARD OF 'orangerylaw.StorySees'. -/
def storySeesCard : Claim7 := { stood := { row := storySeesRow, standIns := [], harness := (true, "38609dfd9591d0d0aa3b720bdbc6c39407bd99e8a6d5766142e2bec977ab3d12"), looks := true }, kinds := [], alts := [], laidByText := true, laidKinds := [.data, .data, .data, .data, .sentinel, .sentinel, .pinned], laidTests := true, laidLooks := .later }
def StorySeesCardSaid : Prop := Claim7.holds Tryz.pinned (.plain (OpenSpec.ofChange storySeesSpec)) storySeesCard

/-- THE TIED CARD OF 'orangerylaw.StoryOnce'. -/
def storyOnceCard : Claim7 := { stood := { row := storyOnceRow, standIns := [], harness := (true, "38609dfd9591d0d0aa3b720bdbc6c39407bd99e8a6d5766142e2bec977ab3d12"), looks := true }, kinds := [], alts := [], laidByText := true, laidKinds := [.data, .data, .data, .data, .sentinel, .sentinel, .pinned], laidTests := true, laidLooks := .later }
def StoryOnceCardSaid : Prop := Claim7.holds Tryz.pinned (.plain (OpenSpec.ofChange storyOnceSpec)) storyOnceCard

/-- THE SECOND FORM's CARD OF 'orangerylaw.StoryTree'. -/
def storyTreeUptoCard : Claim7 := { stood := { row := storyTreeUptoRow, standIns := [], harness := (true, "38609dfd9591d0d0aa3b720bdbc6c39407bd99e8a6d5766142e2bec977ab3d12"), looks := true }, kinds := [], alts := [], laidByText := true, laidKinds := [.data, .data, .data, .data, .sentinel, .sentinel, .pinned], laidTests := true, laidLooks := .later }
def StoryTreeUptoCardSaid : Prop := Claim7.holds Tryz.pinned (.plain (OpenSpec.upto storyTreeSpec)) storyTreeUptoCard

/-- THE SECOND FORM's CARD OF 'orangerylaw.StorySees'. -/
def storySeesUptoCard : Claim7 := { stood := { row := storySeesUptoRow, standIns := [], harness := (true, "38609dfd9591d0d0aa3b720bdbc6c39407bd99e8a6d5766142e2bec977ab3d12"), looks := true }, kinds := [], alts := [], laidByText := true, laidKinds := [.data, .data, .data, .data, .sentinel, .sentinel, .pinned], laidTests := true, laidLooks := .later }
def StorySeesUptoCardSaid : Prop := Claim7.holds Tryz.pinned (.plain (OpenSpec.upto storySeesSpec)) storySeesUptoCard

/-- THE SECOND FORM's CARD OF 'orangerylaw.StoryOnce'. -/
def storyOnceUptoCard : Claim7 := { stood := { row := storyOnceUptoRow, standIns := [], harness := (true, "38609dfd9591d0d0aa3b720bdbc6c39407bd99e8a6d5766142e2bec977ab3d12"), looks := true }, kinds := [], alts := [], laidByText := true, laidKinds := [.data, .data, .data, .data, .sentinel, .sentinel, .pinned], laidTests := true, laidLooks := .later }
def StoryOnceUptoCardSaid : Prop := Claim7.holds Tryz.pinned (.plain (OpenSpec.upto storyOnceSpec)) storyOnceUptoCard
end Rows
end Go.Proofs.YtpkaloknohpleaaGreatDoor
