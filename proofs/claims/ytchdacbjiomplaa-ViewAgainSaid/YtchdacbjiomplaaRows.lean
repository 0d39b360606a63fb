/-
  No cell of these rows narrows 'for every input' (looked for: loops, veiled, ifaces, maps, wideKeys, modest, calm, conditions, laid).
  DERIVED. THE GIVEN ROWS OF THIS SEAT. 24 by the template 'for every input the law returns true; each argument reads behind the call as it read before'; 0 by the template 'total and deterministic' (their statements: YtchdacbjiomplaaTotals.lean).
  GIVEN WITH THE SEED: the statements are not yours to turn. If you find one false, say at which input.
  Laid BY PROGRAM, IN A SANDBOX (cutbox-rows.mjs): the forced cells as the released guide's own fill.sh prints them over the translation e584b1fa91163f31… (all of the seat's roots in one cut). By AI agents, Wed Nov 11 2026. No macro, syntax, notation, axiom, sorry.
-/
import Derived.Test.YtchdacbjiomplaaChecked
import GoSem.Claim
import GoSem.ClaimJoined
import GoSem.ClaimMapViews
import Derived.JoinedTies
import Derived.KernelRfl
namespace Go.Proofs.Ytchdacbjiomplaa
/- THE CELL 'sum', in the pinned program and in every row, IS THE sha256 OF THE DUMP (.gsa) THAT YtchdacbjiomplaaProg.lean LOADS. Nothing in Lean hashes anything: it is a label: what it is worth is what the hold of that sum in a sandbox is worth. -/
noncomputable def Try.pinned : Pinned := { name := "ytchdacbjiomplaa", sum := "e584b1fa91163f31585db75fb6a83bfc71150090b71adc7db01ebde6f74fda40", checked := Try.checked }
namespace Rows
def none {H : Type} : Left H := { results := [], args := [] }

/-- 'orangerylaw.Names': WHATEVER THE INPUT: true; the input reads as it did. -/
def namesSpec : ChangeSpec := { name := "names", fn := fun _ => fun
  | [] => { results := [.lit (.bool true)], args := [] }
  | _ => none }
def namesRow : OpenClaim := { program := "ytchdacbjiomplaa", sum := "e584b1fa91163f31585db75fb6a83bfc71150090b71adc7db01ebde6f74fda40", func := "orangery/orangerylaw.Names", spec := "names", apart := false }
def NamesSaid : Prop := namesRow.holds Try.pinned (OpenSpec.ofChange namesSpec)

/-- ITS FALSE NEIGHBOUR: 'it returns false'. Refute it at one input. -/
def namesWrong : ChangeSpec := { name := "names", fn := fun _ => fun
  | [] => { results := [.lit (.bool false)], args := [] }
  | _ => none }
def NamesWrongFalsely : Prop := namesRow.holds Try.pinned (OpenSpec.ofChange namesWrong)

/-- 'orangerylaw.MoveUndone': WHATEVER THE INPUT: true; the input reads as it did. -/
def moveUndoneSpec : ChangeSpec := { name := "moveUndone", fn := fun _ => fun
  | [d1, d2] => { results := [.lit (.bool true)], args := [d1, d2] }
  | _ => none }
def moveUndoneRow : OpenClaim := { program := "ytchdacbjiomplaa", sum := "e584b1fa91163f31585db75fb6a83bfc71150090b71adc7db01ebde6f74fda40", func := "orangery/orangerylaw.MoveUndone", spec := "moveUndone", apart := false }
def MoveUndoneSaid : Prop := moveUndoneRow.holds Try.pinned (OpenSpec.ofChange moveUndoneSpec)

/-- ITS FALSE NEIGHBOUR: 'it returns false'. Refute it at one input. -/
def moveUndoneWrong : ChangeSpec := { name := "moveUndone", fn := fun _ => fun
  | [d1, d2] => { results := [.lit (.bool false)], args := [d1, d2] }
  | _ => none }
def MoveUndoneWrongFalsely : Prop := moveUndoneRow.holds Try.pinned (OpenSpec.ofChange moveUndoneWrong)

/-- 'orangerylaw.MoveSays': WHATEVER THE INPUT: true; the input reads as it did. -/
def moveSaysSpec : ChangeSpec := { name := "moveSays", fn := fun _ => fun
  | [d1, d2, d3] => { results := [.lit (.bool true)], args := [d1, d2, d3] }
  | _ => none }
def moveSaysRow : OpenClaim := { program := "ytchdacbjiomplaa", sum := "e584b1fa91163f31585db75fb6a83bfc71150090b71adc7db01ebde6f74fda40", func := "orangery/orangerylaw.MoveSays", spec := "moveSays", unfollowed := true, recurses := true, apart := false }
def MoveSaysSaid : Prop := moveSaysRow.holds Try.pinned (OpenSpec.ofChange moveSaysSpec)

/-- ITS FALSE NEIGHBOUR: 'it returns false'. Refute it at one input. -/
def moveSaysWrong : ChangeSpec := { name := "moveSays", fn := fun _ => fun
  | [d1, d2, d3] => { results := [.lit (.bool false)], args := [d1, d2, d3] }
  | _ => none }
def MoveSaysWrongFalsely : Prop := moveSaysRow.holds Try.pinned (OpenSpec.ofChange moveSaysWrong)

/-- 'orangerylaw.ViewMore': WHATEVER THE INPUT: true; the input reads as it did. -/
def viewMoreSpec : ChangeSpec := { name := "viewMore", fn := fun _ => fun
  | [d1, d2, d3] => { results := [.lit (.bool true)], args := [d1, d2, d3] }
  | _ => none }
def viewMoreRow : OpenClaim := { program := "ytchdacbjiomplaa", sum := "e584b1fa91163f31585db75fb6a83bfc71150090b71adc7db01ebde6f74fda40", func := "orangery/orangerylaw.ViewMore", spec := "viewMore", unfollowed := true, recurses := true, apart := false }
def ViewMoreSaid : Prop := viewMoreRow.holds Try.pinned (OpenSpec.ofChange viewMoreSpec)

/-- ITS FALSE NEIGHBOUR: 'it returns false'. Refute it at one input. -/
def viewMoreWrong : ChangeSpec := { name := "viewMore", fn := fun _ => fun
  | [d1, d2, d3] => { results := [.lit (.bool false)], args := [d1, d2, d3] }
  | _ => none }
def ViewMoreWrongFalsely : Prop := viewMoreRow.holds Try.pinned (OpenSpec.ofChange viewMoreWrong)

/-- 'orangerylaw.ViewSays': WHATEVER THE INPUT: true; the input reads as it did. -/
def viewSaysSpec : ChangeSpec := { name := "viewSays", fn := fun _ => fun
  | [d1, d2, d3, d4] => { results := [.lit (.bool true)], args := [d1, d2, d3, d4] }
  | _ => none }
def viewSaysRow : OpenClaim := { program := "ytchdacbjiomplaa", sum := "e584b1fa91163f31585db75fb6a83bfc71150090b71adc7db01ebde6f74fda40", func := "orangery/orangerylaw.ViewSays", spec := "viewSays", unfollowed := true, recurses := true, apart := false }
def ViewSaysSaid : Prop := viewSaysRow.holds Try.pinned (OpenSpec.ofChange viewSaysSpec)

/-- ITS FALSE NEIGHBOUR: 'it returns false'. Refute it at one input. -/
def viewSaysWrong : ChangeSpec := { name := "viewSays", fn := fun _ => fun
  | [d1, d2, d3, d4] => { results := [.lit (.bool false)], args := [d1, d2, d3, d4] }
  | _ => none }
def ViewSaysWrongFalsely : Prop := viewSaysRow.holds Try.pinned (OpenSpec.ofChange viewSaysWrong)

/-- 'orangerylaw.TreeOrder': WHATEVER THE INPUT: true; the input reads as it did. -/
def treeOrderSpec : ChangeSpec := { name := "treeOrder", fn := fun _ => fun
  | [d1, d2, d3, d4] => { results := [.lit (.bool true)], args := [d1, d2, d3, d4] }
  | _ => none }
def treeOrderRow : OpenClaim := { program := "ytchdacbjiomplaa", sum := "e584b1fa91163f31585db75fb6a83bfc71150090b71adc7db01ebde6f74fda40", func := "orangery/orangerylaw.TreeOrder", spec := "treeOrder", unfollowed := true, recurses := true, apart := false }
def TreeOrderSaid : Prop := treeOrderRow.holds Try.pinned (OpenSpec.ofChange treeOrderSpec)

/-- ITS FALSE NEIGHBOUR: 'it returns false'. Refute it at one input. -/
def treeOrderWrong : ChangeSpec := { name := "treeOrder", fn := fun _ => fun
  | [d1, d2, d3, d4] => { results := [.lit (.bool false)], args := [d1, d2, d3, d4] }
  | _ => none }
def TreeOrderWrongFalsely : Prop := treeOrderRow.holds Try.pinned (OpenSpec.ofChange treeOrderWrong)

/-- 'orangerylaw.TreeSays': WHATEVER THE INPUT: true; the input reads as it did. -/
def treeSaysSpec : ChangeSpec := { name := "treeSays", fn := fun _ => fun
  | [d1, d2, d3] => { results := [.lit (.bool true)], args := [d1, d2, d3] }
  | _ => none }
def treeSaysRow : OpenClaim := { program := "ytchdacbjiomplaa", sum := "e584b1fa91163f31585db75fb6a83bfc71150090b71adc7db01ebde6f74fda40", func := "orangery/orangerylaw.TreeSays", spec := "treeSays", unfollowed := true, recurses := true, apart := false }
def TreeSaysSaid : Prop := treeSaysRow.holds Try.pinned (OpenSpec.ofChange treeSaysSpec)

/-- ITS FALSE NEIGHBOUR: 'it returns false'. Refute it at one input. -/
def treeSaysWrong : ChangeSpec := { name := "treeSays", fn := fun _ => fun
  | [d1, d2, d3] => { results := [.lit (.bool false)], args := [d1, d2, d3] }
  | _ => none }
def TreeSaysWrongFalsely : Prop := treeSaysRow.holds Try.pinned (OpenSpec.ofChange treeSaysWrong)

/-- 'orangerylaw.DeltaMakes': WHATEVER THE INPUT: true; the input reads as it did. -/
def deltaMakesSpec : ChangeSpec := { name := "deltaMakes", fn := fun _ => fun
  | [d1, d2, d3, d4] => { results := [.lit (.bool true)], args := [d1, d2, d3, d4] }
  | _ => none }
def deltaMakesRow : OpenClaim := { program := "ytchdacbjiomplaa", sum := "e584b1fa91163f31585db75fb6a83bfc71150090b71adc7db01ebde6f74fda40", func := "orangery/orangerylaw.DeltaMakes", spec := "deltaMakes", unfollowed := true, recurses := true, apart := false }
def DeltaMakesSaid : Prop := deltaMakesRow.holds Try.pinned (OpenSpec.ofChange deltaMakesSpec)

/-- ITS FALSE NEIGHBOUR: 'it returns false'. Refute it at one input. -/
def deltaMakesWrong : ChangeSpec := { name := "deltaMakes", fn := fun _ => fun
  | [d1, d2, d3, d4] => { results := [.lit (.bool false)], args := [d1, d2, d3, d4] }
  | _ => none }
def DeltaMakesWrongFalsely : Prop := deltaMakesRow.holds Try.pinned (OpenSpec.ofChange deltaMakesWrong)

/-- 'orangerylaw.DeltaSays': WHATEVER THE INPUT: true; the input reads as it did. -/
def deltaSaysSpec : ChangeSpec := { name := "deltaSays", fn := fun _ => fun
  | [d1, d2, d3, d4] => { results := [.lit (.bool true)], args := [d1, d2, d3, d4] }
  | _ => none }
def deltaSaysRow : OpenClaim := { program := "ytchdacbjiomplaa", sum := "e584b1fa91163f31585db75fb6a83bfc71150090b71adc7db01ebde6f74fda40", func := "orangery/orangerylaw.DeltaSays", spec := "deltaSays", unfollowed := true, recurses := true, apart := false }
def DeltaSaysSaid : Prop := deltaSaysRow.holds Try.pinned (OpenSpec.ofChange deltaSaysSpec)

/-- ITS FALSE NEIGHBOUR: 'it returns false'. Refute it at one input. -/
def deltaSaysWrong : ChangeSpec := { name := "deltaSays", fn := fun _ => fun
  | [d1, d2, d3, d4] => { results := [.lit (.bool false)], args := [d1, d2, d3, d4] }
  | _ => none }
def DeltaSaysWrongFalsely : Prop := deltaSaysRow.holds Try.pinned (OpenSpec.ofChange deltaSaysWrong)

/-- 'orangerylaw.WayBack': WHATEVER THE INPUT: true; the input reads as it did. -/
def wayBackSpec : ChangeSpec := { name := "wayBack", fn := fun _ => fun
  | [d1, d2, d3] => { results := [.lit (.bool true)], args := [d1, d2, d3] }
  | _ => none }
def wayBackRow : OpenClaim := { program := "ytchdacbjiomplaa", sum := "e584b1fa91163f31585db75fb6a83bfc71150090b71adc7db01ebde6f74fda40", func := "orangery/orangerylaw.WayBack", spec := "wayBack", unfollowed := true, recurses := true, apart := false }
def WayBackSaid : Prop := wayBackRow.holds Try.pinned (OpenSpec.ofChange wayBackSpec)

/-- ITS FALSE NEIGHBOUR: 'it returns false'. Refute it at one input. -/
def wayBackWrong : ChangeSpec := { name := "wayBack", fn := fun _ => fun
  | [d1, d2, d3] => { results := [.lit (.bool false)], args := [d1, d2, d3] }
  | _ => none }
def WayBackWrongFalsely : Prop := wayBackRow.holds Try.pinned (OpenSpec.ofChange wayBackWrong)

/-- 'orangerylaw.WaySays': WHATEVER THE INPUT: true; the input reads as it did. -/
def waySaysSpec : ChangeSpec := { name := "waySays", fn := fun _ => fun
  | [d1, d2, d3, d4, d5] => { results := [.lit (.bool true)], args := [d1, d2, d3, d4, d5] }
  | _ => none }
def waySaysRow : OpenClaim := { program := "ytchdacbjiomplaa", sum := "e584b1fa91163f31585db75fb6a83bfc71150090b71adc7db01ebde6f74fda40", func := "orangery/orangerylaw.WaySays", spec := "waySays", unfollowed := true, recurses := true, apart := false }
def WaySaysSaid : Prop := waySaysRow.holds Try.pinned (OpenSpec.ofChange waySaysSpec)

/-- ITS FALSE NEIGHBOUR: 'it returns false'. Refute it at one input. -/
def waySaysWrong : ChangeSpec := { name := "waySays", fn := fun _ => fun
  | [d1, d2, d3, d4, d5] => { results := [.lit (.bool false)], args := [d1, d2, d3, d4, d5] }
  | _ => none }
def WaySaysWrongFalsely : Prop := waySaysRow.holds Try.pinned (OpenSpec.ofChange waySaysWrong)

/-- 'orangerylaw.HistoryLate': WHATEVER THE INPUT: true; the input reads as it did. -/
def historyLateSpec : ChangeSpec := { name := "historyLate", fn := fun _ => fun
  | [d1, d2] => { results := [.lit (.bool true)], args := [d1, d2] }
  | _ => none }
def historyLateRow : OpenClaim := { program := "ytchdacbjiomplaa", sum := "e584b1fa91163f31585db75fb6a83bfc71150090b71adc7db01ebde6f74fda40", func := "orangery/orangerylaw.HistoryLate", spec := "historyLate", unfollowed := true, recurses := true, apart := false }
def HistoryLateSaid : Prop := historyLateRow.holds Try.pinned (OpenSpec.ofChange historyLateSpec)

/-- ITS FALSE NEIGHBOUR: 'it returns false'. Refute it at one input. -/
def historyLateWrong : ChangeSpec := { name := "historyLate", fn := fun _ => fun
  | [d1, d2] => { results := [.lit (.bool false)], args := [d1, d2] }
  | _ => none }
def HistoryLateWrongFalsely : Prop := historyLateRow.holds Try.pinned (OpenSpec.ofChange historyLateWrong)

/-- 'orangerylaw.HistorySays': WHATEVER THE INPUT: true; the input reads as it did. -/
def historySaysSpec : ChangeSpec := { name := "historySays", fn := fun _ => fun
  | [d1, d2, d3, d4] => { results := [.lit (.bool true)], args := [d1, d2, d3, d4] }
  | _ => none }
def historySaysRow : OpenClaim := { program := "ytchdacbjiomplaa", sum := "e584b1fa91163f31585db75fb6a83bfc71150090b71adc7db01ebde6f74fda40", func := "orangery/orangerylaw.HistorySays", spec := "historySays", unfollowed := true, recurses := true, apart := false }
def HistorySaysSaid : Prop := historySaysRow.holds Try.pinned (OpenSpec.ofChange historySaysSpec)

/-- ITS FALSE NEIGHBOUR: 'it returns false'. Refute it at one input. -/
def historySaysWrong : ChangeSpec := { name := "historySays", fn := fun _ => fun
  | [d1, d2, d3, d4] => { results := [.lit (.bool false)], args := [d1, d2, d3, d4] }
  | _ => none }
def HistorySaysWrongFalsely : Prop := historySaysRow.holds Try.pinned (OpenSpec.ofChange historySaysWrong)

/-- 'orangerylaw.HistoryLast': WHATEVER THE INPUT: true; the input reads as it did. -/
def historyLastSpec : ChangeSpec := { name := "historyLast", fn := fun _ => fun
  | [d] => { results := [.lit (.bool true)], args := [d] }
  | _ => none }
def historyLastRow : OpenClaim := { program := "ytchdacbjiomplaa", sum := "e584b1fa91163f31585db75fb6a83bfc71150090b71adc7db01ebde6f74fda40", func := "orangery/orangerylaw.HistoryLast", spec := "historyLast", unfollowed := true, recurses := true, apart := false }
def HistoryLastSaid : Prop := historyLastRow.holds Try.pinned (OpenSpec.ofChange historyLastSpec)

/-- ITS FALSE NEIGHBOUR: 'it returns false'. Refute it at one input. -/
def historyLastWrong : ChangeSpec := { name := "historyLast", fn := fun _ => fun
  | [d] => { results := [.lit (.bool false)], args := [d] }
  | _ => none }
def HistoryLastWrongFalsely : Prop := historyLastRow.holds Try.pinned (OpenSpec.ofChange historyLastWrong)

/-- 'orangerylaw.HistoryAny': WHATEVER THE INPUT: true; the input reads as it did. -/
def historyAnySpec : ChangeSpec := { name := "historyAny", fn := fun _ => fun
  | [d1, d2] => { results := [.lit (.bool true)], args := [d1, d2] }
  | _ => none }
def historyAnyRow : OpenClaim := { program := "ytchdacbjiomplaa", sum := "e584b1fa91163f31585db75fb6a83bfc71150090b71adc7db01ebde6f74fda40", func := "orangery/orangerylaw.HistoryAny", spec := "historyAny", unfollowed := true, recurses := true, apart := false }
def HistoryAnySaid : Prop := historyAnyRow.holds Try.pinned (OpenSpec.ofChange historyAnySpec)

/-- ITS FALSE NEIGHBOUR: 'it returns false'. Refute it at one input. -/
def historyAnyWrong : ChangeSpec := { name := "historyAny", fn := fun _ => fun
  | [d1, d2] => { results := [.lit (.bool false)], args := [d1, d2] }
  | _ => none }
def HistoryAnyWrongFalsely : Prop := historyAnyRow.holds Try.pinned (OpenSpec.ofChange historyAnyWrong)

/-- 'orangerylaw.ClientKeeps': WHATEVER THE INPUT: true; the input reads as it did. -/
def clientKeepsSpec : ChangeSpec := { name := "clientKeeps", fn := fun _ => fun
  | [d1, d2, d3] => { results := [.lit (.bool true)], args := [d1, d2, d3] }
  | _ => none }
def clientKeepsRow : OpenClaim := { program := "ytchdacbjiomplaa", sum := "e584b1fa91163f31585db75fb6a83bfc71150090b71adc7db01ebde6f74fda40", func := "orangery/orangerylaw.ClientKeeps", spec := "clientKeeps", unfollowed := true, recurses := true, apart := false }
def ClientKeepsSaid : Prop := clientKeepsRow.holds Try.pinned (OpenSpec.ofChange clientKeepsSpec)

/-- ITS FALSE NEIGHBOUR: 'it returns false'. Refute it at one input. -/
def clientKeepsWrong : ChangeSpec := { name := "clientKeeps", fn := fun _ => fun
  | [d1, d2, d3] => { results := [.lit (.bool false)], args := [d1, d2, d3] }
  | _ => none }
def ClientKeepsWrongFalsely : Prop := clientKeepsRow.holds Try.pinned (OpenSpec.ofChange clientKeepsWrong)

/-- 'orangerylaw.ClientShows': WHATEVER THE INPUT: true; the input reads as it did. -/
def clientShowsSpec : ChangeSpec := { name := "clientShows", fn := fun _ => fun
  | [d1, d2, d3, d4, d5] => { results := [.lit (.bool true)], args := [d1, d2, d3, d4, d5] }
  | _ => none }
def clientShowsRow : OpenClaim := { program := "ytchdacbjiomplaa", sum := "e584b1fa91163f31585db75fb6a83bfc71150090b71adc7db01ebde6f74fda40", func := "orangery/orangerylaw.ClientShows", spec := "clientShows", unfollowed := true, recurses := true, apart := false }
def ClientShowsSaid : Prop := clientShowsRow.holds Try.pinned (OpenSpec.ofChange clientShowsSpec)

/-- ITS FALSE NEIGHBOUR: 'it returns false'. Refute it at one input. -/
def clientShowsWrong : ChangeSpec := { name := "clientShows", fn := fun _ => fun
  | [d1, d2, d3, d4, d5] => { results := [.lit (.bool false)], args := [d1, d2, d3, d4, d5] }
  | _ => none }
def ClientShowsWrongFalsely : Prop := clientShowsRow.holds Try.pinned (OpenSpec.ofChange clientShowsWrong)

/-- 'orangerylaw.ClientSays': WHATEVER THE INPUT: true; the input reads as it did. -/
def clientSaysSpec : ChangeSpec := { name := "clientSays", fn := fun _ => fun
  | [d1, d2, d3, d4, d5, d6] => { results := [.lit (.bool true)], args := [d1, d2, d3, d4, d5, d6] }
  | _ => none }
def clientSaysRow : OpenClaim := { program := "ytchdacbjiomplaa", sum := "e584b1fa91163f31585db75fb6a83bfc71150090b71adc7db01ebde6f74fda40", func := "orangery/orangerylaw.ClientSays", spec := "clientSays", unfollowed := true, recurses := true, apart := false }
def ClientSaysSaid : Prop := clientSaysRow.holds Try.pinned (OpenSpec.ofChange clientSaysSpec)

/-- ITS FALSE NEIGHBOUR: 'it returns false'. Refute it at one input. -/
def clientSaysWrong : ChangeSpec := { name := "clientSays", fn := fun _ => fun
  | [d1, d2, d3, d4, d5, d6] => { results := [.lit (.bool false)], args := [d1, d2, d3, d4, d5, d6] }
  | _ => none }
def ClientSaysWrongFalsely : Prop := clientSaysRow.holds Try.pinned (OpenSpec.ofChange clientSaysWrong)

/-- 'orangerylaw.ClientHears': WHATEVER THE INPUT: true; the input reads as it did. -/
def clientHearsSpec : ChangeSpec := { name := "clientHears", fn := fun _ => fun
  | [d1, d2, d3] => { results := [.lit (.bool true)], args := [d1, d2, d3] }
  | _ => none }
def clientHearsRow : OpenClaim := { program := "ytchdacbjiomplaa", sum := "e584b1fa91163f31585db75fb6a83bfc71150090b71adc7db01ebde6f74fda40", func := "orangery/orangerylaw.ClientHears", spec := "clientHears", unfollowed := true, recurses := true, apart := false }
def ClientHearsSaid : Prop := clientHearsRow.holds Try.pinned (OpenSpec.ofChange clientHearsSpec)

/-- ITS FALSE NEIGHBOUR: 'it returns false'. Refute it at one input. -/
def clientHearsWrong : ChangeSpec := { name := "clientHears", fn := fun _ => fun
  | [d1, d2, d3] => { results := [.lit (.bool false)], args := [d1, d2, d3] }
  | _ => none }
def ClientHearsWrongFalsely : Prop := clientHearsRow.holds Try.pinned (OpenSpec.ofChange clientHearsWrong)

/-- 'orangerylaw.ViewAgain': WHATEVER THE INPUT: true; the input reads as it did. -/
def viewAgainSpec : ChangeSpec := { name := "viewAgain", fn := fun _ => fun
  | [d1, d2] => { results := [.lit (.bool true)], args := [d1, d2] }
  | _ => none }
def viewAgainRow : OpenClaim := { program := "ytchdacbjiomplaa", sum := "e584b1fa91163f31585db75fb6a83bfc71150090b71adc7db01ebde6f74fda40", func := "orangery/orangerylaw.ViewAgain", spec := "viewAgain", unfollowed := true, recurses := true, apart := false }
def ViewAgainSaid : Prop := viewAgainRow.holds Try.pinned (OpenSpec.ofChange viewAgainSpec)

/-- ITS FALSE NEIGHBOUR: 'it returns false'. Refute it at one input. -/
def viewAgainWrong : ChangeSpec := { name := "viewAgain", fn := fun _ => fun
  | [d1, d2] => { results := [.lit (.bool false)], args := [d1, d2] }
  | _ => none }
def ViewAgainWrongFalsely : Prop := viewAgainRow.holds Try.pinned (OpenSpec.ofChange viewAgainWrong)

/-- 'orangerylaw.HubInOrder': WHATEVER THE INPUT: true; the input reads as it did. -/
def hubInOrderSpec : ChangeSpec := { name := "hubInOrder", fn := fun _ => fun
  | [d] => { results := [.lit (.bool true)], args := [d] }
  | _ => none }
def hubInOrderRow : OpenClaim := { program := "ytchdacbjiomplaa", sum := "e584b1fa91163f31585db75fb6a83bfc71150090b71adc7db01ebde6f74fda40", func := "orangery/orangerylaw.HubInOrder", spec := "hubInOrder", unfollowed := true, recurses := true, apart := false }
def HubInOrderSaid : Prop := hubInOrderRow.holds Try.pinned (OpenSpec.ofChange hubInOrderSpec)

/-- ITS FALSE NEIGHBOUR: 'it returns false'. Refute it at one input. -/
def hubInOrderWrong : ChangeSpec := { name := "hubInOrder", fn := fun _ => fun
  | [d] => { results := [.lit (.bool false)], args := [d] }
  | _ => none }
def HubInOrderWrongFalsely : Prop := hubInOrderRow.holds Try.pinned (OpenSpec.ofChange hubInOrderWrong)

/-- 'orangerylaw.HubSays': WHATEVER THE INPUT: true; the input reads as it did. -/
def hubSaysSpec : ChangeSpec := { name := "hubSays", fn := fun _ => fun
  | [d1, d2, d3, d4] => { results := [.lit (.bool true)], args := [d1, d2, d3, d4] }
  | _ => none }
def hubSaysRow : OpenClaim := { program := "ytchdacbjiomplaa", sum := "e584b1fa91163f31585db75fb6a83bfc71150090b71adc7db01ebde6f74fda40", func := "orangery/orangerylaw.HubSays", spec := "hubSays", unfollowed := true, recurses := true, apart := false }
def HubSaysSaid : Prop := hubSaysRow.holds Try.pinned (OpenSpec.ofChange hubSaysSpec)

/-- ITS FALSE NEIGHBOUR: 'it returns false'. Refute it at one input. -/
def hubSaysWrong : ChangeSpec := { name := "hubSays", fn := fun _ => fun
  | [d1, d2, d3, d4] => { results := [.lit (.bool false)], args := [d1, d2, d3, d4] }
  | _ => none }
def HubSaysWrongFalsely : Prop := hubSaysRow.holds Try.pinned (OpenSpec.ofChange hubSaysWrong)

/-- 'orangerylaw.HubReplays': WHATEVER THE INPUT: true; the input reads as it did. -/
def hubReplaysSpec : ChangeSpec := { name := "hubReplays", fn := fun _ => fun
  | [d] => { results := [.lit (.bool true)], args := [d] }
  | _ => none }
def hubReplaysRow : OpenClaim := { program := "ytchdacbjiomplaa", sum := "e584b1fa91163f31585db75fb6a83bfc71150090b71adc7db01ebde6f74fda40", func := "orangery/orangerylaw.HubReplays", spec := "hubReplays", unfollowed := true, recurses := true, apart := false }
def HubReplaysSaid : Prop := hubReplaysRow.holds Try.pinned (OpenSpec.ofChange hubReplaysSpec)

/-- ITS FALSE NEIGHBOUR: 'it returns false'. Refute it at one input. -/
def hubReplaysWrong : ChangeSpec := { name := "hubReplays", fn := fun _ => fun
  | [d] => { results := [.lit (.bool false)], args := [d] }
  | _ => none }
def HubReplaysWrongFalsely : Prop := hubReplaysRow.holds Try.pinned (OpenSpec.ofChange hubReplaysWrong)

/-- 'orangerylaw.HubSees': WHATEVER THE INPUT: true; the input reads as it did. -/
def hubSeesSpec : ChangeSpec := { name := "hubSees", fn := fun _ => fun
  | [d1, d2] => { results := [.lit (.bool true)], args := [d1, d2] }
  | _ => none }
def hubSeesRow : OpenClaim := { program := "ytchdacbjiomplaa", sum := "e584b1fa91163f31585db75fb6a83bfc71150090b71adc7db01ebde6f74fda40", func := "orangery/orangerylaw.HubSees", spec := "hubSees", unfollowed := true, recurses := true, apart := false }
def HubSeesSaid : Prop := hubSeesRow.holds Try.pinned (OpenSpec.ofChange hubSeesSpec)

/-- ITS FALSE NEIGHBOUR: 'it returns false'. Refute it at one input. -/
def hubSeesWrong : ChangeSpec := { name := "hubSees", fn := fun _ => fun
  | [d1, d2] => { results := [.lit (.bool false)], args := [d1, d2] }
  | _ => none }
def HubSeesWrongFalsely : Prop := hubSeesRow.holds Try.pinned (OpenSpec.ofChange hubSeesWrong)

/- THE SECOND FORM. 'bulk': how many values and letters a reading holds, each counted each time it is reached (what is shared counts as often as it is met; a slice's spare places count too). A statement '..UptoSaid' is the law's where the arguments, and the package variables that the reading takes, are together of bulk at most 1048576: NARROWER than '..Said'. Prove '..Said' where nothing that the law and all that it calls make is longer than what came in: it says more and counts as full. Else prove '..UptoSaid'. A law counts once. -/
mutual
def uptoBulk {H : Type} : DataW H → Nat
  | .lit (.string bytes) => bytes.length + 1
  | .lit _ => 1
  | .nil => 1
  | .ptr d => uptoBulk d + 1
  | .slice elems spare => uptoBulkAll elems + uptoBulkAll spare + 1
  | .agg parts => uptoBulkAll parts + 1
  | .iface _ d => uptoBulk d + 1
  | .map entries => uptoBulkEntries entries + 1
  | .held _ => 1
def uptoBulkAll {H : Type} : List (DataW H) → Nat
  | [] => 0
  | d :: r => uptoBulk d + uptoBulkAll r
def uptoBulkEntries {H : Type} : List (Lit × DataW H) → Nat
  | [] => 0
  | x :: r => uptoBulkEntry x + uptoBulkEntries r
def uptoBulkEntry {H : Type} : Lit × DataW H → Nat
  | (.string bytes, d) => bytes.length + uptoBulk d + 1
  | (_, d) => uptoBulk d + 1
 end
def uptoSmall : (H : Type) → List (DataW H) → Bool := fun _ ds => decide (uptoBulkAll ds ≤ 1048576)
def OpenSpec.upto (s : _root_.Go.ChangeSpec) : _root_.Go.OpenSpec := { _root_.Go.OpenSpec.ofChange s with cond := some uptoSmall }

/-- 'orangerylaw.Names', WHERE WHAT IT READS IS OF BULK AT MOST 1048576: true; the input reads as it did. -/
def namesUptoRow : OpenClaim := { program := "ytchdacbjiomplaa", sum := "e584b1fa91163f31585db75fb6a83bfc71150090b71adc7db01ebde6f74fda40", func := "orangery/orangerylaw.Names", spec := "names", apart := false, narrowed := true }
def NamesUptoSaid : Prop := namesUptoRow.holds Try.pinned (OpenSpec.upto namesSpec)

/-- 'orangerylaw.MoveUndone', WHERE WHAT IT READS IS OF BULK AT MOST 1048576: true; the input reads as it did. -/
def moveUndoneUptoRow : OpenClaim := { program := "ytchdacbjiomplaa", sum := "e584b1fa91163f31585db75fb6a83bfc71150090b71adc7db01ebde6f74fda40", func := "orangery/orangerylaw.MoveUndone", spec := "moveUndone", apart := false, narrowed := true }
def MoveUndoneUptoSaid : Prop := moveUndoneUptoRow.holds Try.pinned (OpenSpec.upto moveUndoneSpec)

/-- 'orangerylaw.MoveSays', WHERE WHAT IT READS IS OF BULK AT MOST 1048576: true; the input reads as it did. -/
def moveSaysUptoRow : OpenClaim := { program := "ytchdacbjiomplaa", sum := "e584b1fa91163f31585db75fb6a83bfc71150090b71adc7db01ebde6f74fda40", func := "orangery/orangerylaw.MoveSays", spec := "moveSays", unfollowed := true, recurses := true, apart := false, narrowed := true }
def MoveSaysUptoSaid : Prop := moveSaysUptoRow.holds Try.pinned (OpenSpec.upto moveSaysSpec)

/-- 'orangerylaw.ViewMore', WHERE WHAT IT READS IS OF BULK AT MOST 1048576: true; the input reads as it did. -/
def viewMoreUptoRow : OpenClaim := { program := "ytchdacbjiomplaa", sum := "e584b1fa91163f31585db75fb6a83bfc71150090b71adc7db01ebde6f74fda40", func := "orangery/orangerylaw.ViewMore", spec := "viewMore", unfollowed := true, recurses := true, apart := false, narrowed := true }
def ViewMoreUptoSaid : Prop := viewMoreUptoRow.holds Try.pinned (OpenSpec.upto viewMoreSpec)

/-- 'orangerylaw.ViewSays', WHERE WHAT IT READS IS OF BULK AT MOST 1048576: true; the input reads as it did. -/
def viewSaysUptoRow : OpenClaim := { program := "ytchdacbjiomplaa", sum := "e584b1fa91163f31585db75fb6a83bfc71150090b71adc7db01ebde6f74fda40", func := "orangery/orangerylaw.ViewSays", spec := "viewSays", unfollowed := true, recurses := true, apart := false, narrowed := true }
def ViewSaysUptoSaid : Prop := viewSaysUptoRow.holds Try.pinned (OpenSpec.upto viewSaysSpec)

/-- 'orangerylaw.TreeOrder', WHERE WHAT IT READS IS OF BULK AT MOST 1048576: true; the input reads as it did. -/
def treeOrderUptoRow : OpenClaim := { program := "ytchdacbjiomplaa", sum := "e584b1fa91163f31585db75fb6a83bfc71150090b71adc7db01ebde6f74fda40", func := "orangery/orangerylaw.TreeOrder", spec := "treeOrder", unfollowed := true, recurses := true, apart := false, narrowed := true }
def TreeOrderUptoSaid : Prop := treeOrderUptoRow.holds Try.pinned (OpenSpec.upto treeOrderSpec)

/-- 'orangerylaw.TreeSays', WHERE WHAT IT READS IS OF BULK AT MOST 1048576: true; the input reads as it did. -/
def treeSaysUptoRow : OpenClaim := { program := "ytchdacbjiomplaa", sum := "e584b1fa91163f31585db75fb6a83bfc71150090b71adc7db01ebde6f74fda40", func := "orangery/orangerylaw.TreeSays", spec := "treeSays", unfollowed := true, recurses := true, apart := false, narrowed := true }
def TreeSaysUptoSaid : Prop := treeSaysUptoRow.holds Try.pinned (OpenSpec.upto treeSaysSpec)

/-- 'orangerylaw.DeltaMakes', WHERE WHAT IT READS IS OF BULK AT MOST 1048576: true; the input reads as it did. -/
def deltaMakesUptoRow : OpenClaim := { program := "ytchdacbjiomplaa", sum := "e584b1fa91163f31585db75fb6a83bfc71150090b71adc7db01ebde6f74fda40", func := "orangery/orangerylaw.DeltaMakes", spec := "deltaMakes", unfollowed := true, recurses := true, apart := false, narrowed := true }
def DeltaMakesUptoSaid : Prop := deltaMakesUptoRow.holds Try.pinned (OpenSpec.upto deltaMakesSpec)

/-- 'orangerylaw.DeltaSays', WHERE WHAT IT READS IS OF BULK AT MOST 1048576: true; the input reads as it did. -/
def deltaSaysUptoRow : OpenClaim := { program := "ytchdacbjiomplaa", sum := "e584b1fa91163f31585db75fb6a83bfc71150090b71adc7db01ebde6f74fda40", func := "orangery/orangerylaw.DeltaSays", spec := "deltaSays", unfollowed := true, recurses := true, apart := false, narrowed := true }
def DeltaSaysUptoSaid : Prop := deltaSaysUptoRow.holds Try.pinned (OpenSpec.upto deltaSaysSpec)

/-- 'orangerylaw.WayBack', WHERE WHAT IT READS IS OF BULK AT MOST 1048576: true; the input reads as it did. -/
def wayBackUptoRow : OpenClaim := { program := "ytchdacbjiomplaa", sum := "e584b1fa91163f31585db75fb6a83bfc71150090b71adc7db01ebde6f74fda40", func := "orangery/orangerylaw.WayBack", spec := "wayBack", unfollowed := true, recurses := true, apart := false, narrowed := true }
def WayBackUptoSaid : Prop := wayBackUptoRow.holds Try.pinned (OpenSpec.upto wayBackSpec)

/-- 'orangerylaw.WaySays', WHERE WHAT IT READS IS OF BULK AT MOST 1048576: true; the input reads as it did. -/
def waySaysUptoRow : OpenClaim := { program := "ytchdacbjiomplaa", sum := "e584b1fa91163f31585db75fb6a83bfc71150090b71adc7db01ebde6f74fda40", func := "orangery/orangerylaw.WaySays", spec := "waySays", unfollowed := true, recurses := true, apart := false, narrowed := true }
def WaySaysUptoSaid : Prop := waySaysUptoRow.holds Try.pinned (OpenSpec.upto waySaysSpec)

/-- 'orangerylaw.HistoryLate', WHERE WHAT IT READS IS OF BULK AT MOST 1048576: true; the input reads as it did. -/
def historyLateUptoRow : OpenClaim := { program := "ytchdacbjiomplaa", sum := "e584b1fa91163f31585db75fb6a83bfc71150090b71adc7db01ebde6f74fda40", func := "orangery/orangerylaw.HistoryLate", spec := "historyLate", unfollowed := true, recurses := true, apart := false, narrowed := true }
def HistoryLateUptoSaid : Prop := historyLateUptoRow.holds Try.pinned (OpenSpec.upto historyLateSpec)

/-- 'orangerylaw.HistorySays', WHERE WHAT IT READS IS OF BULK AT MOST 1048576: true; the input reads as it did. -/
def historySaysUptoRow : OpenClaim := { program := "ytchdacbjiomplaa", sum := "e584b1fa91163f31585db75fb6a83bfc71150090b71adc7db01ebde6f74fda40", func := "orangery/orangerylaw.HistorySays", spec := "historySays", unfollowed := true, recurses := true, apart := false, narrowed := true }
def HistorySaysUptoSaid : Prop := historySaysUptoRow.holds Try.pinned (OpenSpec.upto historySaysSpec)

/-- 'orangerylaw.HistoryLast', WHERE WHAT IT READS IS OF BULK AT MOST 1048576: true; the input reads as it did. -/
def historyLastUptoRow : OpenClaim := { program := "ytchdacbjiomplaa", sum := "e584b1fa91163f31585db75fb6a83bfc71150090b71adc7db01ebde6f74fda40", func := "orangery/orangerylaw.HistoryLast", spec := "historyLast", unfollowed := true, recurses := true, apart := false, narrowed := true }
def HistoryLastUptoSaid : Prop := historyLastUptoRow.holds Try.pinned (OpenSpec.upto historyLastSpec)

/-- 'orangerylaw.HistoryAny', WHERE WHAT IT READS IS OF BULK AT MOST 1048576: true; the input reads as it did. -/
def historyAnyUptoRow : OpenClaim := { program := "ytchdacbjiomplaa", sum := "e584b1fa91163f31585db75fb6a83bfc71150090b71adc7db01ebde6f74fda40", func := "orangery/orangerylaw.HistoryAny", spec := "historyAny", unfollowed := true, recurses := true, apart := false, narrowed := true }
def HistoryAnyUptoSaid : Prop := historyAnyUptoRow.holds Try.pinned (OpenSpec.upto historyAnySpec)

/-- 'orangerylaw.ClientKeeps', WHERE WHAT IT READS IS OF BULK AT MOST 1048576: true; the input reads as it did. -/
def clientKeepsUptoRow : OpenClaim := { program := "ytchdacbjiomplaa", sum := "e584b1fa91163f31585db75fb6a83bfc71150090b71adc7db01ebde6f74fda40", func := "orangery/orangerylaw.ClientKeeps", spec := "clientKeeps", unfollowed := true, recurses := true, apart := false, narrowed := true }
def ClientKeepsUptoSaid : Prop := clientKeepsUptoRow.holds Try.pinned (OpenSpec.upto clientKeepsSpec)

/-- 'orangerylaw.ClientShows', WHERE WHAT IT READS IS OF BULK AT MOST 1048576: true; the input reads as it did. -/
def clientShowsUptoRow : OpenClaim := { program := "ytchdacbjiomplaa", sum := "e584b1fa91163f31585db75fb6a83bfc71150090b71adc7db01ebde6f74fda40", func := "orangery/orangerylaw.ClientShows", spec := "clientShows", unfollowed := true, recurses := true, apart := false, narrowed := true }
def ClientShowsUptoSaid : Prop := clientShowsUptoRow.holds Try.pinned (OpenSpec.upto clientShowsSpec)

/-- 'orangerylaw.ClientSays', WHERE WHAT IT READS IS OF BULK AT MOST 1048576: true; the input reads as it did. -/
def clientSaysUptoRow : OpenClaim := { program := "ytchdacbjiomplaa", sum := "e584b1fa91163f31585db75fb6a83bfc71150090b71adc7db01ebde6f74fda40", func := "orangery/orangerylaw.ClientSays", spec := "clientSays", unfollowed := true, recurses := true, apart := false, narrowed := true }
def ClientSaysUptoSaid : Prop := clientSaysUptoRow.holds Try.pinned (OpenSpec.upto clientSaysSpec)

/-- 'orangerylaw.ClientHears', WHERE WHAT IT READS IS OF BULK AT MOST 1048576: true; the input reads as it did. -/
def clientHearsUptoRow : OpenClaim := { program := "ytchdacbjiomplaa", sum := "e584b1fa91163f31585db75fb6a83bfc71150090b71adc7db01ebde6f74fda40", func := "orangery/orangerylaw.ClientHears", spec := "clientHears", unfollowed := true, recurses := true, apart := false, narrowed := true }
def ClientHearsUptoSaid : Prop := clientHearsUptoRow.holds Try.pinned (OpenSpec.upto clientHearsSpec)

/-- 'orangerylaw.ViewAgain', WHERE WHAT IT READS IS OF BULK AT MOST 1048576: true; the input reads as it did. -/
def viewAgainUptoRow : OpenClaim := { program := "ytchdacbjiomplaa", sum := "e584b1fa91163f31585db75fb6a83bfc71150090b71adc7db01ebde6f74fda40", func := "orangery/orangerylaw.ViewAgain", spec := "viewAgain", unfollowed := true, recurses := true, apart := false, narrowed := true }
def ViewAgainUptoSaid : Prop := viewAgainUptoRow.holds Try.pinned (OpenSpec.upto viewAgainSpec)

/-- 'orangerylaw.HubInOrder', WHERE WHAT IT READS IS OF BULK AT MOST 1048576: true; the input reads as it did. -/
def hubInOrderUptoRow : OpenClaim := { program := "ytchdacbjiomplaa", sum := "e584b1fa91163f31585db75fb6a83bfc71150090b71adc7db01ebde6f74fda40", func := "orangery/orangerylaw.HubInOrder", spec := "hubInOrder", unfollowed := true, recurses := true, apart := false, narrowed := true }
def HubInOrderUptoSaid : Prop := hubInOrderUptoRow.holds Try.pinned (OpenSpec.upto hubInOrderSpec)

/-- 'orangerylaw.HubSays', WHERE WHAT IT READS IS OF BULK AT MOST 1048576: true; the input reads as it did. -/
def hubSaysUptoRow : OpenClaim := { program := "ytchdacbjiomplaa", sum := "e584b1fa91163f31585db75fb6a83bfc71150090b71adc7db01ebde6f74fda40", func := "orangery/orangerylaw.HubSays", spec := "hubSays", unfollowed := true, recurses := true, apart := false, narrowed := true }
def HubSaysUptoSaid : Prop := hubSaysUptoRow.holds Try.pinned (OpenSpec.upto hubSaysSpec)

/-- 'orangerylaw.HubReplays', WHERE WHAT IT READS IS OF BULK AT MOST 1048576: true; the input reads as it did. -/
def hubReplaysUptoRow : OpenClaim := { program := "ytchdacbjiomplaa", sum := "e584b1fa91163f31585db75fb6a83bfc71150090b71adc7db01ebde6f74fda40", func := "orangery/orangerylaw.HubReplays", spec := "hubReplays", unfollowed := true, recurses := true, apart := false, narrowed := true }
def HubReplaysUptoSaid : Prop := hubReplaysUptoRow.holds Try.pinned (OpenSpec.upto hubReplaysSpec)

/-- 'orangerylaw.HubSees', WHERE WHAT IT READS IS OF BULK AT MOST 1048576: true; the input reads as it did. -/
def hubSeesUptoRow : OpenClaim := { program := "ytchdacbjiomplaa", sum := "e584b1fa91163f31585db75fb6a83bfc71150090b71adc7db01ebde6f74fda40", func := "orangery/orangerylaw.HubSees", spec := "hubSees", unfollowed := true, recurses := true, apart := false, narrowed := true }
def HubSeesUptoSaid : Prop := hubSeesUptoRow.holds Try.pinned (OpenSpec.upto hubSeesSpec)

end Rows
end Go.Proofs.Ytchdacbjiomplaa
