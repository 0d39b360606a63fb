/- The words of the translation's own first line, read once. No condition. -/
import Derived.Test.YtkjccbdeaflekaaGreatDoorRows
import Derived.ProofKit
namespace Go.Proofs.YtkjccbdeaflekaaGreatDoor
open Go
def headSigns : List Char := List.map Char.ofNat [104, 97, 114, 110, 101, 115, 115, 32, 98, 53, 49, 49, 97, 99, 99, 57, 55, 56, 55, 56, 99, 53, 54, 49, 55, 51, 51, 102, 97, 98, 98, 101, 56, 56, 98, 97, 50, 49, 55, 56, 56, 98, 54, 99, 100, 48, 56, 102, 56, 50, 101, 48, 57, 97, 51, 101, 48, 48, 49, 48, 49, 101, 48, 102, 99, 52, 55, 50, 48, 100, 102, 102, 32, 99, 117, 116, 32, 97, 116, 32, 111, 114, 97, 110, 103, 101, 114, 121, 47, 111, 114, 97, 110, 103, 101, 114, 121, 108, 97, 119, 46, 87, 111, 114, 108, 100, 82, 117, 110, 115, 32, 111, 114, 97, 110, 103, 101, 114, 121, 47, 111, 114, 97, 110, 103, 101, 114, 121, 108, 97, 119, 46, 87, 111, 114, 108, 100, 68, 111, 101, 115, 32, 111, 114, 97, 110, 103, 101, 114, 121, 47, 111, 114, 97, 110, 103, 101, 114, 121, 108, 97, 119, 46, 83, 116, 111, 114, 121, 67, 97, 108, 109, 32, 111, 114, 97, 110, 103, 101, 114, 121, 47, 111, 114, 97, 110, 103, 101, 114, 121, 108, 97, 119, 46, 83, 116, 111, 114, 121, 83, 97, 121, 115]
def headWords : List (List Char) := [List.map Char.ofNat [104, 97, 114, 110, 101, 115, 115], List.map Char.ofNat [98, 53, 49, 49, 97, 99, 99, 57, 55, 56, 55, 56, 99, 53, 54, 49, 55, 51, 51, 102, 97, 98, 98, 101, 56, 56, 98, 97, 50, 49, 55, 56, 56, 98, 54, 99, 100, 48, 56, 102, 56, 50, 101, 48, 57, 97, 51, 101, 48, 48, 49, 48, 49, 101, 48, 102, 99, 52, 55, 50, 48, 100, 102, 102], List.map Char.ofNat [99, 117, 116], List.map Char.ofNat [97, 116], List.map Char.ofNat [111, 114, 97, 110, 103, 101, 114, 121, 47, 111, 114, 97, 110, 103, 101, 114, 121, 108, 97, 119, 46, 87, 111, 114, 108, 100, 82, 117, 110, 115], List.map Char.ofNat [111, 114, 97, 110, 103, 101, 114, 121, 47, 111, 114, 97, 110, 103, 101, 114, 121, 108, 97, 119, 46, 87, 111, 114, 108, 100, 68, 111, 101, 115], List.map Char.ofNat [111, 114, 97, 110, 103, 101, 114, 121, 47, 111, 114, 97, 110, 103, 101, 114, 121, 108, 97, 119, 46, 83, 116, 111, 114, 121, 67, 97, 108, 109], List.map Char.ofNat [111, 114, 97, 110, 103, 101, 114, 121, 47, 111, 114, 97, 110, 103, 101, 114, 121, 108, 97, 119, 46, 83, 116, 111, 114, 121, 83, 97, 121, 115]]
theorem head_io : Tryz.prog.initOrder = String.ofList headSigns := by kernel_rfl
theorem head_ws : wordsSigns headSigns = headWords := by kernel_rfl
theorem head_tl : Tryz.prog.initOrder.toList = headSigns := by rw [head_io, String.toList_ofList]
theorem head_words : wordsSigns Tryz.prog.initOrder.toList = headWords := (congrArg wordsSigns head_tl).trans head_ws
def headTail : List (List Char) := headWords.drop 3
def headCut : List Char := List.map Char.ofNat [99, 117, 116]
theorem head_bm : behindMainWord (wordsSigns Tryz.prog.initOrder.toList) = headCut :: headTail := by rw [head_words]; kernel_rfl
section
variable {P : Program} {c : List Char} {r : List (List Char)}
theorem make_of (h : behindMainWord (wordsSigns P.initOrder.toList) = c :: r) (h1 : (c == "gc".toList) = false) (h2 : (c == "spec".toList) = false) (h3 : (c == "cut".toList) = true) : P.make = some .cut := by
  unfold Program.make
  rw [h]
  simp only [h1, h2, h3, Bool.or_self, Bool.false_eq_true, if_false, Bool.true_or, if_true]
theorem enter_of (h : behindMainWord (wordsSigns P.initOrder.toList) = c :: r) (hs : stripLifts liftWords (c :: r) = ([], c :: r)) (hc : (some c == some "cut".toList) = true) (h1 : P.laysLater = false) (h2 : P.bearsReflect = false) (h3 : P.doorFits [] = true) : P.mayEnter = true := by
  unfold Program.mayEnter
  have hc' : c = "cut".toList := by simpa using hc
  rw [h]
  simp only [hs, h1, h2, h3]
  simp [hc']
theorem lifts_of (h : behindMainWord (wordsSigns P.initOrder.toList) = c :: r) (hs : stripLifts liftWords (c :: r) = ([], c :: r)) (h1 : (some c == some "carried".toList) = false) : P.liftsFinal = false := by
  unfold Program.liftsFinal Program.headLifts
  rw [h]
  simp only [hs, List.head?_cons, h1, Bool.false_and, Bool.false_or]
  split <;> rfl
end
theorem head_strip : stripLifts liftWords (headCut :: headTail) = ([], headCut :: headTail) := by kernel_rfl
theorem head_later : Tryz.prog.laysLater = false := by kernel_rfl
theorem head_reflect : Tryz.prog.bearsReflect = false := by kernel_rfl
theorem head_door : Tryz.prog.doorFits [] = true := by kernel_rfl
theorem head_enter : Tryz.prog.mayEnter = true := enter_of head_bm head_strip (by kernel_rfl) head_later head_reflect head_door
theorem head_lifts : Tryz.prog.liftsFinal = false := lifts_of head_bm head_strip (by kernel_rfl)
theorem head_make : Tryz.prog.make = some .cut := make_of head_bm (by kernel_rfl) (by kernel_rfl) (by kernel_rfl)
theorem both_true {a b : Bool} (h : a = true) (h' : b = true) : (a && b) = true := by rw [h, h']; rfl
theorem beq_of {α : Type} [BEq α] [LawfulBEq α] {a b : α} (h : b = a) : (a == b) = true := by rw [h]; exact beq_self_eq_true a
theorem beq_l {α : Type} [BEq α] [LawfulBEq α] {a b : α} (h : a = b) : (a == b) = true := by rw [h]; exact beq_self_eq_true b
theorem own_knob : ownKnob Tryz.prog.godebug = none := by kernel_rfl
theorem laid_out : laidOutB Tryz.prog = true := by kernel_rfl
theorem maps_rowed : mapsRowed Tryz.prog = true := by kernel_rfl
theorem plain_keys : Tryz.prog.plainKeys = true := by kernel_rfl
theorem stops_heard : Tryz.prog.stopsHeard = true := by kernel_rfl
end Go.Proofs.YtkjccbdeaflekaaGreatDoor
