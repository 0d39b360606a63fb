/- Part of this claim. No condition. -/
import Derived.Test.YtchdacbjiomplaaProg
import Derived.KernelRfl
import Derived.Test.YtchdacbjiomplaaFw
import Derived.Test.YtchdacbjiomplaaFx
set_option linter.unusedVariables false
set_option linter.unusedSimpArgs false
namespace Go.Proofs.Ytchdacbjiomplaa
open Go Go.Proofs.Ytchdacbjiomplaa.Fw Go.Proofs
def rows : TRows where
  fld := [(35, [(0, 3), (1, 3), (2, 3)]), (33, [(0, 31), (2, 3), (3, 3), (4, 3), (5, 3), (6, 3)]), (29, [(0, 27)]), (51, [(0, 24), (1, 27), (2, 27)]), (109, [(0, 3), (1, 3), (2, 3), (3, 91), (4, 3), (5, 51)]), (94, [(0, 92), (1, 29)]), (131, [(0, 94), (2, 3), (3, 129)]), (80, [(0, 3), (1, 3), (2, 3), (3, 3), (4, 3), (5, 3), (6, 3), (7, 33), (14, 51), (17, 70)]), (37, [(0, 33), (7, 4), (8, 35)]), (70, [(0, 24), (1, 27), (2, 24), (3, 27)]), (136, [(0, 3), (1, 3), (2, 3), (3, 24), (4, 33)]), (31, [(0, 3), (1, 3)]), (144, [(0, 3), (1, 3), (2, 24)])]
  siz := [(3, (1, false)), (4, (1, false)), (0, (1, false)), (22, (1, false)), (27, (1, false)), (35, (3, true)), (33, (7, true)), (29, (1, true)), (51, (3, true)), (109, (8, true)), (91, (1, false)), (94, (2, true)), (24, (1, false)), (131, (4, true)), (80, (21, true)), (78, (1, false)), (37, (11, true)), (70, (4, true)), (92, (1, false)), (136, (11, true)), (129, (1, false)), (31, (2, true)), (144, (3, true)), (52, (1, false)), (123, (1, false)), (194, (1, false)), (95, (1, false)), (169, (48, true)), (230, (1, false)), (132, (1, false)), (40, (1, false)), (44, (1, false)), (220, (1, false)), (38, (1, false)), (110, (1, false)), (180, (1, false)), (128, (1, false)), (218, (1, false)), (71, (1, false)), (210, (1, false)), (84, (1, false)), (134, (3, true)), (65, (1, false)), (116, (1, false)), (165, (1, false)), (190, (1, false)), (224, (1, false)), (125, (1, false)), (237, (1, false)), (61, (1, false)), (81, (1, false)), (152, (1, false)), (159, (2, true)), (184, (1, false)), (197, (1, false)), (238, (1, false)), (23, (1, false)), (234, (1, false)), (5, (1, false)), (20, (1, false)), (189, (1, false)), (164, (6, true)), (167, (1, false)), (168, (2, true)), (173, (2, true)), (196, (1, false)), (206, (1, false)), (223, (1, false)), (9, (1, false)), (211, (1, false)), (215, (1, false)), (175, (1, false)), (200, (1, false))]
  zer := [(3, [.int .i64 (0)]), (4, [.bool false]), (22, [.int .i64 (0)]), (27, [.slice none 0 0]), (35, [.int .i64 (0), .int .i64 (0), .int .i64 (0)]), (33, [.int .i64 (0), .int .i64 (0), .int .i64 (0), .int .i64 (0), .int .i64 (0), .int .i64 (0), .int .i64 (0)]), (29, [.slice none 0 0]), (51, [.slice none 0 0, .slice none 0 0, .slice none 0 0]), (109, [.int .i64 (0), .int .i64 (0), .int .i64 (0), .slice none 0 0, .int .i64 (0), .slice none 0 0, .slice none 0 0, .slice none 0 0]), (91, [.slice none 0 0]), (94, [.slice none 0 0, .slice none 0 0]), (24, [.slice none 0 0]), (131, [.slice none 0 0, .slice none 0 0, .int .i64 (0), .slice none 0 0]), (80, [.int .i64 (0), .int .i64 (0), .int .i64 (0), .int .i64 (0), .int .i64 (0), .int .i64 (0), .int .i64 (0), .int .i64 (0), .int .i64 (0), .int .i64 (0), .int .i64 (0), .int .i64 (0), .int .i64 (0), .int .i64 (0), .slice none 0 0, .slice none 0 0, .slice none 0 0, .slice none 0 0, .slice none 0 0, .slice none 0 0, .slice none 0 0]), (78, [.slice none 0 0]), (37, [.int .i64 (0), .int .i64 (0), .int .i64 (0), .int .i64 (0), .int .i64 (0), .int .i64 (0), .int .i64 (0), .bool false, .int .i64 (0), .int .i64 (0), .int .i64 (0)]), (70, [.slice none 0 0, .slice none 0 0, .slice none 0 0, .slice none 0 0]), (92, [.slice none 0 0]), (136, [.int .i64 (0), .int .i64 (0), .int .i64 (0), .slice none 0 0, .int .i64 (0), .int .i64 (0), .int .i64 (0), .int .i64 (0), .int .i64 (0), .int .i64 (0), .int .i64 (0)]), (129, [.slice none 0 0]), (31, [.int .i64 (0), .int .i64 (0)]), (144, [.int .i64 (0), .int .i64 (0), .slice none 0 0]), (123, [.nilFunc]), (194, [.int .u64 (0)]), (169, [.int .i64 (0), .int .i64 (0), .int .i64 (0), .int .i64 (0), .int .i64 (0), .int .i64 (0), .int .i64 (0), .int .i64 (0), .int .i64 (0), .int .i64 (0), .int .i64 (0), .int .i64 (0), .int .i64 (0), .int .i64 (0), .int .i64 (0), .int .i64 (0), .int .i64 (0), .int .i64 (0), .int .i64 (0), .int .i64 (0), .int .i64 (0), .int .i64 (0), .int .i64 (0), .int .i64 (0), .int .i64 (0), .int .i64 (0), .int .i64 (0), .int .i64 (0), .int .i64 (0), .int .i64 (0), .int .i64 (0), .int .i64 (0), .int .i64 (0), .int .i64 (0), .int .i64 (0), .int .i64 (0), .int .i64 (0), .int .i64 (0), .int .i64 (0), .int .i64 (0), .int .i64 (0), .int .i64 (0), .int .i64 (0), .int .i64 (0), .int .i64 (0), .int .i64 (0), .int .i64 (0), .int .i64 (0)]), (230, [.int .u64 (0)]), (220, [.int .u64 (0)]), (180, [.nilFunc]), (128, [.slice none 0 0]), (218, [.int .u32 (0)]), (210, [.int .i64 (0)]), (134, [.int .i64 (0), .int .i64 (0), .int .i64 (0)]), (65, [.nilFunc]), (190, [.slice none 0 0]), (224, [.pointer none]), (125, [.nilFunc]), (237, [.pointer none]), (159, [.slice none 0 0, .slice none 0 0]), (184, [.slice none 0 0]), (197, [.nilFunc]), (23, [.slice none 0 0]), (234, [.pointer none]), (5, [.int .u8 (0)]), (20, [.nilIface]), (189, [.nilFunc]), (164, [.slice none 0 0, .slice none 0 0, .slice none 0 0, .slice none 0 0, .slice none 0 0, .slice none 0 0]), (167, [.nilFunc]), (168, [.slice none 0 0, .slice none 0 0]), (173, [.slice none 0 0, .slice none 0 0]), (196, [.nilFunc]), (206, [.nilFunc]), (223, [.pointer none]), (9, [.string ⟨#[]⟩]), (175, [.nilFunc]), (200, [.nilFunc])]
  str := [(35, [(0, 1), (1, 1), (2, 1)]), (33, [(0, 2), (2, 1), (3, 1), (4, 1), (5, 1), (6, 1)]), (29, [(0, 1)]), (51, [(0, 1), (1, 1), (2, 1)]), (109, [(0, 1), (1, 1), (2, 1), (3, 1), (4, 1), (5, 3)]), (94, [(0, 1), (1, 1)]), (131, [(0, 2), (2, 1), (3, 1)]), (80, [(0, 1), (1, 1), (2, 1), (3, 1), (4, 1), (5, 1), (6, 1), (7, 7), (14, 3), (17, 4)]), (37, [(0, 7), (7, 1), (8, 3)]), (70, [(0, 1), (1, 1), (2, 1), (3, 1)]), (136, [(0, 1), (1, 1), (2, 1), (3, 1), (4, 7)]), (31, [(0, 1), (1, 1)]), (144, [(0, 1), (1, 1), (2, 1)])]
  slc := [(27, 35), (91, 33), (24, 3), (78, 80), (92, 37), (129, 144), (128, 136), (190, 27), (184, 91), (23, 22)]
  arr := [(169, (16, 35)), (134, (3, 3)), (159, (2, 27)), (164, (2, 51)), (168, (2, 24)), (173, (2, 78))]
  byt := [(3, 8), (4, 1), (0, 0), (22, 8), (27, 24), (35, 24), (33, 56), (29, 24), (51, 72), (109, 128), (91, 24), (94, 48), (24, 24), (131, 80), (80, 280), (78, 24), (37, 88), (70, 96), (92, 24), (136, 104), (129, 24), (31, 16), (144, 40), (52, 0), (123, 8), (194, 8), (95, 0), (169, 384), (230, 8), (132, 0), (40, 0), (44, 0), (220, 8), (38, 0), (110, 0), (180, 8), (128, 24), (218, 4), (71, 0), (210, 8), (84, 0), (134, 24), (65, 8), (116, 0), (165, 0), (190, 24), (224, 8), (125, 8), (237, 8), (61, 0), (81, 0), (152, 0), (159, 48), (184, 24), (197, 8), (238, 0), (23, 24), (234, 8), (5, 1), (20, 16), (189, 8), (164, 144), (167, 8), (168, 48), (173, 48), (196, 8), (206, 8), (223, 8), (9, 16), (211, 0), (215, 0), (175, 8), (200, 8)]
  isS := [9]
  fnb := [2, 3, 4, 5, 6, 7, 8, 9, 10, 11, 12, 13, 14, 15, 16, 17, 18, 19, 20, 21, 22, 23, 24, 25, 26, 27, 28, 29, 30, 31, 32, 33, 34, 35, 36, 37, 38, 39, 40, 41, 42, 43, 44, 45, 46, 47, 48, 49, 50, 51, 52, 53, 54, 55, 56, 57, 58, 59, 60, 61, 62, 63, 64, 65, 66, 67, 68, 69, 70, 71, 72, 73, 74, 75, 76, 77, 78, 79, 80, 81, 82, 83, 84, 85, 86, 87, 88, 89, 90, 91, 92, 93, 94, 95, 96, 97, 98, 99, 100, 101, 102, 103, 104, 105, 106, 107, 108, 109, 110, 111, 112, 113, 114, 115, 116, 117, 118, 119, 120, 121, 122, 123, 124, 125, 126, 127, 128, 129, 130, 131, 132, 133, 134, 135, 136, 137, 138, 139, 140, 141, 142, 143, 144, 145, 146, 147, 148, 149, 150, 151, 152, 153, 154, 155, 156, 157, 158, 159, 160, 161, 162, 163, 164, 165, 166, 167, 168, 169, 170, 171, 172, 173, 174, 175, 176, 177, 178, 179, 180, 181, 182, 183, 184, 185, 186, 187, 188, 189, 190, 191, 192, 193, 194, 195, 196, 197, 198, 199, 200, 201, 202, 203, 204, 205, 206, 207, 208, 209, 210, 211, 212, 213, 214, 215, 216, 217, 218, 219, 220]
def tab : Tab := tabOf rows
theorem rows_ok : ROk rows Try.prog where
  mixed := by kernel_rfl
  fld := by kernel_rfl
  siz := by kernel_rfl
  zer := by kernel_rfl
  str := by kernel_rfl
  slc := by kernel_rfl
  arr := by kernel_rfl
  byt := by kernel_rfl
  isS := by kernel_rfl
  fnb := by kernel_rfl
theorem tab_ok : TabOk tab Try.prog := tabOf_ok rows_ok
end Go.Proofs.Ytchdacbjiomplaa

namespace Go.Proofs.Ytchdacbjiomplaa
open Go Go.Proofs.Ytchdacbjiomplaa.Fw Go.Proofs

/-! ### Plain data, and how it lies in cells -/
structure Place where
  node : Int
  parent : Int
  name : Int
  deriving DecidableEq
instance : Inhabited Place := ⟨⟨0, 0, 0⟩⟩
structure Stamp where
  time : Int
  who : Int
  deriving DecidableEq
instance : Inhabited Stamp := ⟨⟨0, 0⟩⟩
structure Op where
  time : Int
  who : Int
  node : Int
  parent : Int
  name : Int
  life : Int
  seq : Int
  deriving DecidableEq
instance : Inhabited Op := ⟨⟨0, 0, 0, 0, 0, 0, 0⟩⟩
structure Step where
  o : Op
  did : Bool
  was : Place
  deriving DecidableEq
instance : Inhabited Step := ⟨⟨default, false, default⟩⟩
structure History where
  l : List Step
  t : List Place
  deriving DecidableEq
instance : Inhabited History := ⟨⟨[], []⟩⟩
structure View where
  roots : List Int
  known : List Place
  way : List Place
  deriving DecidableEq
instance : Inhabited View := ⟨⟨[], [], []⟩⟩
structure Delta where
  gone : List Int
  here : List Place
  wayGone : List Int
  wayHere : List Place
  deriving DecidableEq
instance : Inhabited Delta := ⟨⟨[], [], [], []⟩⟩
structure Rec where
  kind : Int
  who : Int
  life : Int
  roots : List Int
  o : Op
  deriving DecidableEq
instance : Inhabited Rec := ⟨⟨0, 0, 0, [], default⟩⟩
structure Peer where
  life : Int
  seq : Int
  roots : List Int
  deriving DecidableEq
instance : Inhabited Peer := ⟨⟨0, 0, []⟩⟩
structure Hub where
  h : History
  version : Int
  peers : List Peer
  deriving DecidableEq
instance : Inhabited Hub := ⟨⟨default, 0, []⟩⟩
structure Client where
  life : Int
  time : Int
  seq : Int
  pending : List Op
  version : Int
  v : View
  deriving DecidableEq
instance : Inhabited Client := ⟨⟨0, 0, 0, [], 0, default⟩⟩
structure Mail where
  kind : Int
  who : Int
  life : Int
  seq : Int
  time : Int
  version : Int
  frm : Int
  o : Op
  v : View
  d : Delta
  deriving DecidableEq
instance : Inhabited Mail := ⟨⟨0, 0, 0, 0, 0, 0, 0, default, default, default⟩⟩
def EInt : El Int := ⟨fun n => [.int .i64 n], 1, 8, fun _ => rfl, fun a u hu => kinds_one (ks := [true]) (l := [.int .i64 a]) rfl u hu⟩
theorem enc_Int : Encs [true] EInt.enc := ⟨fun _ => rfl, fun cs h => by
  match cs, h with
  | [.int .i64 n], _ => exact ⟨n, rfl⟩⟩
def EPlace : El Place := ⟨fun p => [.int .i64 p.node, .int .i64 p.parent, .int .i64 p.name], 3, 24, fun _ => rfl, fun p u hu => kinds_one (ks := [true, true, true]) (l := [.int .i64 p.node, .int .i64 p.parent, .int .i64 p.name]) rfl u hu⟩
theorem enc_Place : Encs [true, true, true] EPlace.enc := ⟨fun _ => rfl, fun cs h => by
  match cs, h with
  | [.int .i64 a0, .int .i64 a1, .int .i64 a2], _ => exact ⟨⟨a0, a1, a2⟩, rfl⟩⟩
theorem flatEq_Place (a b : Place) : flatEq (EPlace.enc a) (EPlace.enc b) = decide (a = b) := by
  obtain ⟨_, _, _⟩ := a; obtain ⟨_, _, _⟩ := b
  rw [Bool.eq_iff_iff]; simp [flatEq, EPlace, and_assoc]
theorem eqT_Place : EqT Try.prog 35 [true, true, true] := ⟨by kernel_rfl, by kernel_rfl⟩
def EStamp : El Stamp := ⟨fun p => [.int .i64 p.time, .int .i64 p.who], 2, 16, fun _ => rfl, fun p u hu => kinds_one (ks := [true, true]) (l := [.int .i64 p.time, .int .i64 p.who]) rfl u hu⟩
theorem enc_Stamp : Encs [true, true] EStamp.enc := ⟨fun _ => rfl, fun cs h => by
  match cs, h with
  | [.int .i64 a0, .int .i64 a1], _ => exact ⟨⟨a0, a1⟩, rfl⟩⟩
theorem flatEq_Stamp (a b : Stamp) : flatEq (EStamp.enc a) (EStamp.enc b) = decide (a = b) := by
  obtain ⟨_, _⟩ := a; obtain ⟨_, _⟩ := b
  rw [Bool.eq_iff_iff]; simp [flatEq, EStamp, and_assoc]
theorem eqT_Stamp : EqT Try.prog 31 [true, true] := ⟨by kernel_rfl, by kernel_rfl⟩
def EOp : El Op := ⟨fun p => [.int .i64 p.time, .int .i64 p.who, .int .i64 p.node, .int .i64 p.parent, .int .i64 p.name, .int .i64 p.life, .int .i64 p.seq], 7, 56, fun _ => rfl, fun p u hu => kinds_one (ks := [true, true, true, true, true, true, true]) (l := [.int .i64 p.time, .int .i64 p.who, .int .i64 p.node, .int .i64 p.parent, .int .i64 p.name, .int .i64 p.life, .int .i64 p.seq]) rfl u hu⟩
theorem enc_Op : Encs [true, true, true, true, true, true, true] EOp.enc := ⟨fun _ => rfl, fun cs h => by
  match cs, h with
  | [.int .i64 a0, .int .i64 a1, .int .i64 a2, .int .i64 a3, .int .i64 a4, .int .i64 a5, .int .i64 a6], _ => exact ⟨⟨a0, a1, a2, a3, a4, a5, a6⟩, rfl⟩⟩
theorem flatEq_Op (a b : Op) : flatEq (EOp.enc a) (EOp.enc b) = decide (a = b) := by
  obtain ⟨_, _, _, _, _, _, _⟩ := a; obtain ⟨_, _, _, _, _, _, _⟩ := b
  rw [Bool.eq_iff_iff]; simp [flatEq, EOp, and_assoc]
theorem eqT_Op : EqT Try.prog 33 [true, true, true, true, true, true, true] := ⟨by kernel_rfl, by kernel_rfl⟩
def EStep : El Step := ⟨fun p => [.int .i64 p.o.time, .int .i64 p.o.who, .int .i64 p.o.node, .int .i64 p.o.parent, .int .i64 p.o.name, .int .i64 p.o.life, .int .i64 p.o.seq, .bool p.did, .int .i64 p.was.node, .int .i64 p.was.parent, .int .i64 p.was.name], 11, 88, fun _ => rfl, fun p u hu => kinds_one (ks := [true, true, true, true, true, true, true, false, true, true, true]) (l := [.int .i64 p.o.time, .int .i64 p.o.who, .int .i64 p.o.node, .int .i64 p.o.parent, .int .i64 p.o.name, .int .i64 p.o.life, .int .i64 p.o.seq, .bool p.did, .int .i64 p.was.node, .int .i64 p.was.parent, .int .i64 p.was.name]) rfl u hu⟩
theorem enc_Step : Encs [true, true, true, true, true, true, true, false, true, true, true] EStep.enc := ⟨fun _ => rfl, fun cs h => by
  match cs, h with
  | [.int .i64 a0, .int .i64 a1, .int .i64 a2, .int .i64 a3, .int .i64 a4, .int .i64 a5, .int .i64 a6, .bool a7, .int .i64 a8, .int .i64 a9, .int .i64 a10], _ => exact ⟨⟨⟨a0, a1, a2, a3, a4, a5, a6⟩, a7, ⟨a8, a9, a10⟩⟩, rfl⟩⟩
theorem flatEq_Step (a b : Step) : flatEq (EStep.enc a) (EStep.enc b) = decide (a = b) := by
  obtain ⟨⟨_, _, _, _, _, _, _⟩, _, ⟨_, _, _⟩⟩ := a; obtain ⟨⟨_, _, _, _, _, _, _⟩, _, ⟨_, _, _⟩⟩ := b
  rw [Bool.eq_iff_iff]; simp [flatEq, EStep, and_assoc]
theorem eqT_Step : EqT Try.prog 37 [true, true, true, true, true, true, true, false, true, true, true] := ⟨by kernel_rfl, by kernel_rfl⟩
def NPlaces : En (List Place) := ⟨SlV, inferInstance, ⟨fun h => [h.1.val h.2.length], 1, 24, fun _ => rfl, fun h => (allP_cons rfl (fun _ h => by cases h))⟩, fun h => [RdL EPlace h.1 h.2], fun _ => inferInstance⟩
def NOps : En (List Op) := ⟨SlV, inferInstance, ⟨fun h => [h.1.val h.2.length], 1, 24, fun _ => rfl, fun h => (allP_cons rfl (fun _ h => by cases h))⟩, fun h => [RdL EOp h.1 h.2], fun _ => inferInstance⟩
def NPeer : En (Peer) := ⟨SlV, inferInstance, ⟨fun h => [.int .i64 h.2.life, .int .i64 h.2.seq, h.1.val h.2.roots.length], 3, 40, fun _ => rfl, fun h => (allP_cons rfl (allP_cons rfl (allP_cons rfl (fun _ h => by cases h))))⟩, fun h => [RdL EInt h.1 h.2.roots], fun _ => inferInstance⟩
def NMail : En (Mail) := ⟨SlV × SlV × SlV × SlV × SlV × SlV × SlV, inferInstance, ⟨fun h => [.int .i64 h.2.kind, .int .i64 h.2.who, .int .i64 h.2.life, .int .i64 h.2.seq, .int .i64 h.2.time, .int .i64 h.2.version, .int .i64 h.2.frm, .int .i64 h.2.o.time, .int .i64 h.2.o.who, .int .i64 h.2.o.node, .int .i64 h.2.o.parent, .int .i64 h.2.o.name, .int .i64 h.2.o.life, .int .i64 h.2.o.seq, h.1.1.val h.2.v.roots.length, h.1.2.1.val h.2.v.known.length, h.1.2.2.1.val h.2.v.way.length, h.1.2.2.2.1.val h.2.d.gone.length, h.1.2.2.2.2.1.val h.2.d.here.length, h.1.2.2.2.2.2.1.val h.2.d.wayGone.length, h.1.2.2.2.2.2.2.val h.2.d.wayHere.length], 21, 280, fun _ => rfl, fun h => (allP_cons rfl (allP_cons rfl (allP_cons rfl (allP_cons rfl (allP_cons rfl (allP_cons rfl (allP_cons rfl (allP_cons rfl (allP_cons rfl (allP_cons rfl (allP_cons rfl (allP_cons rfl (allP_cons rfl (allP_cons rfl (allP_cons rfl (allP_cons rfl (allP_cons rfl (allP_cons rfl (allP_cons rfl (allP_cons rfl (allP_cons rfl (fun _ h => by cases h))))))))))))))))))))))⟩, fun h => [RdL EInt h.1.1 h.2.v.roots, RdL EPlace h.1.2.1 h.2.v.known, RdL EPlace h.1.2.2.1 h.2.v.way, RdL EInt h.1.2.2.2.1 h.2.d.gone, RdL EPlace h.1.2.2.2.2.1 h.2.d.here, RdL EInt h.1.2.2.2.2.2.1 h.2.d.wayGone, RdL EPlace h.1.2.2.2.2.2.2 h.2.d.wayHere], fun _ => inferInstance⟩
def NRec : En (Rec) := ⟨SlV, inferInstance, ⟨fun h => [.int .i64 h.2.kind, .int .i64 h.2.who, .int .i64 h.2.life, h.1.val h.2.roots.length, .int .i64 h.2.o.time, .int .i64 h.2.o.who, .int .i64 h.2.o.node, .int .i64 h.2.o.parent, .int .i64 h.2.o.name, .int .i64 h.2.o.life, .int .i64 h.2.o.seq], 11, 104, fun _ => rfl, fun h => (allP_cons rfl (allP_cons rfl (allP_cons rfl (allP_cons rfl (allP_cons rfl (allP_cons rfl (allP_cons rfl (allP_cons rfl (allP_cons rfl (allP_cons rfl (allP_cons rfl (fun _ h => by cases h))))))))))))⟩, fun h => [RdL EInt h.1 h.2.roots], fun _ => inferInstance⟩
theorem und_2 : Try.prog.underlying 2 = some (.int .i64) := by kernel_rfl
theorem und_3 : Try.prog.underlying 3 = some (.int .i64) := by kernel_rfl
theorem und_4 : Try.prog.underlying 4 = some .bool := by kernel_rfl
theorem und_12 : Try.prog.underlying 12 = some (.int .u64) := by kernel_rfl
theorem und_22 : Try.prog.underlying 22 = some (.int .i64) := by kernel_rfl
theorem und_194 : Try.prog.underlying 194 = some (.int .u64) := by kernel_rfl
theorem und_210 : Try.prog.underlying 210 = some (.int .i64) := by kernel_rfl
theorem und_220 : Try.prog.underlying 220 = some (.int .u64) := by kernel_rfl
theorem und_230 : Try.prog.underlying 230 = some (.int .u64) := by kernel_rfl
end Go.Proofs.Ytchdacbjiomplaa

namespace Go.Proofs.Ytchdacbjiomplaa
open Go Go.Proofs.Ytchdacbjiomplaa.Fw Go.Proofs
instance (γ : Nat → SlV) (l : List (List Place)) : Stab (FactsG NPlaces γ l) := stabFG NPlaces γ l
instance (γ : Nat → SlV) (l : List (List Op)) : Stab (FactsG NOps γ l) := stabFG NOps γ l
instance (γ : Nat → SlV) (l : List Peer) : Stab (FactsG NPeer γ l) := stabFG NPeer γ l
instance (γ : Nat → SlV × SlV × SlV × SlV × SlV × SlV × SlV) (l : List Mail) : Stab (FactsG NMail γ l) := stabFG NMail γ l
instance (γ : Nat → SlV) (l : List Rec) : Stab (FactsG NRec γ l) := stabFG NRec γ l
end Go.Proofs.Ytchdacbjiomplaa

namespace Go.Proofs.Ytchdacbjiomplaa
open Go Go.Proofs.Ytchdacbjiomplaa.Fw Go.Proofs
theorem cells_35 : Try.prog.cellsOf 35 = 3 := by kernel_rfl
theorem bytes_35 : Try.prog.bytesOf 35 = 24 := by kernel_rfl
theorem eqK_35 : eqK Try.prog 20 35 = some [true, true, true] := by kernel_rfl
theorem opens_t27 : Opens Try.prog 27 (fun (a : List Place) (s : SlV) => [s.val a.length]) (fun (a : List Place) (s : SlV) => [RdL EPlace s a]) :=
  opens_slice EPlace enc_Place Try.underlying27 eqK_35 cells_35 rfl bytes_35
theorem cells_27 : Try.prog.cellsOf 27 = 1 := by kernel_rfl
theorem bytes_27 : Try.prog.bytesOf 27 = 24 := by kernel_rfl
theorem cells_29 : Try.prog.cellsOf 29 = 1 := by kernel_rfl
theorem bytes_29 : Try.prog.bytesOf 29 = 24 := by kernel_rfl
theorem opens_t29 : Opens Try.prog 29 (fun (a : List Place) (s : SlV) => [s.val a.length]) (fun (a : List Place) (s : SlV) => [RdL EPlace s a]) :=
  (opens_struct Try.underlying29 cells_29 (opensF_cons opens_t27 rfl rfl cells_27 opensF_nil)).map (fun (a : List Place) (s : SlV) => [s.val a.length]) (fun (a : List Place) (s : SlV) => [RdL EPlace s a]) (fun a => a.1) (fun s => s.1) (fun _ _ => rfl) (fun _ _ => rfl)
theorem cells_33 : Try.prog.cellsOf 33 = 7 := by kernel_rfl
theorem bytes_33 : Try.prog.bytesOf 33 = 56 := by kernel_rfl
theorem eqK_33 : eqK Try.prog 20 33 = some [true, true, true, true, true, true, true] := by kernel_rfl
theorem opens_t33 : Opens Try.prog 33 (fun (a : Op) (s : Unit) => [.int .i64 a.time, .int .i64 a.who, .int .i64 a.node, .int .i64 a.parent, .int .i64 a.name, .int .i64 a.life, .int .i64 a.seq]) (fun (a : Op) (s : Unit) => []) :=
  opens_flat EOp enc_Op eqK_33 cells_33
theorem cells_37 : Try.prog.cellsOf 37 = 11 := by kernel_rfl
theorem bytes_37 : Try.prog.bytesOf 37 = 88 := by kernel_rfl
theorem eqK_37 : eqK Try.prog 20 37 = some [true, true, true, true, true, true, true, false, true, true, true] := by kernel_rfl
theorem opens_t37 : Opens Try.prog 37 (fun (a : Step) (s : Unit) => [.int .i64 a.o.time, .int .i64 a.o.who, .int .i64 a.o.node, .int .i64 a.o.parent, .int .i64 a.o.name, .int .i64 a.o.life, .int .i64 a.o.seq, .bool a.did, .int .i64 a.was.node, .int .i64 a.was.parent, .int .i64 a.was.name]) (fun (a : Step) (s : Unit) => []) :=
  opens_flat EStep enc_Step eqK_37 cells_37
theorem cells_3 : Try.prog.cellsOf 3 = 1 := by kernel_rfl
theorem bytes_3 : Try.prog.bytesOf 3 = 8 := by kernel_rfl
theorem opens_t24 : Opens Try.prog 24 (fun (a : List Int) (s : SlV) => [s.val a.length]) (fun (a : List Int) (s : SlV) => [RdL EInt s a]) :=
  opens_intslice EInt (fun _ => rfl) rfl Try.underlying24 Try.underlying3 cells_3 bytes_3
theorem opens_t3 : Opens Try.prog 3 (fun (a : Int) (s : Unit) => [.int .i64 a]) (fun (a : Int) (s : Unit) => []) :=
  opens_int Try.underlying3
theorem cells_24 : Try.prog.cellsOf 24 = 1 := by kernel_rfl
theorem bytes_24 : Try.prog.bytesOf 24 = 24 := by kernel_rfl
theorem cells_51 : Try.prog.cellsOf 51 = 3 := by kernel_rfl
theorem bytes_51 : Try.prog.bytesOf 51 = 72 := by kernel_rfl
theorem opens_t51 : Opens Try.prog 51 (fun (a : View) (s : SlV × SlV × SlV) => [s.1.val a.roots.length, s.2.1.val a.known.length, s.2.2.val a.way.length]) (fun (a : View) (s : SlV × SlV × SlV) => [RdL EInt s.1 a.roots, RdL EPlace s.2.1 a.known, RdL EPlace s.2.2 a.way]) :=
  (opens_struct Try.underlying51 cells_51 (opensF_cons opens_t24 rfl rfl cells_24 (opensF_cons opens_t27 rfl rfl cells_27 (opensF_cons opens_t27 rfl rfl cells_27 opensF_nil)))).map (fun (a : View) (s : SlV × SlV × SlV) => [s.1.val a.roots.length, s.2.1.val a.known.length, s.2.2.val a.way.length]) (fun (a : View) (s : SlV × SlV × SlV) => [RdL EInt s.1 a.roots, RdL EPlace s.2.1 a.known, RdL EPlace s.2.2 a.way]) (fun a => (⟨a.1, a.2.1, a.2.2.1⟩ : View)) (fun s => (s.1, s.2.1, s.2.2.1)) (fun _ _ => rfl) (fun _ _ => rfl)
theorem cells_70 : Try.prog.cellsOf 70 = 4 := by kernel_rfl
theorem bytes_70 : Try.prog.bytesOf 70 = 96 := by kernel_rfl
theorem opens_t70 : Opens Try.prog 70 (fun (a : Delta) (s : SlV × SlV × SlV × SlV) => [s.1.val a.gone.length, s.2.1.val a.here.length, s.2.2.1.val a.wayGone.length, s.2.2.2.val a.wayHere.length]) (fun (a : Delta) (s : SlV × SlV × SlV × SlV) => [RdL EInt s.1 a.gone, RdL EPlace s.2.1 a.here, RdL EInt s.2.2.1 a.wayGone, RdL EPlace s.2.2.2 a.wayHere]) :=
  (opens_struct Try.underlying70 cells_70 (opensF_cons opens_t24 rfl rfl cells_24 (opensF_cons opens_t27 rfl rfl cells_27 (opensF_cons opens_t24 rfl rfl cells_24 (opensF_cons opens_t27 rfl rfl cells_27 opensF_nil))))).map (fun (a : Delta) (s : SlV × SlV × SlV × SlV) => [s.1.val a.gone.length, s.2.1.val a.here.length, s.2.2.1.val a.wayGone.length, s.2.2.2.val a.wayHere.length]) (fun (a : Delta) (s : SlV × SlV × SlV × SlV) => [RdL EInt s.1 a.gone, RdL EPlace s.2.1 a.here, RdL EInt s.2.2.1 a.wayGone, RdL EPlace s.2.2.2 a.wayHere]) (fun a => (⟨a.1, a.2.1, a.2.2.1, a.2.2.2.1⟩ : Delta)) (fun s => (s.1, s.2.1, s.2.2.1, s.2.2.2.1)) (fun _ _ => rfl) (fun _ _ => rfl)
theorem opens_t4 : Opens Try.prog 4 (fun (a : Bool) (s : Unit) => [.bool a]) (fun (a : Bool) (s : Unit) => []) :=
  opens_bool Try.underlying4
theorem opens_t91 : Opens Try.prog 91 (fun (a : List Op) (s : SlV) => [s.val a.length]) (fun (a : List Op) (s : SlV) => [RdL EOp s a]) :=
  opens_slice EOp enc_Op Try.underlying91 eqK_33 cells_33 rfl bytes_33
theorem opens_t92 : Opens Try.prog 92 (fun (a : List Step) (s : SlV) => [s.val a.length]) (fun (a : List Step) (s : SlV) => [RdL EStep s a]) :=
  opens_slice EStep enc_Step Try.underlying92 eqK_37 cells_37 rfl bytes_37
theorem cells_92 : Try.prog.cellsOf 92 = 1 := by kernel_rfl
theorem bytes_92 : Try.prog.bytesOf 92 = 24 := by kernel_rfl
theorem cells_94 : Try.prog.cellsOf 94 = 2 := by kernel_rfl
theorem bytes_94 : Try.prog.bytesOf 94 = 48 := by kernel_rfl
theorem opens_t94 : Opens Try.prog 94 (fun (a : History) (s : SlV × SlV) => [s.1.val a.l.length, s.2.val a.t.length]) (fun (a : History) (s : SlV × SlV) => [RdL EStep s.1 a.l, RdL EPlace s.2 a.t]) :=
  (opens_struct Try.underlying94 cells_94 (opensF_cons opens_t92 rfl rfl cells_92 (opensF_cons opens_t29 rfl rfl cells_29 opensF_nil))).map (fun (a : History) (s : SlV × SlV) => [s.1.val a.l.length, s.2.val a.t.length]) (fun (a : History) (s : SlV × SlV) => [RdL EStep s.1 a.l, RdL EPlace s.2 a.t]) (fun a => (⟨a.1, a.2.1⟩ : History)) (fun s => (s.1, s.2.1)) (fun _ _ => rfl) (fun _ _ => rfl)
end Go.Proofs.Ytchdacbjiomplaa

namespace Go.Proofs.Ytchdacbjiomplaa
open Go Go.Proofs.Ytchdacbjiomplaa.Fw Go.Proofs
theorem cells_91 : Try.prog.cellsOf 91 = 1 := by kernel_rfl
theorem bytes_91 : Try.prog.bytesOf 91 = 24 := by kernel_rfl
theorem cells_109 : Try.prog.cellsOf 109 = 8 := by kernel_rfl
theorem bytes_109 : Try.prog.bytesOf 109 = 128 := by kernel_rfl
theorem opens_t109 : Opens Try.prog 109 (fun (a : Client) (s : SlV × SlV × SlV × SlV) => [.int .i64 a.life, .int .i64 a.time, .int .i64 a.seq, s.1.val a.pending.length, .int .i64 a.version, s.2.1.val a.v.roots.length, s.2.2.1.val a.v.known.length, s.2.2.2.val a.v.way.length]) (fun (a : Client) (s : SlV × SlV × SlV × SlV) => [RdL EOp s.1 a.pending, RdL EInt s.2.1 a.v.roots, RdL EPlace s.2.2.1 a.v.known, RdL EPlace s.2.2.2 a.v.way]) :=
  (opens_struct Try.underlying109 cells_109 (opensF_cons opens_t3 rfl rfl cells_3 (opensF_cons opens_t3 rfl rfl cells_3 (opensF_cons opens_t3 rfl rfl cells_3 (opensF_cons opens_t91 rfl rfl cells_91 (opensF_cons opens_t3 rfl rfl cells_3 (opensF_cons opens_t51 rfl rfl cells_51 opensF_nil))))))).map (fun (a : Client) (s : SlV × SlV × SlV × SlV) => [.int .i64 a.life, .int .i64 a.time, .int .i64 a.seq, s.1.val a.pending.length, .int .i64 a.version, s.2.1.val a.v.roots.length, s.2.2.1.val a.v.known.length, s.2.2.2.val a.v.way.length]) (fun (a : Client) (s : SlV × SlV × SlV × SlV) => [RdL EOp s.1 a.pending, RdL EInt s.2.1 a.v.roots, RdL EPlace s.2.2.1 a.v.known, RdL EPlace s.2.2.2 a.v.way]) (fun a => (⟨a.1, a.2.1, a.2.2.1, a.2.2.2.1, a.2.2.2.2.1, a.2.2.2.2.2.1⟩ : Client)) (fun s => (s.2.2.2.1, s.2.2.2.2.2.1.1, s.2.2.2.2.2.1.2.1, s.2.2.2.2.2.1.2.2)) (fun _ _ => rfl) (fun _ _ => rfl)
theorem cells_80 : Try.prog.cellsOf 80 = 21 := by kernel_rfl
theorem bytes_80 : Try.prog.bytesOf 80 = 280 := by kernel_rfl
theorem opens_t80 : Opens Try.prog 80 (fun (a : Mail) (s : SlV × SlV × SlV × SlV × SlV × SlV × SlV) => [.int .i64 a.kind, .int .i64 a.who, .int .i64 a.life, .int .i64 a.seq, .int .i64 a.time, .int .i64 a.version, .int .i64 a.frm, .int .i64 a.o.time, .int .i64 a.o.who, .int .i64 a.o.node, .int .i64 a.o.parent, .int .i64 a.o.name, .int .i64 a.o.life, .int .i64 a.o.seq, s.1.val a.v.roots.length, s.2.1.val a.v.known.length, s.2.2.1.val a.v.way.length, s.2.2.2.1.val a.d.gone.length, s.2.2.2.2.1.val a.d.here.length, s.2.2.2.2.2.1.val a.d.wayGone.length, s.2.2.2.2.2.2.val a.d.wayHere.length]) (fun (a : Mail) (s : SlV × SlV × SlV × SlV × SlV × SlV × SlV) => [RdL EInt s.1 a.v.roots, RdL EPlace s.2.1 a.v.known, RdL EPlace s.2.2.1 a.v.way, RdL EInt s.2.2.2.1 a.d.gone, RdL EPlace s.2.2.2.2.1 a.d.here, RdL EInt s.2.2.2.2.2.1 a.d.wayGone, RdL EPlace s.2.2.2.2.2.2 a.d.wayHere]) :=
  (opens_struct Try.underlying80 cells_80 (opensF_cons opens_t3 rfl rfl cells_3 (opensF_cons opens_t3 rfl rfl cells_3 (opensF_cons opens_t3 rfl rfl cells_3 (opensF_cons opens_t3 rfl rfl cells_3 (opensF_cons opens_t3 rfl rfl cells_3 (opensF_cons opens_t3 rfl rfl cells_3 (opensF_cons opens_t3 rfl rfl cells_3 (opensF_cons opens_t33 rfl rfl cells_33 (opensF_cons opens_t51 rfl rfl cells_51 (opensF_cons opens_t70 rfl rfl cells_70 opensF_nil))))))))))).map (fun (a : Mail) (s : SlV × SlV × SlV × SlV × SlV × SlV × SlV) => [.int .i64 a.kind, .int .i64 a.who, .int .i64 a.life, .int .i64 a.seq, .int .i64 a.time, .int .i64 a.version, .int .i64 a.frm, .int .i64 a.o.time, .int .i64 a.o.who, .int .i64 a.o.node, .int .i64 a.o.parent, .int .i64 a.o.name, .int .i64 a.o.life, .int .i64 a.o.seq, s.1.val a.v.roots.length, s.2.1.val a.v.known.length, s.2.2.1.val a.v.way.length, s.2.2.2.1.val a.d.gone.length, s.2.2.2.2.1.val a.d.here.length, s.2.2.2.2.2.1.val a.d.wayGone.length, s.2.2.2.2.2.2.val a.d.wayHere.length]) (fun (a : Mail) (s : SlV × SlV × SlV × SlV × SlV × SlV × SlV) => [RdL EInt s.1 a.v.roots, RdL EPlace s.2.1 a.v.known, RdL EPlace s.2.2.1 a.v.way, RdL EInt s.2.2.2.1 a.d.gone, RdL EPlace s.2.2.2.2.1 a.d.here, RdL EInt s.2.2.2.2.2.1 a.d.wayGone, RdL EPlace s.2.2.2.2.2.2 a.d.wayHere]) (fun a => (⟨a.1, a.2.1, a.2.2.1, a.2.2.2.1, a.2.2.2.2.1, a.2.2.2.2.2.1, a.2.2.2.2.2.2.1, a.2.2.2.2.2.2.2.1, a.2.2.2.2.2.2.2.2.1, a.2.2.2.2.2.2.2.2.2.1⟩ : Mail)) (fun s => (s.2.2.2.2.2.2.2.2.1.1, s.2.2.2.2.2.2.2.2.1.2.1, s.2.2.2.2.2.2.2.2.1.2.2, s.2.2.2.2.2.2.2.2.2.1.1, s.2.2.2.2.2.2.2.2.2.1.2.1, s.2.2.2.2.2.2.2.2.2.1.2.2.1, s.2.2.2.2.2.2.2.2.2.1.2.2.2)) (fun _ _ => rfl) (fun _ _ => rfl)
end Go.Proofs.Ytchdacbjiomplaa

namespace Go.Proofs.Ytchdacbjiomplaa
open Go Go.Proofs.Ytchdacbjiomplaa.Fw Go.Proofs
theorem opens_t78 : Opens Try.prog 78 (fun (a : List Mail) (s : SlV) => [s.val a.length]) (fun (a : List Mail) (s : SlV) => [RdN NMail s a]) :=
  opens_nslice NMail Try.underlying78 opens_t80 cells_80 rfl bytes_80
theorem cells_144 : Try.prog.cellsOf 144 = 3 := by kernel_rfl
theorem bytes_144 : Try.prog.bytesOf 144 = 40 := by kernel_rfl
theorem opens_t144 : Opens Try.prog 144 (fun (a : Peer) (s : SlV) => [.int .i64 a.life, .int .i64 a.seq, s.val a.roots.length]) (fun (a : Peer) (s : SlV) => [RdL EInt s a.roots]) :=
  (opens_struct Try.underlying144 cells_144 (opensF_cons opens_t3 rfl rfl cells_3 (opensF_cons opens_t3 rfl rfl cells_3 (opensF_cons opens_t24 rfl rfl cells_24 opensF_nil)))).map (fun (a : Peer) (s : SlV) => [.int .i64 a.life, .int .i64 a.seq, s.val a.roots.length]) (fun (a : Peer) (s : SlV) => [RdL EInt s a.roots]) (fun a => (⟨a.1, a.2.1, a.2.2.1⟩ : Peer)) (fun s => s.2.2.1) (fun _ _ => rfl) (fun _ _ => rfl)
theorem opens_t129 : Opens Try.prog 129 (fun (a : List Peer) (s : SlV) => [s.val a.length]) (fun (a : List Peer) (s : SlV) => [RdN NPeer s a]) :=
  opens_nslice NPeer Try.underlying129 opens_t144 cells_144 rfl bytes_144
theorem cells_129 : Try.prog.cellsOf 129 = 1 := by kernel_rfl
theorem bytes_129 : Try.prog.bytesOf 129 = 24 := by kernel_rfl
theorem cells_131 : Try.prog.cellsOf 131 = 4 := by kernel_rfl
theorem bytes_131 : Try.prog.bytesOf 131 = 80 := by kernel_rfl
theorem opens_t131 : Opens Try.prog 131 (fun (a : Hub) (s : SlV × SlV × SlV) => [s.1.val a.h.l.length, s.2.1.val a.h.t.length, .int .i64 a.version, s.2.2.val a.peers.length]) (fun (a : Hub) (s : SlV × SlV × SlV) => [RdL EStep s.1 a.h.l, RdL EPlace s.2.1 a.h.t, RdN NPeer s.2.2 a.peers]) :=
  (opens_struct Try.underlying131 cells_131 (opensF_cons opens_t94 rfl rfl cells_94 (opensF_cons opens_t3 rfl rfl cells_3 (opensF_cons opens_t129 rfl rfl cells_129 opensF_nil)))).map (fun (a : Hub) (s : SlV × SlV × SlV) => [s.1.val a.h.l.length, s.2.1.val a.h.t.length, .int .i64 a.version, s.2.2.val a.peers.length]) (fun (a : Hub) (s : SlV × SlV × SlV) => [RdL EStep s.1 a.h.l, RdL EPlace s.2.1 a.h.t, RdN NPeer s.2.2 a.peers]) (fun a => (⟨a.1, a.2.1, a.2.2.1⟩ : Hub)) (fun s => (s.1.1, s.1.2, s.2.2.1)) (fun _ _ => rfl) (fun _ _ => rfl)
theorem cells_136 : Try.prog.cellsOf 136 = 11 := by kernel_rfl
theorem bytes_136 : Try.prog.bytesOf 136 = 104 := by kernel_rfl
theorem opens_t136 : Opens Try.prog 136 (fun (a : Rec) (s : SlV) => [.int .i64 a.kind, .int .i64 a.who, .int .i64 a.life, s.val a.roots.length, .int .i64 a.o.time, .int .i64 a.o.who, .int .i64 a.o.node, .int .i64 a.o.parent, .int .i64 a.o.name, .int .i64 a.o.life, .int .i64 a.o.seq]) (fun (a : Rec) (s : SlV) => [RdL EInt s a.roots]) :=
  (opens_struct Try.underlying136 cells_136 (opensF_cons opens_t3 rfl rfl cells_3 (opensF_cons opens_t3 rfl rfl cells_3 (opensF_cons opens_t3 rfl rfl cells_3 (opensF_cons opens_t24 rfl rfl cells_24 (opensF_cons opens_t33 rfl rfl cells_33 opensF_nil)))))).map (fun (a : Rec) (s : SlV) => [.int .i64 a.kind, .int .i64 a.who, .int .i64 a.life, s.val a.roots.length, .int .i64 a.o.time, .int .i64 a.o.who, .int .i64 a.o.node, .int .i64 a.o.parent, .int .i64 a.o.name, .int .i64 a.o.life, .int .i64 a.o.seq]) (fun (a : Rec) (s : SlV) => [RdL EInt s a.roots]) (fun a => (⟨a.1, a.2.1, a.2.2.1, a.2.2.2.1, a.2.2.2.2.1⟩ : Rec)) (fun s => s.2.2.2.1) (fun _ _ => rfl) (fun _ _ => rfl)
theorem opens_t128 : Opens Try.prog 128 (fun (a : List Rec) (s : SlV) => [s.val a.length]) (fun (a : List Rec) (s : SlV) => [RdN NRec s a]) :=
  opens_nslice NRec Try.underlying128 opens_t136 cells_136 rfl bytes_136
end Go.Proofs.Ytchdacbjiomplaa
