/- Part of this claim. No condition. -/
import Derived.Test.YtaiefncoholnnaaDoorTTab4
import Derived.Test.YtaiefncoholnnaaDoorFx
set_option linter.unusedVariables false
set_option linter.unusedSimpArgs false
namespace Go.Proofs.YtaiefncoholnnaaDoor
open Go Go.Proofs.YtaiefncoholnnaaDoor.Fw Go.Proofs

/-! ### Plain data, and how it lies in cells -/
structure Place where
  node : Int
  parent : Int
  name : Int
  deriving DecidableEq
instance : Inhabited Place := ⟨⟨0, 0, 0⟩⟩
structure Stamp where
  time : Int
  who : Int
  deriving DecidableEq
instance : Inhabited Stamp := ⟨⟨0, 0⟩⟩
structure Op where
  time : Int
  who : Int
  node : Int
  parent : Int
  name : Int
  life : Int
  seq : Int
  deriving DecidableEq
instance : Inhabited Op := ⟨⟨0, 0, 0, 0, 0, 0, 0⟩⟩
structure Rec where
  kind : Int
  who : Int
  life : Int
  roots : List Int
  o : Op
  deriving DecidableEq
instance : Inhabited Rec := ⟨⟨0, 0, 0, [], default⟩⟩
structure Disk where
  safe : List UInt8
  wait : List UInt8
  deriving DecidableEq
instance : Inhabited Disk := ⟨⟨[], []⟩⟩
def EInt : El Int := ⟨fun n => [.int .i64 n], 1, 8, fun _ => rfl, fun a u hu => kinds_one (ks := [true]) (l := [.int .i64 a]) rfl u hu⟩
theorem enc_Int : Encs [true] EInt.enc := ⟨fun _ => rfl, fun cs h => by
  match cs, h with
  | [.int .i64 n], _ => exact ⟨n, rfl⟩⟩
def EPlace : El Place := ⟨fun p => [.int .i64 p.node, .int .i64 p.parent, .int .i64 p.name], 3, 24, fun _ => rfl, fun p u hu => kinds_one (ks := [true, true, true]) (l := [.int .i64 p.node, .int .i64 p.parent, .int .i64 p.name]) rfl u hu⟩
theorem enc_Place : Encs [true, true, true] EPlace.enc := ⟨fun _ => rfl, fun cs h => by
  match cs, h with
  | [.int .i64 a0, .int .i64 a1, .int .i64 a2], _ => exact ⟨⟨a0, a1, a2⟩, rfl⟩⟩
theorem flatEq_Place (a b : Place) : flatEq (EPlace.enc a) (EPlace.enc b) = decide (a = b) := by
  obtain ⟨_, _, _⟩ := a; obtain ⟨_, _, _⟩ := b
  rw [Bool.eq_iff_iff]; simp [flatEq, EPlace, and_assoc]
theorem eqT_Place : EqT Tryd.prog 102 [true, true, true] := ⟨by kernel_rfl, by kernel_rfl⟩
def EStamp : El Stamp := ⟨fun p => [.int .i64 p.time, .int .i64 p.who], 2, 16, fun _ => rfl, fun p u hu => kinds_one (ks := [true, true]) (l := [.int .i64 p.time, .int .i64 p.who]) rfl u hu⟩
theorem enc_Stamp : Encs [true, true] EStamp.enc := ⟨fun _ => rfl, fun cs h => by
  match cs, h with
  | [.int .i64 a0, .int .i64 a1], _ => exact ⟨⟨a0, a1⟩, rfl⟩⟩
theorem flatEq_Stamp (a b : Stamp) : flatEq (EStamp.enc a) (EStamp.enc b) = decide (a = b) := by
  obtain ⟨_, _⟩ := a; obtain ⟨_, _⟩ := b
  rw [Bool.eq_iff_iff]; simp [flatEq, EStamp, and_assoc]
theorem eqT_Stamp : EqT Tryd.prog 24 [true, true] := ⟨by kernel_rfl, by kernel_rfl⟩
def EOp : El Op := ⟨fun p => [.int .i64 p.time, .int .i64 p.who, .int .i64 p.node, .int .i64 p.parent, .int .i64 p.name, .int .i64 p.life, .int .i64 p.seq], 7, 56, fun _ => rfl, fun p u hu => kinds_one (ks := [true, true, true, true, true, true, true]) (l := [.int .i64 p.time, .int .i64 p.who, .int .i64 p.node, .int .i64 p.parent, .int .i64 p.name, .int .i64 p.life, .int .i64 p.seq]) rfl u hu⟩
theorem enc_Op : Encs [true, true, true, true, true, true, true] EOp.enc := ⟨fun _ => rfl, fun cs h => by
  match cs, h with
  | [.int .i64 a0, .int .i64 a1, .int .i64 a2, .int .i64 a3, .int .i64 a4, .int .i64 a5, .int .i64 a6], _ => exact ⟨⟨a0, a1, a2, a3, a4, a5, a6⟩, rfl⟩⟩
theorem flatEq_Op (a b : Op) : flatEq (EOp.enc a) (EOp.enc b) = decide (a = b) := by
  obtain ⟨_, _, _, _, _, _, _⟩ := a; obtain ⟨_, _, _, _, _, _, _⟩ := b
  rw [Bool.eq_iff_iff]; simp [flatEq, EOp, and_assoc]
theorem eqT_Op : EqT Tryd.prog 26 [true, true, true, true, true, true, true] := ⟨by kernel_rfl, by kernel_rfl⟩
def NBytes : En (List UInt8) := ⟨SlV, inferInstance, ⟨fun h => [h.1.val h.2.length], 1, 24, fun _ => rfl, fun h => (allP_cons rfl (fun _ h => by cases h))⟩, fun h => [RdL EByte h.1 h.2], fun _ => inferInstance⟩
def NRec : En (Rec) := ⟨SlV, inferInstance, ⟨fun h => [.int .i64 h.2.kind, .int .i64 h.2.who, .int .i64 h.2.life, h.1.val h.2.roots.length, .int .i64 h.2.o.time, .int .i64 h.2.o.who, .int .i64 h.2.o.node, .int .i64 h.2.o.parent, .int .i64 h.2.o.name, .int .i64 h.2.o.life, .int .i64 h.2.o.seq], 11, 104, fun _ => rfl, fun h => (allP_cons rfl (allP_cons rfl (allP_cons rfl (allP_cons rfl (allP_cons rfl (allP_cons rfl (allP_cons rfl (allP_cons rfl (allP_cons rfl (allP_cons rfl (allP_cons rfl (fun _ h => by cases h))))))))))))⟩, fun h => [RdL EInt h.1 h.2.roots], fun _ => inferInstance⟩
def NRecs : En (List Rec) := ⟨SlV, inferInstance, ⟨fun h => [h.1.val h.2.length], 1, 24, fun _ => rfl, fun h => (allP_cons rfl (fun _ h => by cases h))⟩, fun h => [RdN NRec h.1 h.2], fun _ => inferInstance⟩
theorem und_2 : Tryd.prog.underlying 2 = some (.int .i64) := by kernel_rfl
theorem und_3 : Tryd.prog.underlying 3 = some (.int .i64) := by kernel_rfl
theorem und_4 : Tryd.prog.underlying 4 = some .bool := by kernel_rfl
theorem und_12 : Tryd.prog.underlying 12 = some (.int .u64) := by kernel_rfl
theorem und_29 : Tryd.prog.underlying 29 = some (.int .i64) := by kernel_rfl
theorem und_96 : Tryd.prog.underlying 96 = some (.int .i64) := by kernel_rfl
theorem und_104 : Tryd.prog.underlying 104 = some (.int .u64) := by kernel_rfl
theorem und_107 : Tryd.prog.underlying 107 = some (.int .u64) := by kernel_rfl
theorem und_5 : Tryd.prog.underlying 5 = some (.int .u8) := by kernel_rfl
theorem und_6 : Tryd.prog.underlying 6 = some (.int .u8) := by kernel_rfl
theorem und_9 : Tryd.prog.underlying 9 = some .string := by kernel_rfl
theorem und_10 : Tryd.prog.underlying 10 = some .string := by kernel_rfl
theorem und_11 : Tryd.prog.underlying 11 = some .string := by kernel_rfl
theorem und_22 : Tryd.prog.underlying 22 = some (.slice 3) := by kernel_rfl
theorem und_38 : Tryd.prog.underlying 38 = some (.slice 28) := by kernel_rfl
theorem und_39 : Tryd.prog.underlying 39 = some (.slice 5) := by kernel_rfl
theorem und_61 : Tryd.prog.underlying 61 = some (.slice 9) := by kernel_rfl
theorem und_64 : Tryd.prog.underlying 64 = some (.interface #[("Error", 90)]) := by kernel_rfl
theorem und_80 : Tryd.prog.underlying 80 = some (.slice 38) := by kernel_rfl
theorem und_91 : Tryd.prog.underlying 91 = some (.slice 39) := by kernel_rfl
theorem und_151 : Tryd.prog.underlying 151 = some (.int .u8) := by kernel_rfl
theorem und_152 : Tryd.prog.underlying 152 = some (.int .u8) := by kernel_rfl
instance (γ : Nat → SlV) (l : List (List UInt8)) : Stab (FactsG NBytes γ l) := stabFG NBytes γ l
instance (γ : Nat → SlV) (l : List Rec) : Stab (FactsG NRec γ l) := stabFG NRec γ l
instance (γ : Nat → SlV) (l : List (List Rec)) : Stab (FactsG NRecs γ l) := stabFG NRecs γ l
end Go.Proofs.YtaiefncoholnnaaDoor
