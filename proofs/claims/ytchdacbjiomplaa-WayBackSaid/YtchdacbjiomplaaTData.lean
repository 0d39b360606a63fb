/- Part of this claim. No condition. -/
import Derived.Test.YtchdacbjiomplaaTTab
import Derived.Test.YtchdacbjiomplaaFx
set_option linter.unusedVariables false
set_option linter.unusedSimpArgs false
namespace Go.Proofs.Ytchdacbjiomplaa
open Go Go.Proofs.Ytchdacbjiomplaa.Fw Go.Proofs

/-! ### Plain data, and how it lies in cells -/
structure Place where
  node : Int
  parent : Int
  name : Int
  deriving DecidableEq
instance : Inhabited Place := ⟨⟨0, 0, 0⟩⟩
structure Stamp where
  time : Int
  who : Int
  deriving DecidableEq
instance : Inhabited Stamp := ⟨⟨0, 0⟩⟩
structure Op where
  time : Int
  who : Int
  node : Int
  parent : Int
  name : Int
  life : Int
  seq : Int
  deriving DecidableEq
instance : Inhabited Op := ⟨⟨0, 0, 0, 0, 0, 0, 0⟩⟩
structure Step where
  o : Op
  did : Bool
  was : Place
  deriving DecidableEq
instance : Inhabited Step := ⟨⟨default, false, default⟩⟩
structure History where
  l : List Step
  t : List Place
  deriving DecidableEq
instance : Inhabited History := ⟨⟨[], []⟩⟩
structure View where
  roots : List Int
  known : List Place
  way : List Place
  deriving DecidableEq
instance : Inhabited View := ⟨⟨[], [], []⟩⟩
structure Delta where
  gone : List Int
  here : List Place
  wayGone : List Int
  wayHere : List Place
  deriving DecidableEq
instance : Inhabited Delta := ⟨⟨[], [], [], []⟩⟩
structure Rec where
  kind : Int
  who : Int
  life : Int
  roots : List Int
  o : Op
  deriving DecidableEq
instance : Inhabited Rec := ⟨⟨0, 0, 0, [], default⟩⟩
structure Peer where
  life : Int
  seq : Int
  roots : List Int
  deriving DecidableEq
instance : Inhabited Peer := ⟨⟨0, 0, []⟩⟩
structure Hub where
  h : History
  version : Int
  peers : List Peer
  deriving DecidableEq
instance : Inhabited Hub := ⟨⟨default, 0, []⟩⟩
structure Client where
  life : Int
  time : Int
  seq : Int
  pending : List Op
  version : Int
  v : View
  deriving DecidableEq
instance : Inhabited Client := ⟨⟨0, 0, 0, [], 0, default⟩⟩
structure Mail where
  kind : Int
  who : Int
  life : Int
  seq : Int
  time : Int
  version : Int
  frm : Int
  o : Op
  v : View
  d : Delta
  deriving DecidableEq
instance : Inhabited Mail := ⟨⟨0, 0, 0, 0, 0, 0, 0, default, default, default⟩⟩
def EInt : El Int := ⟨fun n => [.int .i64 n], 1, 8, fun _ => rfl, fun a u hu => kinds_one (ks := [true]) (l := [.int .i64 a]) rfl u hu⟩
theorem enc_Int : Encs [true] EInt.enc := ⟨fun _ => rfl, fun cs h => by
  match cs, h with
  | [.int .i64 n], _ => exact ⟨n, rfl⟩⟩
def EPlace : El Place := ⟨fun p => [.int .i64 p.node, .int .i64 p.parent, .int .i64 p.name], 3, 24, fun _ => rfl, fun p u hu => kinds_one (ks := [true, true, true]) (l := [.int .i64 p.node, .int .i64 p.parent, .int .i64 p.name]) rfl u hu⟩
theorem enc_Place : Encs [true, true, true] EPlace.enc := ⟨fun _ => rfl, fun cs h => by
  match cs, h with
  | [.int .i64 a0, .int .i64 a1, .int .i64 a2], _ => exact ⟨⟨a0, a1, a2⟩, rfl⟩⟩
theorem flatEq_Place (a b : Place) : flatEq (EPlace.enc a) (EPlace.enc b) = decide (a = b) := by
  obtain ⟨_, _, _⟩ := a; obtain ⟨_, _, _⟩ := b
  rw [Bool.eq_iff_iff]; simp [flatEq, EPlace, and_assoc]
theorem eqT_Place : EqT Try.prog 35 [true, true, true] := ⟨by kernel_rfl, by kernel_rfl⟩
def EStamp : El Stamp := ⟨fun p => [.int .i64 p.time, .int .i64 p.who], 2, 16, fun _ => rfl, fun p u hu => kinds_one (ks := [true, true]) (l := [.int .i64 p.time, .int .i64 p.who]) rfl u hu⟩
theorem enc_Stamp : Encs [true, true] EStamp.enc := ⟨fun _ => rfl, fun cs h => by
  match cs, h with
  | [.int .i64 a0, .int .i64 a1], _ => exact ⟨⟨a0, a1⟩, rfl⟩⟩
theorem flatEq_Stamp (a b : Stamp) : flatEq (EStamp.enc a) (EStamp.enc b) = decide (a = b) := by
  obtain ⟨_, _⟩ := a; obtain ⟨_, _⟩ := b
  rw [Bool.eq_iff_iff]; simp [flatEq, EStamp, and_assoc]
theorem eqT_Stamp : EqT Try.prog 31 [true, true] := ⟨by kernel_rfl, by kernel_rfl⟩
def EOp : El Op := ⟨fun p => [.int .i64 p.time, .int .i64 p.who, .int .i64 p.node, .int .i64 p.parent, .int .i64 p.name, .int .i64 p.life, .int .i64 p.seq], 7, 56, fun _ => rfl, fun p u hu => kinds_one (ks := [true, true, true, true, true, true, true]) (l := [.int .i64 p.time, .int .i64 p.who, .int .i64 p.node, .int .i64 p.parent, .int .i64 p.name, .int .i64 p.life, .int .i64 p.seq]) rfl u hu⟩
theorem enc_Op : Encs [true, true, true, true, true, true, true] EOp.enc := ⟨fun _ => rfl, fun cs h => by
  match cs, h with
  | [.int .i64 a0, .int .i64 a1, .int .i64 a2, .int .i64 a3, .int .i64 a4, .int .i64 a5, .int .i64 a6], _ => exact ⟨⟨a0, a1, a2, a3, a4, a5, a6⟩, rfl⟩⟩
theorem flatEq_Op (a b : Op) : flatEq (EOp.enc a) (EOp.enc b) = decide (a = b) := by
  obtain ⟨_, _, _, _, _, _, _⟩ := a; obtain ⟨_, _, _, _, _, _, _⟩ := b
  rw [Bool.eq_iff_iff]; simp [flatEq, EOp, and_assoc]
theorem eqT_Op : EqT Try.prog 33 [true, true, true, true, true, true, true] := ⟨by kernel_rfl, by kernel_rfl⟩
def EStep : El Step := ⟨fun p => [.int .i64 p.o.time, .int .i64 p.o.who, .int .i64 p.o.node, .int .i64 p.o.parent, .int .i64 p.o.name, .int .i64 p.o.life, .int .i64 p.o.seq, .bool p.did, .int .i64 p.was.node, .int .i64 p.was.parent, .int .i64 p.was.name], 11, 88, fun _ => rfl, fun p u hu => kinds_one (ks := [true, true, true, true, true, true, true, false, true, true, true]) (l := [.int .i64 p.o.time, .int .i64 p.o.who, .int .i64 p.o.node, .int .i64 p.o.parent, .int .i64 p.o.name, .int .i64 p.o.life, .int .i64 p.o.seq, .bool p.did, .int .i64 p.was.node, .int .i64 p.was.parent, .int .i64 p.was.name]) rfl u hu⟩
theorem enc_Step : Encs [true, true, true, true, true, true, true, false, true, true, true] EStep.enc := ⟨fun _ => rfl, fun cs h => by
  match cs, h with
  | [.int .i64 a0, .int .i64 a1, .int .i64 a2, .int .i64 a3, .int .i64 a4, .int .i64 a5, .int .i64 a6, .bool a7, .int .i64 a8, .int .i64 a9, .int .i64 a10], _ => exact ⟨⟨⟨a0, a1, a2, a3, a4, a5, a6⟩, a7, ⟨a8, a9, a10⟩⟩, rfl⟩⟩
theorem flatEq_Step (a b : Step) : flatEq (EStep.enc a) (EStep.enc b) = decide (a = b) := by
  obtain ⟨⟨_, _, _, _, _, _, _⟩, _, ⟨_, _, _⟩⟩ := a; obtain ⟨⟨_, _, _, _, _, _, _⟩, _, ⟨_, _, _⟩⟩ := b
  rw [Bool.eq_iff_iff]; simp [flatEq, EStep, and_assoc]
theorem eqT_Step : EqT Try.prog 37 [true, true, true, true, true, true, true, false, true, true, true] := ⟨by kernel_rfl, by kernel_rfl⟩
def NPlaces : En (List Place) := ⟨SlV, inferInstance, ⟨fun h => [h.1.val h.2.length], 1, 24, fun _ => rfl, fun h => (allP_cons rfl (fun _ h => by cases h))⟩, fun h => [RdL EPlace h.1 h.2], fun _ => inferInstance⟩
def NOps : En (List Op) := ⟨SlV, inferInstance, ⟨fun h => [h.1.val h.2.length], 1, 24, fun _ => rfl, fun h => (allP_cons rfl (fun _ h => by cases h))⟩, fun h => [RdL EOp h.1 h.2], fun _ => inferInstance⟩
def NPeer : En (Peer) := ⟨SlV, inferInstance, ⟨fun h => [.int .i64 h.2.life, .int .i64 h.2.seq, h.1.val h.2.roots.length], 3, 40, fun _ => rfl, fun h => (allP_cons rfl (allP_cons rfl (allP_cons rfl (fun _ h => by cases h))))⟩, fun h => [RdL EInt h.1 h.2.roots], fun _ => inferInstance⟩
def NMail : En (Mail) := ⟨SlV × SlV × SlV × SlV × SlV × SlV × SlV, inferInstance, ⟨fun h => [.int .i64 h.2.kind, .int .i64 h.2.who, .int .i64 h.2.life, .int .i64 h.2.seq, .int .i64 h.2.time, .int .i64 h.2.version, .int .i64 h.2.frm, .int .i64 h.2.o.time, .int .i64 h.2.o.who, .int .i64 h.2.o.node, .int .i64 h.2.o.parent, .int .i64 h.2.o.name, .int .i64 h.2.o.life, .int .i64 h.2.o.seq, h.1.1.val h.2.v.roots.length, h.1.2.1.val h.2.v.known.length, h.1.2.2.1.val h.2.v.way.length, h.1.2.2.2.1.val h.2.d.gone.length, h.1.2.2.2.2.1.val h.2.d.here.length, h.1.2.2.2.2.2.1.val h.2.d.wayGone.length, h.1.2.2.2.2.2.2.val h.2.d.wayHere.length], 21, 280, fun _ => rfl, fun h => (allP_cons rfl (allP_cons rfl (allP_cons rfl (allP_cons rfl (allP_cons rfl (allP_cons rfl (allP_cons rfl (allP_cons rfl (allP_cons rfl (allP_cons rfl (allP_cons rfl (allP_cons rfl (allP_cons rfl (allP_cons rfl (allP_cons rfl (allP_cons rfl (allP_cons rfl (allP_cons rfl (allP_cons rfl (allP_cons rfl (allP_cons rfl (fun _ h => by cases h))))))))))))))))))))))⟩, fun h => [RdL EInt h.1.1 h.2.v.roots, RdL EPlace h.1.2.1 h.2.v.known, RdL EPlace h.1.2.2.1 h.2.v.way, RdL EInt h.1.2.2.2.1 h.2.d.gone, RdL EPlace h.1.2.2.2.2.1 h.2.d.here, RdL EInt h.1.2.2.2.2.2.1 h.2.d.wayGone, RdL EPlace h.1.2.2.2.2.2.2 h.2.d.wayHere], fun _ => inferInstance⟩
def NRec : En (Rec) := ⟨SlV, inferInstance, ⟨fun h => [.int .i64 h.2.kind, .int .i64 h.2.who, .int .i64 h.2.life, h.1.val h.2.roots.length, .int .i64 h.2.o.time, .int .i64 h.2.o.who, .int .i64 h.2.o.node, .int .i64 h.2.o.parent, .int .i64 h.2.o.name, .int .i64 h.2.o.life, .int .i64 h.2.o.seq], 11, 104, fun _ => rfl, fun h => (allP_cons rfl (allP_cons rfl (allP_cons rfl (allP_cons rfl (allP_cons rfl (allP_cons rfl (allP_cons rfl (allP_cons rfl (allP_cons rfl (allP_cons rfl (allP_cons rfl (fun _ h => by cases h))))))))))))⟩, fun h => [RdL EInt h.1 h.2.roots], fun _ => inferInstance⟩
theorem und_2 : Try.prog.underlying 2 = some (.int .i64) := by kernel_rfl
theorem und_3 : Try.prog.underlying 3 = some (.int .i64) := by kernel_rfl
theorem und_4 : Try.prog.underlying 4 = some .bool := by kernel_rfl
theorem und_12 : Try.prog.underlying 12 = some (.int .u64) := by kernel_rfl
theorem und_22 : Try.prog.underlying 22 = some (.int .i64) := by kernel_rfl
theorem und_194 : Try.prog.underlying 194 = some (.int .u64) := by kernel_rfl
theorem und_210 : Try.prog.underlying 210 = some (.int .i64) := by kernel_rfl
theorem und_220 : Try.prog.underlying 220 = some (.int .u64) := by kernel_rfl
theorem und_230 : Try.prog.underlying 230 = some (.int .u64) := by kernel_rfl
end Go.Proofs.Ytchdacbjiomplaa
