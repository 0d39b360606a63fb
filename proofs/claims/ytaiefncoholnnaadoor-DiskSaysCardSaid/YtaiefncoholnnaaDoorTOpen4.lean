/- Part of this claim. No condition. -/
import Derived.Test.YtaiefncoholnnaaDoorTLaid
import Derived.Test.YtaiefncoholnnaaDoorFw
import Derived.Test.YtaiefncoholnnaaDoorFwBo
import Derived.Test.YtaiefncoholnnaaDoorFx
set_option linter.unusedVariables false
set_option linter.unusedSimpArgs false
namespace Go.Proofs.YtaiefncoholnnaaDoor
open Go Go.Proofs.YtaiefncoholnnaaDoor.Fw Go.Proofs
theorem opens_t3 : Opens Tryd.prog 3 (fun (a : Int) (s : Unit) => [.int .i64 a]) (fun (a : Int) (s : Unit) => []) :=
  opens_int Tryd.underlying3
theorem cells_3 : Tryd.prog.cellsOf 3 = 1 := by kernel_rfl
theorem bytes_3 : Tryd.prog.bytesOf 3 = 8 := by kernel_rfl
theorem opens_t22 : Opens Tryd.prog 22 (fun (a : List Int) (s : SlV) => [s.val a.length]) (fun (a : List Int) (s : SlV) => [RdL EInt s a]) :=
  opens_intslice EInt (fun _ => rfl) rfl Tryd.underlying22 Tryd.underlying3 cells_3 bytes_3
theorem cells_22 : Tryd.prog.cellsOf 22 = 1 := by kernel_rfl
theorem bytes_22 : Tryd.prog.bytesOf 22 = 24 := by kernel_rfl
theorem cells_26 : Tryd.prog.cellsOf 26 = 7 := by kernel_rfl
theorem bytes_26 : Tryd.prog.bytesOf 26 = 56 := by kernel_rfl
theorem eqK_26 : eqK Tryd.prog 20 26 = some [true, true, true, true, true, true, true] := by kernel_rfl
theorem opens_t26 : Opens Tryd.prog 26 (fun (a : Op) (s : Unit) => [.int .i64 a.time, .int .i64 a.who, .int .i64 a.node, .int .i64 a.parent, .int .i64 a.name, .int .i64 a.life, .int .i64 a.seq]) (fun (a : Op) (s : Unit) => []) :=
  opens_flat EOp enc_Op eqK_26 cells_26
theorem cells_28 : Tryd.prog.cellsOf 28 = 11 := by kernel_rfl
theorem bytes_28 : Tryd.prog.bytesOf 28 = 104 := by kernel_rfl
theorem opens_t28 : Opens Tryd.prog 28 (fun (a : Rec) (s : SlV) => [.int .i64 a.kind, .int .i64 a.who, .int .i64 a.life, s.val a.roots.length, .int .i64 a.o.time, .int .i64 a.o.who, .int .i64 a.o.node, .int .i64 a.o.parent, .int .i64 a.o.name, .int .i64 a.o.life, .int .i64 a.o.seq]) (fun (a : Rec) (s : SlV) => [RdL EInt s a.roots]) :=
  (opens_struct Tryd.underlying28 cells_28 (opensF_cons opens_t3 rfl rfl cells_3 (opensF_cons opens_t3 rfl rfl cells_3 (opensF_cons opens_t3 rfl rfl cells_3 (opensF_cons opens_t22 rfl rfl cells_22 (opensF_cons opens_t26 rfl rfl cells_26 opensF_nil)))))).map (fun (a : Rec) (s : SlV) => [.int .i64 a.kind, .int .i64 a.who, .int .i64 a.life, s.val a.roots.length, .int .i64 a.o.time, .int .i64 a.o.who, .int .i64 a.o.node, .int .i64 a.o.parent, .int .i64 a.o.name, .int .i64 a.o.life, .int .i64 a.o.seq]) (fun (a : Rec) (s : SlV) => [RdL EInt s a.roots]) (fun a => (⟨a.1, a.2.1, a.2.2.1, a.2.2.2.1, a.2.2.2.2.1⟩ : Rec)) (fun s => s.2.2.2.1) (fun _ _ => rfl) (fun _ _ => rfl)
theorem opens_t9 : Opens Tryd.prog 9 (fun (a : Str) (s : Unit) => [sV a]) (fun (a : Str) (s : Unit) => []) :=
  opens_str Tryd.underlying9
theorem opens_t38 : Opens Tryd.prog 38 (fun (a : List Rec) (s : SlV) => [s.val a.length]) (fun (a : List Rec) (s : SlV) => [RdN NRec s a]) :=
  opens_nslice NRec Tryd.underlying38 opens_t28 cells_28 rfl bytes_28
theorem cells_5 : Tryd.prog.cellsOf 5 = 1 := by kernel_rfl
theorem bytes_5 : Tryd.prog.bytesOf 5 = 1 := by kernel_rfl
theorem opens_t39 : Opens Tryd.prog 39 (fun (a : List UInt8) (s : SlV) => [s.val a.length]) (fun (a : List UInt8) (s : SlV) => [RdL EByte s a]) :=
  opens_bytes Tryd.underlying39 Tryd.underlying5 cells_5 bytes_5
theorem cells_39 : Tryd.prog.cellsOf 39 = 1 := by kernel_rfl
theorem bytes_39 : Tryd.prog.bytesOf 39 = 24 := by kernel_rfl
theorem cells_41 : Tryd.prog.cellsOf 41 = 2 := by kernel_rfl
theorem bytes_41 : Tryd.prog.bytesOf 41 = 48 := by kernel_rfl
theorem opens_t41 : Opens Tryd.prog 41 (fun (a : Disk) (s : SlV × SlV) => [s.1.val a.safe.length, s.2.val a.wait.length]) (fun (a : Disk) (s : SlV × SlV) => [RdL EByte s.1 a.safe, RdL EByte s.2 a.wait]) :=
  (opens_struct Tryd.underlying41 cells_41 (opensF_cons opens_t39 rfl rfl cells_39 (opensF_cons opens_t39 rfl rfl cells_39 opensF_nil))).map (fun (a : Disk) (s : SlV × SlV) => [s.1.val a.safe.length, s.2.val a.wait.length]) (fun (a : Disk) (s : SlV × SlV) => [RdL EByte s.1 a.safe, RdL EByte s.2 a.wait]) (fun a => (⟨a.1, a.2.1⟩ : Disk)) (fun s => (s.1, s.2.1)) (fun _ _ => rfl) (fun _ _ => rfl)
end Go.Proofs.YtaiefncoholnnaaDoor
