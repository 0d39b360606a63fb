/- Part of this claim. No condition. -/
import Derived.Test.YtchdacbjiomplaaTData
import Derived.Test.YtchdacbjiomplaaFw
set_option linter.unusedVariables false
set_option linter.unusedSimpArgs false
namespace Go.Proofs.Ytchdacbjiomplaa
open Go Go.Proofs.Ytchdacbjiomplaa.Fw Go.Proofs
theorem cells_35 : Try.prog.cellsOf 35 = 3 := by kernel_rfl
theorem bytes_35 : Try.prog.bytesOf 35 = 24 := by kernel_rfl
theorem eqK_35 : eqK Try.prog 20 35 = some [true, true, true] := by kernel_rfl
theorem opens_t27 : Opens Try.prog 27 (fun (a : List Place) (s : SlV) => [s.val a.length]) (fun (a : List Place) (s : SlV) => [RdL EPlace s a]) :=
  opens_slice EPlace enc_Place Try.underlying27 eqK_35 cells_35 rfl bytes_35
theorem cells_27 : Try.prog.cellsOf 27 = 1 := by kernel_rfl
theorem bytes_27 : Try.prog.bytesOf 27 = 24 := by kernel_rfl
theorem cells_29 : Try.prog.cellsOf 29 = 1 := by kernel_rfl
theorem bytes_29 : Try.prog.bytesOf 29 = 24 := by kernel_rfl
theorem opens_t29 : Opens Try.prog 29 (fun (a : List Place) (s : SlV) => [s.val a.length]) (fun (a : List Place) (s : SlV) => [RdL EPlace s a]) :=
  (opens_struct Try.underlying29 cells_29 (opensF_cons opens_t27 rfl rfl cells_27 opensF_nil)).map (fun (a : List Place) (s : SlV) => [s.val a.length]) (fun (a : List Place) (s : SlV) => [RdL EPlace s a]) (fun a => a.1) (fun s => s.1) (fun _ _ => rfl) (fun _ _ => rfl)
theorem cells_33 : Try.prog.cellsOf 33 = 7 := by kernel_rfl
theorem bytes_33 : Try.prog.bytesOf 33 = 56 := by kernel_rfl
theorem eqK_33 : eqK Try.prog 20 33 = some [true, true, true, true, true, true, true] := by kernel_rfl
theorem opens_t33 : Opens Try.prog 33 (fun (a : Op) (s : Unit) => [.int .i64 a.time, .int .i64 a.who, .int .i64 a.node, .int .i64 a.parent, .int .i64 a.name, .int .i64 a.life, .int .i64 a.seq]) (fun (a : Op) (s : Unit) => []) :=
  opens_flat EOp enc_Op eqK_33 cells_33
theorem cells_37 : Try.prog.cellsOf 37 = 11 := by kernel_rfl
theorem bytes_37 : Try.prog.bytesOf 37 = 88 := by kernel_rfl
theorem eqK_37 : eqK Try.prog 20 37 = some [true, true, true, true, true, true, true, false, true, true, true] := by kernel_rfl
theorem opens_t37 : Opens Try.prog 37 (fun (a : Step) (s : Unit) => [.int .i64 a.o.time, .int .i64 a.o.who, .int .i64 a.o.node, .int .i64 a.o.parent, .int .i64 a.o.name, .int .i64 a.o.life, .int .i64 a.o.seq, .bool a.did, .int .i64 a.was.node, .int .i64 a.was.parent, .int .i64 a.was.name]) (fun (a : Step) (s : Unit) => []) :=
  opens_flat EStep enc_Step eqK_37 cells_37
theorem cells_3 : Try.prog.cellsOf 3 = 1 := by kernel_rfl
theorem bytes_3 : Try.prog.bytesOf 3 = 8 := by kernel_rfl
theorem opens_t24 : Opens Try.prog 24 (fun (a : List Int) (s : SlV) => [s.val a.length]) (fun (a : List Int) (s : SlV) => [RdL EInt s a]) :=
  opens_intslice EInt (fun _ => rfl) rfl Try.underlying24 Try.underlying3 cells_3 bytes_3
theorem opens_t3 : Opens Try.prog 3 (fun (a : Int) (s : Unit) => [.int .i64 a]) (fun (a : Int) (s : Unit) => []) :=
  opens_int Try.underlying3
theorem cells_24 : Try.prog.cellsOf 24 = 1 := by kernel_rfl
theorem bytes_24 : Try.prog.bytesOf 24 = 24 := by kernel_rfl
theorem cells_51 : Try.prog.cellsOf 51 = 3 := by kernel_rfl
theorem bytes_51 : Try.prog.bytesOf 51 = 72 := by kernel_rfl
theorem opens_t51 : Opens Try.prog 51 (fun (a : View) (s : SlV × SlV × SlV) => [s.1.val a.roots.length, s.2.1.val a.known.length, s.2.2.val a.way.length]) (fun (a : View) (s : SlV × SlV × SlV) => [RdL EInt s.1 a.roots, RdL EPlace s.2.1 a.known, RdL EPlace s.2.2 a.way]) :=
  (opens_struct Try.underlying51 cells_51 (opensF_cons opens_t24 rfl rfl cells_24 (opensF_cons opens_t27 rfl rfl cells_27 (opensF_cons opens_t27 rfl rfl cells_27 opensF_nil)))).map (fun (a : View) (s : SlV × SlV × SlV) => [s.1.val a.roots.length, s.2.1.val a.known.length, s.2.2.val a.way.length]) (fun (a : View) (s : SlV × SlV × SlV) => [RdL EInt s.1 a.roots, RdL EPlace s.2.1 a.known, RdL EPlace s.2.2 a.way]) (fun a => (⟨a.1, a.2.1, a.2.2.1⟩ : View)) (fun s => (s.1, s.2.1, s.2.2.1)) (fun _ _ => rfl) (fun _ _ => rfl)
theorem cells_70 : Try.prog.cellsOf 70 = 4 := by kernel_rfl
theorem bytes_70 : Try.prog.bytesOf 70 = 96 := by kernel_rfl
theorem opens_t70 : Opens Try.prog 70 (fun (a : Delta) (s : SlV × SlV × SlV × SlV) => [s.1.val a.gone.length, s.2.1.val a.here.length, s.2.2.1.val a.wayGone.length, s.2.2.2.val a.wayHere.length]) (fun (a : Delta) (s : SlV × SlV × SlV × SlV) => [RdL EInt s.1 a.gone, RdL EPlace s.2.1 a.here, RdL EInt s.2.2.1 a.wayGone, RdL EPlace s.2.2.2 a.wayHere]) :=
  (opens_struct Try.underlying70 cells_70 (opensF_cons opens_t24 rfl rfl cells_24 (opensF_cons opens_t27 rfl rfl cells_27 (opensF_cons opens_t24 rfl rfl cells_24 (opensF_cons opens_t27 rfl rfl cells_27 opensF_nil))))).map (fun (a : Delta) (s : SlV × SlV × SlV × SlV) => [s.1.val a.gone.length, s.2.1.val a.here.length, s.2.2.1.val a.wayGone.length, s.2.2.2.val a.wayHere.length]) (fun (a : Delta) (s : SlV × SlV × SlV × SlV) => [RdL EInt s.1 a.gone, RdL EPlace s.2.1 a.here, RdL EInt s.2.2.1 a.wayGone, RdL EPlace s.2.2.2 a.wayHere]) (fun a => (⟨a.1, a.2.1, a.2.2.1, a.2.2.2.1⟩ : Delta)) (fun s => (s.1, s.2.1, s.2.2.1, s.2.2.2.1)) (fun _ _ => rfl) (fun _ _ => rfl)
theorem opens_t4 : Opens Try.prog 4 (fun (a : Bool) (s : Unit) => [.bool a]) (fun (a : Bool) (s : Unit) => []) :=
  opens_bool Try.underlying4
theorem opens_t91 : Opens Try.prog 91 (fun (a : List Op) (s : SlV) => [s.val a.length]) (fun (a : List Op) (s : SlV) => [RdL EOp s a]) :=
  opens_slice EOp enc_Op Try.underlying91 eqK_33 cells_33 rfl bytes_33
theorem opens_t92 : Opens Try.prog 92 (fun (a : List Step) (s : SlV) => [s.val a.length]) (fun (a : List Step) (s : SlV) => [RdL EStep s a]) :=
  opens_slice EStep enc_Step Try.underlying92 eqK_37 cells_37 rfl bytes_37
theorem cells_92 : Try.prog.cellsOf 92 = 1 := by kernel_rfl
theorem bytes_92 : Try.prog.bytesOf 92 = 24 := by kernel_rfl
theorem cells_94 : Try.prog.cellsOf 94 = 2 := by kernel_rfl
theorem bytes_94 : Try.prog.bytesOf 94 = 48 := by kernel_rfl
theorem opens_t94 : Opens Try.prog 94 (fun (a : History) (s : SlV × SlV) => [s.1.val a.l.length, s.2.val a.t.length]) (fun (a : History) (s : SlV × SlV) => [RdL EStep s.1 a.l, RdL EPlace s.2 a.t]) :=
  (opens_struct Try.underlying94 cells_94 (opensF_cons opens_t92 rfl rfl cells_92 (opensF_cons opens_t29 rfl rfl cells_29 opensF_nil))).map (fun (a : History) (s : SlV × SlV) => [s.1.val a.l.length, s.2.val a.t.length]) (fun (a : History) (s : SlV × SlV) => [RdL EStep s.1 a.l, RdL EPlace s.2 a.t]) (fun a => (⟨a.1, a.2.1⟩ : History)) (fun s => (s.1, s.2.1)) (fun _ _ => rfl) (fun _ _ => rfl)
end Go.Proofs.Ytchdacbjiomplaa
