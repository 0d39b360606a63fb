/- Part of this claim. No condition. -/
import Derived.Test.YtchdacbjiomplaaTOpen2
import Derived.Test.YtchdacbjiomplaaFx
set_option linter.unusedVariables false
set_option linter.unusedSimpArgs false
namespace Go.Proofs.Ytchdacbjiomplaa
open Go Go.Proofs.Ytchdacbjiomplaa.Fw Go.Proofs
theorem opens_t78 : Opens Try.prog 78 (fun (a : List Mail) (s : SlV) => [s.val a.length]) (fun (a : List Mail) (s : SlV) => [RdN NMail s a]) :=
  opens_nslice NMail Try.underlying78 opens_t80 cells_80 rfl bytes_80
theorem cells_144 : Try.prog.cellsOf 144 = 3 := by kernel_rfl
theorem bytes_144 : Try.prog.bytesOf 144 = 40 := by kernel_rfl
theorem opens_t144 : Opens Try.prog 144 (fun (a : Peer) (s : SlV) => [.int .i64 a.life, .int .i64 a.seq, s.val a.roots.length]) (fun (a : Peer) (s : SlV) => [RdL EInt s a.roots]) :=
  (opens_struct Try.underlying144 cells_144 (opensF_cons opens_t3 rfl rfl cells_3 (opensF_cons opens_t3 rfl rfl cells_3 (opensF_cons opens_t24 rfl rfl cells_24 opensF_nil)))).map (fun (a : Peer) (s : SlV) => [.int .i64 a.life, .int .i64 a.seq, s.val a.roots.length]) (fun (a : Peer) (s : SlV) => [RdL EInt s a.roots]) (fun a => (⟨a.1, a.2.1, a.2.2.1⟩ : Peer)) (fun s => s.2.2.1) (fun _ _ => rfl) (fun _ _ => rfl)
theorem opens_t129 : Opens Try.prog 129 (fun (a : List Peer) (s : SlV) => [s.val a.length]) (fun (a : List Peer) (s : SlV) => [RdN NPeer s a]) :=
  opens_nslice NPeer Try.underlying129 opens_t144 cells_144 rfl bytes_144
theorem cells_129 : Try.prog.cellsOf 129 = 1 := by kernel_rfl
theorem bytes_129 : Try.prog.bytesOf 129 = 24 := by kernel_rfl
theorem cells_131 : Try.prog.cellsOf 131 = 4 := by kernel_rfl
theorem bytes_131 : Try.prog.bytesOf 131 = 80 := by kernel_rfl
theorem opens_t131 : Opens Try.prog 131 (fun (a : Hub) (s : SlV × SlV × SlV) => [s.1.val a.h.l.length, s.2.1.val a.h.t.length, .int .i64 a.version, s.2.2.val a.peers.length]) (fun (a : Hub) (s : SlV × SlV × SlV) => [RdL EStep s.1 a.h.l, RdL EPlace s.2.1 a.h.t, RdN NPeer s.2.2 a.peers]) :=
  (opens_struct Try.underlying131 cells_131 (opensF_cons opens_t94 rfl rfl cells_94 (opensF_cons opens_t3 rfl rfl cells_3 (opensF_cons opens_t129 rfl rfl cells_129 opensF_nil)))).map (fun (a : Hub) (s : SlV × SlV × SlV) => [s.1.val a.h.l.length, s.2.1.val a.h.t.length, .int .i64 a.version, s.2.2.val a.peers.length]) (fun (a : Hub) (s : SlV × SlV × SlV) => [RdL EStep s.1 a.h.l, RdL EPlace s.2.1 a.h.t, RdN NPeer s.2.2 a.peers]) (fun a => (⟨a.1, a.2.1, a.2.2.1⟩ : Hub)) (fun s => (s.1.1, s.1.2, s.2.2.1)) (fun _ _ => rfl) (fun _ _ => rfl)
theorem cells_136 : Try.prog.cellsOf 136 = 11 := by kernel_rfl
theorem bytes_136 : Try.prog.bytesOf 136 = 104 := by kernel_rfl
theorem opens_t136 : Opens Try.prog 136 (fun (a : Rec) (s : SlV) => [.int .i64 a.kind, .int .i64 a.who, .int .i64 a.life, s.val a.roots.length, .int .i64 a.o.time, .int .i64 a.o.who, .int .i64 a.o.node, .int .i64 a.o.parent, .int .i64 a.o.name, .int .i64 a.o.life, .int .i64 a.o.seq]) (fun (a : Rec) (s : SlV) => [RdL EInt s a.roots]) :=
  (opens_struct Try.underlying136 cells_136 (opensF_cons opens_t3 rfl rfl cells_3 (opensF_cons opens_t3 rfl rfl cells_3 (opensF_cons opens_t3 rfl rfl cells_3 (opensF_cons opens_t24 rfl rfl cells_24 (opensF_cons opens_t33 rfl rfl cells_33 opensF_nil)))))).map (fun (a : Rec) (s : SlV) => [.int .i64 a.kind, .int .i64 a.who, .int .i64 a.life, s.val a.roots.length, .int .i64 a.o.time, .int .i64 a.o.who, .int .i64 a.o.node, .int .i64 a.o.parent, .int .i64 a.o.name, .int .i64 a.o.life, .int .i64 a.o.seq]) (fun (a : Rec) (s : SlV) => [RdL EInt s a.roots]) (fun a => (⟨a.1, a.2.1, a.2.2.1, a.2.2.2.1, a.2.2.2.2.1⟩ : Rec)) (fun s => s.2.2.2.1) (fun _ _ => rfl) (fun _ _ => rfl)
theorem opens_t128 : Opens Try.prog 128 (fun (a : List Rec) (s : SlV) => [s.val a.length]) (fun (a : List Rec) (s : SlV) => [RdN NRec s a]) :=
  opens_nslice NRec Try.underlying128 opens_t136 cells_136 rfl bytes_136
end Go.Proofs.Ytchdacbjiomplaa
