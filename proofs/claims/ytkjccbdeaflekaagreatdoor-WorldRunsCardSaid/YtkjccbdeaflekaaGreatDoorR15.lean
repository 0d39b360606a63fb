/- Part of this claim. No condition. -/
import Derived.Test.YtkjccbdeaflekaaGreatDoorR14
import Derived.Test.YtkjccbdeaflekaaGreatDoorR2
import Derived.Test.YtkjccbdeaflekaaGreatDoorR9
set_option linter.unusedVariables false
set_option linter.unusedSimpArgs false
namespace Go.Proofs.YtkjccbdeaflekaaGreatDoor
open Go Go.Proofs.YtkjccbdeaflekaaGreatDoor.Fw Go.Proofs
section
variable {P : Program}
variable {α : Type} {t : TypeId}
theorem Ol (E : El α) {ks : List Bool} {e : TypeId} (hE : Encs ks E.enc) (ht : P.underlying t = some (.slice e)) (he : eqK P 20 e = some ks := by kernel_rfl) (hc : P.cellsOf e = ks.length := by kernel_rfl) (hpos : Nat.blt 0 ks.length = true := by rfl) (hby : P.bytesOf e = E.by_ := by kernel_rfl) : Opens P t (fun (l : List α) (X : SlV) => [X.val l.length]) (fun l X => [RdL E X l]) := s8 E hE ht he hc hpos hby
variable {off : Nat}
theorem On : sf P [] off 0 (fun (_ : Unit) (_ : Unit) => []) (fun _ _ => []) := zi
variable {A B β : Type} {tot : Nat}
theorem Oc {f : Field} {fs : List Field} {c1 : α → A → List Value} {f1 : α → A → List Pred} {c2 : β → B → List Value} {f2 : β → B → List Pred} (h : Opens P t c1 f1) (hr : sf P fs (off + P.cellsOf t) tot c2 f2) (ht : f.type = t := by rfl) (ho : f.offset = off := by kernel_rfl) : sf P (f :: fs) off (P.cellsOf t + tot) (fun (a : α × β) (s : A × B) => c1 a.1 s.1 ++ c2 a.2 s.2) (fun a s => f1 a.1 s.1 ++ f2 a.2 s.2) := xp h ht ho rfl hr
variable {c : α → A → List Value} {f : α → A → List Pred}
theorem Ou {t : Nat} {fs : Array Field} (hu : P.underlying t = some (.struct fs)) (hF : sf P fs.toList 0 tot c f) (hc : P.cellsOf t = tot := by kernel_rfl) : Opens P t c f := wh hu hc hF
theorem Om (h : Opens P t c f) {c' : β → B → List Value} {f' : β → B → List Pred} (g : α → β) (k : A → B) (hc : ∀ a s, c a s = c' (g a) (k s) := by exact fun _ _ => rfl) (hf : ∀ a s, f a s = f' (g a) (k s) := by exact fun _ _ => rfl) : Opens P t c' f' := h.map c' f' g k hc hf
end
theorem Ar : Opens Tryz.prog 22 (fun (a : List Step) (s : SlV) => [s.val a.length]) (fun (a : List Step) (s : SlV) => [RdL EStep s a]) :=
 Ol EStep BX Tryz.underlying22
theorem oP : Opens Tryz.prog 23 (fun (a : List Place) (s : SlV) => [s.val a.length]) (fun (a : List Place) (s : SlV) => [RdL EPlace s a]) :=
 Ol EPlace AP Tryz.underlying23
theorem Ao : Opens Tryz.prog 25 (fun (a : List Place) (s : SlV) => [s.val a.length]) (fun (a : List Place) (s : SlV) => [RdL EPlace s a]) :=
 Om (Ou Tryz.underlying25 (Oc oP On)) (fun a => a.1) (fun s => s.1)
theorem Am : Opens Tryz.prog 27 (fun (a : History) (s : SlV × SlV) => [s.1.val a.l.length, s.2.val a.t.length]) (fun (a : History) (s : SlV × SlV) => [RdL EStep s.1 a.l, RdL EPlace s.2 a.t]) :=
 Om (Ou Tryz.underlying27 (Oc Ar (Oc Ao On))) (fun a => (⟨a.1, a.2.1⟩ : History)) (fun s => (s.1, s.2.1))
theorem f0 : Opens Tryz.prog 3 (fun (a : Int) (s : Unit) => [.int .i64 a]) (fun (a : Int) (s : Unit) => []) :=
 Au Tryz.underlying3
theorem oO : Opens Tryz.prog 46 (fun (a : List Int) (s : SlV) => [s.val a.length]) (fun (a : List Int) (s : SlV) => [RdL EInt s a]) :=
 ub EInt (fun _ => rfl) rfl Tryz.underlying46 Tryz.underlying3 Kr Kr
theorem Ac : Opens Tryz.prog 84 (fun (a : Peer) (s : SlV) => [.int .i64 a.life, .int .i64 a.seq, s.val a.roots.length]) (fun (a : Peer) (s : SlV) => [RdL EInt s a.roots]) :=
 Om (Ou Tryz.underlying84 (Oc f0 (Oc f0 (Oc oO On)))) (fun a => (⟨a.1, a.2.1, a.2.2.1⟩ : Peer)) (fun s => s.2.2.1)
theorem Al : Opens Tryz.prog 28 (fun (a : List Peer) (s : SlV) => [s.val a.length]) (fun (a : List Peer) (s : SlV) => [RdN NPeer s a]) :=
 l3 NPeer Tryz.underlying28 Ac Kr rfl Kr
theorem Ak : Opens Tryz.prog 30 (fun (a : Hub) (s : SlV × SlV × SlV) => [s.1.val a.h.l.length, s.2.1.val a.h.t.length, .int .i64 a.version, s.2.2.val a.peers.length]) (fun (a : Hub) (s : SlV × SlV × SlV) => [RdL EStep s.1 a.h.l, RdL EPlace s.2.1 a.h.t, RdN NPeer s.2.2 a.peers]) :=
 Om (Ou Tryz.underlying30 (Oc Am (Oc f0 (Oc Al On)))) (fun a => (⟨a.1, a.2.1, a.2.2.1⟩ : Hub)) (fun s => (s.1.1, s.1.2, s.2.2.1))
theorem wg : Opens Tryz.prog 31 (fun (a : List UInt8) (s : SlV) => [s.val a.length]) (fun (a : List UInt8) (s : SlV) => [RdL EByte s a]) :=
 xo Tryz.underlying31 Tryz.underlying5 Kr Kr
theorem Aj : Opens Tryz.prog 33 (fun (a : Disk) (s : SlV × SlV) => [s.1.val a.safe.length, s.2.val a.wait.length]) (fun (a : Disk) (s : SlV × SlV) => [RdL EByte s.1 a.safe, RdL EByte s.2 a.wait]) :=
 Om (Ou Tryz.underlying33 (Oc wg (Oc wg On))) (fun a => (⟨a.1, a.2.1⟩ : Disk)) (fun s => (s.1, s.2.1))
theorem BN : Opens Tryz.prog 4 (fun (a : Bool) (s : Unit) => [.bool a]) (fun (a : Bool) (s : Unit) => []) :=
 zh Tryz.underlying4
theorem Af : Opens Tryz.prog 59 (fun (a : List Op) (s : SlV) => [s.val a.length]) (fun (a : List Op) (s : SlV) => [RdL EOp s a]) :=
 Ol EOp CM Tryz.underlying59
theorem wd : Opens Tryz.prog 61 (fun (a : View) (s : SlV × SlV × SlV) => [s.1.val a.roots.length, s.2.1.val a.known.length, s.2.2.val a.way.length]) (fun (a : View) (s : SlV × SlV × SlV) => [RdL EInt s.1 a.roots, RdL EPlace s.2.1 a.known, RdL EPlace s.2.2 a.way]) :=
 Om (Ou Tryz.underlying61 (Oc oO (Oc oP (Oc oP On)))) (fun a => (⟨a.1, a.2.1, a.2.2.1⟩ : View)) (fun s => (s.1, s.2.1, s.2.2.1))
theorem Ae : Opens Tryz.prog 63 (fun (a : Client) (s : SlV × SlV × SlV × SlV) => [.int .i64 a.life, .int .i64 a.time, .int .i64 a.seq, s.1.val a.pending.length, .int .i64 a.version, s.2.1.val a.v.roots.length, s.2.2.1.val a.v.known.length, s.2.2.2.val a.v.way.length]) (fun (a : Client) (s : SlV × SlV × SlV × SlV) => [RdL EOp s.1 a.pending, RdL EInt s.2.1 a.v.roots, RdL EPlace s.2.2.1 a.v.known, RdL EPlace s.2.2.2 a.v.way]) :=
 Om (Ou Tryz.underlying63 (Oc f0 (Oc f0 (Oc f0 (Oc Af (Oc f0 (Oc wd On))))))) (fun a => (⟨a.1, a.2.1, a.2.2.1, a.2.2.2.1, a.2.2.2.2.1, a.2.2.2.2.2.1⟩ : Client)) (fun s => (s.2.2.2.1, s.2.2.2.2.2.1.1, s.2.2.2.2.2.1.2.1, s.2.2.2.2.2.1.2.2))
theorem Ai : Opens Tryz.prog 34 (fun (a : List Client) (s : SlV) => [s.val a.length]) (fun (a : List Client) (s : SlV) => [RdN NClient s a]) :=
 l3 NClient Tryz.underlying34 Ae Kr rfl Kr
theorem Ad : Opens Tryz.prog 76 (fun (a : Op) (s : Unit) => [.int .i64 a.time, .int .i64 a.who, .int .i64 a.node, .int .i64 a.parent, .int .i64 a.name, .int .i64 a.life, .int .i64 a.seq]) (fun (a : Op) (s : Unit) => []) :=
 zg EOp CM Kr Kr
theorem zf : Opens Tryz.prog 106 (fun (a : Delta) (s : SlV × SlV × SlV × SlV) => [s.1.val a.gone.length, s.2.1.val a.here.length, s.2.2.1.val a.wayGone.length, s.2.2.2.val a.wayHere.length]) (fun (a : Delta) (s : SlV × SlV × SlV × SlV) => [RdL EInt s.1 a.gone, RdL EPlace s.2.1 a.here, RdL EInt s.2.2.1 a.wayGone, RdL EPlace s.2.2.2 a.wayHere]) :=
 Om (Ou Tryz.underlying106 (Oc oO (Oc oP (Oc oO (Oc oP On))))) (fun a => (⟨a.1, a.2.1, a.2.2.1, a.2.2.2.1⟩ : Delta)) (fun s => (s.1, s.2.1, s.2.2.1, s.2.2.2.1))
theorem ze : Opens Tryz.prog 108 (fun (a : Mail) (s : SlV × SlV × SlV × SlV × SlV × SlV × SlV) => [.int .i64 a.kind, .int .i64 a.who, .int .i64 a.life, .int .i64 a.seq, .int .i64 a.time, .int .i64 a.version, .int .i64 a.frm, .int .i64 a.o.time, .int .i64 a.o.who, .int .i64 a.o.node, .int .i64 a.o.parent, .int .i64 a.o.name, .int .i64 a.o.life, .int .i64 a.o.seq, s.1.val a.v.roots.length, s.2.1.val a.v.known.length, s.2.2.1.val a.v.way.length, s.2.2.2.1.val a.d.gone.length, s.2.2.2.2.1.val a.d.here.length, s.2.2.2.2.2.1.val a.d.wayGone.length, s.2.2.2.2.2.2.val a.d.wayHere.length]) (fun (a : Mail) (s : SlV × SlV × SlV × SlV × SlV × SlV × SlV) => [RdL EInt s.1 a.v.roots, RdL EPlace s.2.1 a.v.known, RdL EPlace s.2.2.1 a.v.way, RdL EInt s.2.2.2.1 a.d.gone, RdL EPlace s.2.2.2.2.1 a.d.here, RdL EInt s.2.2.2.2.2.1 a.d.wayGone, RdL EPlace s.2.2.2.2.2.2 a.d.wayHere]) :=
 Om (Ou Tryz.underlying108 (Oc f0 (Oc f0 (Oc f0 (Oc f0 (Oc f0 (Oc f0 (Oc f0 (Oc Ad (Oc wd (Oc zf On))))))))))) (fun a => (⟨a.1, a.2.1, a.2.2.1, a.2.2.2.1, a.2.2.2.2.1, a.2.2.2.2.2.1, a.2.2.2.2.2.2.1, a.2.2.2.2.2.2.2.1, a.2.2.2.2.2.2.2.2.1, a.2.2.2.2.2.2.2.2.2.1⟩ : Mail)) (fun s => (s.2.2.2.2.2.2.2.2.1.1, s.2.2.2.2.2.2.2.2.1.2.1, s.2.2.2.2.2.2.2.2.1.2.2, s.2.2.2.2.2.2.2.2.2.1.1, s.2.2.2.2.2.2.2.2.2.1.2.1, s.2.2.2.2.2.2.2.2.2.1.2.2.1, s.2.2.2.2.2.2.2.2.2.1.2.2.2))
theorem Ah : Opens Tryz.prog 35 (fun (a : List Mail) (s : SlV) => [s.val a.length]) (fun (a : List Mail) (s : SlV) => [RdN NMail s a]) :=
 l3 NMail Tryz.underlying35 ze Kr rfl Kr
theorem opens_t37 : Opens Tryz.prog 37 (fun (a : Wld) (s : SlV × SlV × SlV × SlV × SlV × SlV × SlV) => [s.1.val a.h.h.l.length, s.2.1.val a.h.h.t.length, .int .i64 a.h.version, s.2.2.1.val a.h.peers.length, s.2.2.2.1.val a.d.safe.length, s.2.2.2.2.1.val a.d.wait.length, .bool a.up, s.2.2.2.2.2.1.val a.c.length, s.2.2.2.2.2.2.val a.mail.length]) (fun (a : Wld) (s : SlV × SlV × SlV × SlV × SlV × SlV × SlV) => [RdL EStep s.1 a.h.h.l, RdL EPlace s.2.1 a.h.h.t, RdN NPeer s.2.2.1 a.h.peers, RdL EByte s.2.2.2.1 a.d.safe, RdL EByte s.2.2.2.2.1 a.d.wait, RdN NClient s.2.2.2.2.2.1 a.c, RdN NMail s.2.2.2.2.2.2 a.mail]) :=
 Om (Ou Tryz.underlying37 (Oc Ak (Oc Aj (Oc BN (Oc Ai (Oc Ah On)))))) (fun a => (⟨a.1, a.2.1, a.2.2.1, a.2.2.2.1, a.2.2.2.2.1⟩ : Wld)) (fun s => (s.1.1, s.1.2.1, s.1.2.2, s.2.1.1, s.2.1.2, s.2.2.2.1, s.2.2.2.2.1))
theorem Ag : Opens Tryz.prog 48 (fun (a : Happening) (s : SlV) => [.int .i64 a.kind, .int .i64 a.who, .int .i64 a.n, .int .i64 a.node, .int .i64 a.parent, .int .i64 a.name, s.val a.roots.length]) (fun (a : Happening) (s : SlV) => [RdL EInt s a.roots]) :=
 Om (Ou Tryz.underlying48 (Oc f0 (Oc f0 (Oc f0 (Oc f0 (Oc f0 (Oc f0 (Oc oO On)))))))) (fun a => (⟨a.1, a.2.1, a.2.2.1, a.2.2.2.1, a.2.2.2.2.1, a.2.2.2.2.2.1, a.2.2.2.2.2.2.1⟩ : Happening)) (fun s => s.2.2.2.2.2.2.1)
theorem opens_t38 : Opens Tryz.prog 38 (fun (a : List Happening) (s : SlV) => [s.val a.length]) (fun (a : List Happening) (s : SlV) => [RdN NHap s a]) :=
 l3 NHap Tryz.underlying38 Ag Kr rfl Kr
end Go.Proofs.YtkjccbdeaflekaaGreatDoor
