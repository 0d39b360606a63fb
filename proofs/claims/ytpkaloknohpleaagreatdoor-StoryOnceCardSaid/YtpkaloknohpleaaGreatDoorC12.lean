/- Part of this claim. No condition. -/
import Derived.Test.YtpkaloknohpleaaGreatDoorC11
import Derived.Test.YtpkaloknohpleaaGreatDoorC5
import Derived.Test.YtpkaloknohpleaaGreatDoorC9
import Derived.Test.YtpkaloknohpleaaGreatDoorC4
set_option linter.unusedVariables false
set_option linter.unusedSimpArgs false
set_option maxHeartbeats 2000000
namespace Go.Proofs.YtpkaloknohpleaaGreatDoor
open Go Go.Proofs.YtpkaloknohpleaaGreatDoor.Fw Go.Proofs
attribute [local irreducible] RdL RdN VarP LibP RW CW
def ce (w1 : Wld) (m1 : Mail) : Wld :=
 (bif ((dZ w1.mail m1).2 == 0) then (⟨w1.h, w1.d, w1.up, w1.c, (dZ w1.mail m1).1⟩ : Wld) else w1)
theorem f7 (c1 : Nat) (y1 : SlV) (y2 : SlV) (y3 : SlV) (y4 : SlV) (y5 : SlV) (y6 : SlV) (y6b : Option Nat) (γ1 : Nat → SlV × SlV × SlV × SlV) (y7 : SlV) (w1 : Wld) (y8 : SlV) (y9 : SlV) (y10 : SlV) (y11 : SlV) (y12 : SlV) (y13 : SlV) (y14 : SlV) (m1 : Mail) : DoesG Tryz.prog 92 [.pointer (some ⟨c1, 0, none⟩), .agg ⟨[.int .i64 m1.kind, .int .i64 m1.who, .int .i64 m1.life, .int .i64 m1.seq, .int .i64 m1.time, .int .i64 m1.version, .int .i64 m1.frm, .int .i64 m1.o.time, .int .i64 m1.o.who, .int .i64 m1.o.node, .int .i64 m1.o.parent, .int .i64 m1.o.name, .int .i64 m1.o.life, .int .i64 m1.o.seq, y8.val m1.v.roots.length, y9.val m1.v.known.length, y10.val m1.v.way.length, y11.val m1.d.gone.length, y12.val m1.d.here.length, y13.val m1.d.wayGone.length, y14.val m1.d.wayHere.length]⟩] [RdL EStep y1 w1.h.h.l, RdL EPlace y2 w1.h.h.t, RdN NPeer y3 w1.h.peers, RdL EByte y4 w1.d.safe, RdL EByte y5 w1.d.wait, am NClient γ1 w1.c, RdN NMail y7 w1.mail, RdL EInt y8 m1.v.roots, RdL EPlace y9 m1.v.known, RdL EPlace y10 m1.v.way, RdL EInt y11 m1.d.gone, RdL EPlace y12 m1.d.here, RdL EInt y13 m1.d.wayGone, RdL EPlace y14 m1.d.wayHere, LibP Tryz.prog] ⟨[⟨c1, 39, [y1.val w1.h.h.l.length, y2.val w1.h.h.t.length, .int .i64 w1.h.version, y3.val w1.h.peers.length, y4.val w1.d.safe.length, y5.val w1.d.wait.length, .bool w1.up, y6.val w1.c.length, y7.val w1.mail.length]⟩], [ownL NClient.E 61 y6 y6b (zipG γ1 0 w1.c)]⟩ (fun (X : SlV × SlV × SlV × SlV × SlV × SlV × Option Nat × (Nat → SlV × SlV × SlV × SlV) × SlV) => .tuple #[]) (fun X => [RdL EStep X.1 (ce w1 m1).h.h.l, RdL EPlace X.2.1 (ce w1 m1).h.h.t, RdN NPeer X.2.2.1 (ce w1 m1).h.peers, RdL EByte X.2.2.2.1 (ce w1 m1).d.safe, RdL EByte X.2.2.2.2.1 (ce w1 m1).d.wait, am NClient X.2.2.2.2.2.2.2.1 (ce w1 m1).c, RdN NMail X.2.2.2.2.2.2.2.2 (ce w1 m1).mail]) (fun X => ⟨[⟨c1, 39, [X.1.val (ce w1 m1).h.h.l.length, X.2.1.val (ce w1 m1).h.h.t.length, .int .i64 (ce w1 m1).h.version, X.2.2.1.val (ce w1 m1).h.peers.length, X.2.2.2.1.val (ce w1 m1).d.safe.length, X.2.2.2.2.1.val (ce w1 m1).d.wait.length, .bool (ce w1 m1).up, X.2.2.2.2.2.1.val (ce w1 m1).c.length, X.2.2.2.2.2.2.2.2.val (ce w1 m1).mail.length]⟩], [ownL NClient.E 61 X.2.2.2.2.2.1 X.2.2.2.2.2.2.1 (zipG X.2.2.2.2.2.2.2.1 0 (ce w1 m1).c)]⟩) := by
 refine co aZ Tryz.func92 rfl Tryz.ntmps92 Tryz.results92 rfl inferInstance (fun _ => inferInstance) fun C => ?_
 refine Pc EInt y8 m1.v.roots 8 fun hlen1 => ?_
 refine Pc EPlace y9 m1.v.known 24 fun hlen2 => ?_
 refine Pc EPlace y10 m1.v.way 24 fun hlen3 => ?_
 refine Pc EInt y11 m1.d.gone 8 fun hlen4 => ?_
 refine Pc EPlace y12 m1.d.here 24 fun hlen5 => ?_
 refine Pc EInt y13 m1.d.wayGone 8 fun hlen6 => ?_
 refine Pc EPlace y14 m1.d.wayHere 24 fun hlen7 => ?_
 refine Tx ?_
 refine Bx fun g1 => ?_
 refine dY ?_
 (repeat refine ao ?_); refine au (fun _ => some []) ?_
 refine Rb 0 rfl Qp ?_
 refine Rb 1 rfl Qp ?_
 refine Rb 2 rfl Qp ?_
 refine Rb 3 rfl Q1 ?_
 refine Rb 4 rfl (q_ldA rfl rfl Zf rfl Mm rfl) ?_
 refine ap 5 Kr ?_
 refine cJ (pb y7 w1.mail y8 y9 y10 y11 y12 y13 y14 m1) (.an rfl rfl) (ac rfl) rfl rfl rfl Kr rfl rfl Sm ?_
 intro x1
 refine Ra 6 rfl Qp ?_
 refine Ra 7 rfl Qp ?_
 refine Ra 8 rfl Qp ?_
 refine Ra 9 rfl Qp ?_
 refine Ra 10 rfl Qp ?_
 refine bn Kr ?_
 refine Tx ?_
 refine Cd (b := ((dZ w1.mail m1).2 == 0)) (fun hc1 => ?_) fun hc1 => ?_
 ·have hc1p := eq_of_beq hc1
  refine Tx ?_
  have hr1 : (ce w1 m1) = (⟨w1.h, w1.d, w1.up, w1.c, (dZ w1.mail m1).1⟩ : Wld) := by simp only [ce, hc1, Cf]
  rw [hr1]
  exact ⟨⟨y1, y2, y3, y4, y5, y6, y6b, γ1, x1⟩, _, .nil, rfl, Sm, Sp, Sp⟩
 ·have hc1p := ne_of_beq_false hc1
  refine Tx ?_
  have hr2 : (ce w1 m1) = w1 := by simp only [ce, hc1, Cf]
  rw [hr2]
  exact ⟨⟨y1, y2, y3, y4, y5, y6, y6b, γ1, y7⟩, _, .nil, rfl, Sm, Sp, Sp⟩
def d7 (h1 : Hub) : Int :=
 (bif decide ((h1.h.l.length : Int) > 0) then (gt h1.h.l (h1.h.l.length - 1)).o.time else 0)
theorem j4 (y1 : SlV) (y2 : SlV) (y3 : SlV) (h1 : Hub) : Does Tryz.prog 114 [.agg ⟨[y1.val h1.h.l.length, y2.val h1.h.t.length, .int .i64 h1.version, y3.val h1.peers.length]⟩] [RdL EStep y1 h1.h.l, RdL EPlace y2 h1.h.t, RdN NPeer y3 h1.peers] (fun (_ : Unit) => .int .i64 (d7 h1)) (fun _ => []) := by
 refine bj aZ Tryz.func114 rfl Tryz.ntmps114 Tryz.results114 rfl inferInstance (fun _ => inferInstance) fun C => ?_
 refine Pc EStep y1 h1.h.l 88 fun hlen1 => ?_
 refine Pc EPlace y2 h1.h.t 24 fun hlen2 => ?_
 refine Pn NPeer y3 h1.peers 40 fun hlen3 => ?_
 refine Tx ?_
 refine Bx fun g1 => ?_
 refine Tx ?_
 refine Cd (b := decide ((h1.h.l.length : Int) > 0)) (fun hc1 => ?_) fun hc1 => ?_
 ·have hc1p := of_decide_eq_true hc1
  refine Tx ?_
  refine rw_q rfl rfl rfl (q_sub rfl rfl Zf rfl Zf Zo) ?_
  refine rw_q rfl rfl rfl (q_idx EStep (h1.h.l.length - 1) rfl rfl Zf rfl Zf rfl rfl rfl Mm rfl Zo (fun _ => by first | assumption | omega)) ?_
  refine rw_q rfl rfl rfl (q_fae rfl rfl Zf rfl rfl) ?_
  refine rw_q rfl rfl rfl (q_fae rfl rfl Zf rfl rfl) ?_
  refine rw_q rfl rfl rfl (q_fae rfl rfl Zf rfl rfl) ?_
  refine rw_q rfl rfl rfl (q_le1 EStep rfl rfl Zf rfl rfl Mm (fun _ => by first | assumption | omega) rfl) ?_
  refine Tx ?_
  refine ai ?_; simp only [d7, hc1, Cf]; exact Re () (Vt Vn)
 ·have hc1p := of_decide_eq_false hc1
  refine Tx ?_
  refine ai ?_; simp only [d7, hc1, Cf]; exact Re () (Vt Vn)
def b4 (w1 : Wld) (x1 : Happening) : Int × Wld :=
 (bif ((bs w1.h x1.who).2 != 0) then ((bs w1.h x1.who).2, w1) else (bif ((gt w1.h.peers x1.who.toNat).life == 0) then (7, w1) else (bif (x1.kind == 4) then (bif (decide (x1.n < 0) || decide (x1.n ≥ w1.h.version)) then (3, w1) else (bif ((al w1.d).2.2 != 0) then ((al w1.d).2.2, w1) else (bif ((aq ((al w1.d).2.1.take x1.n.toNat)).2 != 0) then ((aq ((al w1.d).2.1.take x1.n.toNat)).2, w1) else (bif (((gt (aq ((al w1.d).2.1.take x1.n.toNat)).1.peers x1.who.toNat).life != (gt w1.h.peers x1.who.toNat).life) || (!(decide ((gt (aq ((al w1.d).2.1.take x1.n.toNat)).1.peers x1.who.toNat).roots = (gt w1.h.peers x1.who.toNat).roots)))) then (7, w1) else (bif ((bs (aq ((al w1.d).2.1.take x1.n.toNat)).1 x1.who).2 != 0) then ((bs (aq ((al w1.d).2.1.take x1.n.toNat)).1 x1.who).2, w1) else (bif ((cZ (bs (aq ((al w1.d).2.1.take x1.n.toNat)).1 x1.who).1 (bs w1.h x1.who).1).2 != 0) then ((cZ (bs (aq ((al w1.d).2.1.take x1.n.toNat)).1 x1.who).1 (bs w1.h x1.who).1).2, w1) else (0, (ce w1 (⟨3, x1.who, (gt w1.h.peers x1.who.toNat).life, (gt w1.h.peers x1.who.toNat).seq, (d7 w1.h), w1.h.version, x1.n, (⟨0, 0, 0, 0, 0, 0, 0⟩ : Op), (⟨[], [], []⟩ : View), (cZ (bs (aq ((al w1.d).2.1.take x1.n.toNat)).1 x1.who).1 (bs w1.h x1.who).1).1⟩ : Mail))))))))) else (0, (ce w1 (⟨2, x1.who, (gt w1.h.peers x1.who.toNat).life, (gt w1.h.peers x1.who.toNat).seq, (d7 w1.h), w1.h.version, 0, (⟨0, 0, 0, 0, 0, 0, 0⟩ : Op), (bs w1.h x1.who).1, (⟨[], [], [], []⟩ : Delta)⟩ : Mail))))))
theorem ns (c1 : Nat) (y1 : SlV) (y2 : SlV) (y3 : SlV) (y4 : SlV) (y5 : SlV) (y6 : SlV) (y6b : Option Nat) (γ1 : Nat → SlV × SlV × SlV × SlV) (y7 : SlV) (w1 : Wld) (y8 : SlV) (x1 : Happening) (hv : w1.h.version ≤ ((al w1.d).2.1.length : Int)) : DoesG Tryz.prog 94 [.pointer (some ⟨c1, 0, none⟩), .agg ⟨[.int .i64 x1.kind, .int .i64 x1.who, .int .i64 x1.n, .int .i64 x1.node, .int .i64 x1.parent, .int .i64 x1.name, y8.val x1.roots.length]⟩] [RdL EStep y1 w1.h.h.l, RdL EPlace y2 w1.h.h.t, RdN NPeer y3 w1.h.peers, RdL EByte y4 w1.d.safe, RdL EByte y5 w1.d.wait, am NClient γ1 w1.c, RdN NMail y7 w1.mail, RdL EInt y8 x1.roots, LibP Tryz.prog] ⟨[⟨c1, 39, [y1.val w1.h.h.l.length, y2.val w1.h.h.t.length, .int .i64 w1.h.version, y3.val w1.h.peers.length, y4.val w1.d.safe.length, y5.val w1.d.wait.length, .bool w1.up, y6.val w1.c.length, y7.val w1.mail.length]⟩], [ownL NClient.E 61 y6 y6b (zipG γ1 0 w1.c)]⟩ (fun (X : SlV × SlV × SlV × SlV × SlV × SlV × Option Nat × (Nat → SlV × SlV × SlV × SlV) × SlV) => .int .i64 (b4 w1 x1).1) (fun X => [RdL EStep X.1 (b4 w1 x1).2.h.h.l, RdL EPlace X.2.1 (b4 w1 x1).2.h.h.t, RdN NPeer X.2.2.1 (b4 w1 x1).2.h.peers, RdL EByte X.2.2.2.1 (b4 w1 x1).2.d.safe, RdL EByte X.2.2.2.2.1 (b4 w1 x1).2.d.wait, am NClient X.2.2.2.2.2.2.2.1 (b4 w1 x1).2.c, RdN NMail X.2.2.2.2.2.2.2.2 (b4 w1 x1).2.mail]) (fun X => ⟨[⟨c1, 39, [X.1.val (b4 w1 x1).2.h.h.l.length, X.2.1.val (b4 w1 x1).2.h.h.t.length, .int .i64 (b4 w1 x1).2.h.version, X.2.2.1.val (b4 w1 x1).2.h.peers.length, X.2.2.2.1.val (b4 w1 x1).2.d.safe.length, X.2.2.2.2.1.val (b4 w1 x1).2.d.wait.length, .bool (b4 w1 x1).2.up, X.2.2.2.2.2.1.val (b4 w1 x1).2.c.length, X.2.2.2.2.2.2.2.2.val (b4 w1 x1).2.mail.length]⟩], [ownL NClient.E 61 X.2.2.2.2.2.1 X.2.2.2.2.2.2.1 (zipG X.2.2.2.2.2.2.2.1 0 (b4 w1 x1).2.c)]⟩) := by
 refine co aZ Tryz.func94 rfl Tryz.ntmps94 Tryz.results94 rfl inferInstance (fun _ => inferInstance) fun C => ?_
 refine Pc EInt y8 x1.roots 8 fun hlen1 => ?_
 refine Tx ?_
 refine Bx fun g1 => ?_
 refine Tx ?_
 refine gp [0, 3, 4] [true, true] (fun (i_ : Nat × SlV × SlV × SlV) => match i_ with | ⟨g2, x2, x3, x4⟩ => [(5, .v (.pointer (some ⟨g2, 0, none⟩))), (6, .v (.int .i64 (bs w1.h x1.who).2))]) (fun (i_ : Nat × SlV × SlV × SlV) => match i_ with | ⟨g2, x2, x3, x4⟩ => [⟨g2, 59, [x2.val (bs w1.h x1.who).1.roots.length, x3.val (bs w1.h x1.who).1.known.length, x4.val (bs w1.h x1.who).1.way.length]⟩]) (fun (i_ : Nat × SlV × SlV × SlV) => match i_ with | ⟨g2, x2, x3, x4⟩ => [ownL NClient.E 61 y6 y6b (zipG γ1 0 w1.c)]) (fun (i_ : Nat × SlV × SlV × SlV) => match i_ with | ⟨g2, x2, x3, x4⟩ => [RdL EInt x2 (bs w1.h x1.who).1.roots, RdL EPlace x3 (bs w1.h x1.who).1.known, RdL EPlace x4 (bs w1.h x1.who).1.way]) (fun _ => True) (.cons rfl (.cons rfl (.cons rfl (.nil _)))) (.keep (.keep (.nil))) ?_ ?_
 ·refine au (fun j => match j with | 11 => none | _ => some []) ?_
  refine Rb 0 rfl Qp ?_
  refine Rb 1 rfl Qp ?_
  refine Rb 2 rfl Qp ?_
  refine Rb 3 rfl (q_ldP rfl rfl Zf rfl Mm rfl) ?_
  refine Rb 4 rfl Qp ?_
  refine Rb 5 rfl Q1 ?_
  refine fu 6 10 Kr ?_ ?_
  ·refine cJ (j5 y1 y2 y3 w1.h x1.who) (.an rfl rfl) (ac rfl) rfl rfl rfl Kr rfl rfl Sm ?_
   intro x5
   refine Ra 7 rfl Qp ?_
   refine Ra 8 rfl Qp ?_
   refine ra_p (.an (i := 9) (js := [10, 11]) rfl Kr Kr Kr Kr) rfl rfl rfl (q_pev rfl Zf) ?_
   refine ap 10 Kr ?_
   refine di (.an rfl rfl) (ac rfl) rfl rfl rfl rfl fun g3 => ?_
   refine ap 11 Kr ?_
   refine cY (.lo [g3] rfl rfl) (.inr (by simp)) (ac rfl) rfl rfl rfl rfl rfl rfl rfl rfl rfl Ub rfl ?_
   refine Ra 12 rfl Qp ?_
   refine bn Kr ?_
   refine ⟨⟨g3, x5.1, x5.2.1, x5.2.2⟩, trivial, Le4⟩
  ·refine di (.an rfl rfl) (ac rfl) rfl rfl rfl rfl fun g4 => ?_
   refine ap 6 Kr ?_
   refine cJ (j5 y1 y2 y3 w1.h x1.who) (.an rfl rfl) (ac rfl) rfl rfl rfl Kr rfl rfl Sm ?_
   intro x6
   refine Ra 7 rfl Qp ?_
   refine Ra 8 rfl Qp ?_
   refine ra_p (.an (i := 9) (js := [11]) rfl Kr Kr Kr Kr) rfl rfl rfl (q_pev rfl Zf) ?_
   refine ap 11 Kr ?_
   refine cY (.lo [g4] rfl rfl) (.inr (by simp)) (ac rfl) rfl rfl rfl rfl rfl rfl rfl rfl rfl Ub rfl ?_
   refine Ra 12 rfl Qp ?_
   refine bn Kr ?_
   refine ⟨⟨g4, x6.1, x6.2.1, x6.2.2⟩, trivial, Le4⟩
 ·rintro ⟨g2, x2, x3, x4⟩ -
  simp only [List.cons_append, List.nil_append]
  refine Tx ?_
  refine Cd (b := ((bs w1.h x1.who).2 != 0)) (fun hc1 => ?_) fun hc1 => ?_
  ·have hc1p := bne_iff_ne.1 hc1
   refine Tx ?_
   refine ai ?_; simp only [b4, hc1, Cf]; exact Re ⟨y1, y2, y3, y4, y5, y6, y6b, γ1, y7⟩ (Vt Vn)
  ·have hc1p := ae hc1
   have hse := j6 (ae hc1)
   refine Tx ?_
   (repeat refine ao ?_); refine au (fun j => match j with | 10 => none | _ => some []) ?_
   refine Rb 0 rfl Qp ?_
   refine Rb 1 rfl Qp ?_
   refine Rb 2 rfl Qp ?_
   refine Rb 3 rfl Qp ?_
   refine Rb 4 rfl Q1 ?_
   refine Rb 5 rfl Qp ?_
   refine Rb 6 rfl Q1 ?_
   refine fj NPeer (X := y3) (l := w1.h.peers) Mm fun (γ2 : Nat → SlV) => ?_
   refine Ra 7 rfl (dw NPeer γ2 x1.who.toNat rfl rfl Zf rfl Zf rfl rfl rfl Mm rfl Zo (fun _ => by first | assumption | omega)) ?_
   refine Ra 8 rfl (q_is (v' := .agg ⟨[.int .i64 (gt w1.h.peers x1.who.toNat).life, .int .i64 (gt w1.h.peers x1.who.toNat).seq, (γ2 x1.who.toNat).val (gt w1.h.peers x1.who.toNat).roots.length]⟩) (fP NPeer γ2 rfl rfl Zf rfl rfl Mm (fun _ => by first | assumption | omega)) rfl) ?_
   refine aI (F := RdL EInt (γ2 x1.who.toNat) (gt w1.h.peers x1.who.toNat).roots) [am NPeer γ2 w1.h.peers] Sm (fun M w h => (allF1 h) x1.who.toNat Zc _ (.head _)) ?_
   refine ap 9 Kr ?_
   refine di (.an rfl rfl) (ac rfl) rfl rfl rfl rfl fun g5 => ?_
   refine ap 10 Kr ?_
   refine cY (.lo [g5] rfl rfl) (.inr (by simp)) (ac rfl) rfl rfl rfl rfl rfl rfl rfl rfl rfl Ub rfl ?_
   refine bn Kr ?_
   refine Tx ?_
   refine Cd (b := ((gt w1.h.peers x1.who.toNat).life == 0)) (fun hc2 => ?_) fun hc2 => ?_
   ·have hc2p := eq_of_beq hc2
    refine Tx ?_
    refine ai ?_; simp only [b4, hc1, hc2, Cf]; exact Re ⟨y1, y2, y3, y4, y5, y6, y6b, γ1, y7⟩ (Vt Vn)
   ·have hc2p := ne_of_beq_false hc2
    refine Tx ?_
    refine gp [0, 3, 4, 5, 7] [true, true, true, true] (fun (g6 : Nat) => [(8, .v (.pointer (some ⟨g6, 0, none⟩)))]) (fun (g6 : Nat) => [⟨g6, 132, [.int .i64 2, .int .i64 x1.who, .int .i64 (gt w1.h.peers x1.who.toNat).life, .int .i64 (gt w1.h.peers x1.who.toNat).seq, .int .i64 (d7 w1.h), .int .i64 w1.h.version, .int .i64 0, .int .i64 0, .int .i64 0, .int .i64 0, .int .i64 0, .int .i64 0, .int .i64 0, .int .i64 0, x2.val (bs w1.h x1.who).1.roots.length, x3.val (bs w1.h x1.who).1.known.length, x4.val (bs w1.h x1.who).1.way.length, .slice none 0 0, .slice none 0 0, .slice none 0 0, .slice none 0 0]⟩]) (fun (g6 : Nat) => [ownL NClient.E 61 y6 y6b (zipG γ1 0 w1.c)]) (fun (g6 : Nat) => [RdL EInt x2 (bs w1.h x1.who).1.roots, RdL EPlace x3 (bs w1.h x1.who).1.known, RdL EPlace x4 (bs w1.h x1.who).1.way]) (fun _ => True) (.cons rfl (.cons rfl (.cons rfl (.cons rfl (.cons rfl (.nil _)))))) (.keep (.keep (.keep (.keep (.nil))))) ?_ ?_
    ·refine au (fun j => match j with | 19 => none | _ => some []) ?_
     refine Rb 0 rfl Qp ?_
     refine Ra 1 rfl Q1 ?_
     refine Rb 2 rfl Qp ?_
     refine Ra 3 rfl Q1 ?_
     refine Rb 4 rfl Qp ?_
     refine Ra 5 rfl Q1 ?_
     refine Rb 6 rfl Qp ?_
     refine Rb 7 rfl Qp ?_
     refine Rb 8 rfl Qp ?_
     refine Rb 9 rfl (q_ldP rfl rfl Zf rfl Mm rfl) ?_
     refine Rb 11 rfl Qp ?_
     refine Rb 12 rfl Qp ?_
     refine Rb 13 rfl Qp ?_
     refine Rb 14 rfl Qp ?_
     refine Ra 15 rfl Q1 ?_
     refine Ra 16 rfl (q_ldA rfl rfl Zf rfl Mm rfl) ?_
     refine fu 10 18 Kr ?_ ?_
     ·refine cJ (j4 y1 y2 y3 w1.h) (.an rfl rfl) (ac rfl) rfl rfl rfl Kr rfl rfl Sm ?_
      intro _
      refine Ra 17 rfl Qp ?_
      refine ap 18 Kr ?_
      refine di (.an rfl rfl) (ac rfl) rfl rfl rfl rfl fun g7 => ?_
      refine ap 19 Kr ?_
      refine cY (.lo [g7] rfl rfl) (.inr (by simp)) (ac rfl) rfl rfl rfl rfl rfl rfl rfl rfl rfl Ub rfl ?_
      refine bn Kr ?_
      refine ⟨g7, trivial, Le4⟩
     ·refine di (.an rfl rfl) (ac rfl) rfl rfl rfl rfl fun g8 => ?_
      refine ap 10 Kr ?_
      refine cJ (j4 y1 y2 y3 w1.h) (.an rfl rfl) (ac rfl) rfl rfl rfl Kr rfl rfl Sm ?_
      intro _
      refine Ra 17 rfl Qp ?_
      refine ap 19 Kr ?_
      refine cY (.lo [g8] rfl rfl) (.inr (by simp)) (ac rfl) rfl rfl rfl rfl rfl rfl rfl rfl rfl Ub rfl ?_
      refine bn Kr ?_
      refine ⟨g8, trivial, Le4⟩
    ·rintro g6 -
     simp only [List.cons_append, List.nil_append]
     refine Tx ?_
     refine Cd (b := (x1.kind == 4)) (fun hc3 => ?_) fun hc3 => ?_
     ·have hc3p := eq_of_beq hc3
      (repeat refine ao ?_); refine au (fun _ => some []) ?_
      refine Rb 0 rfl Qp ?_
      refine Rb 1 rfl Q1 ?_
      refine Rb 2 rfl Qp ?_
      refine Ra 3 rfl Qp ?_
      refine Gb 4 rfl (aB rfl rfl rfl) (q_pev rfl Bt) ?_
      refine Gb 5 rfl (aB rfl rfl rfl) (q_ld1 rfl rfl Bt rfl Mm rfl) ?_
      refine Gb 6 rfl (aB rfl rfl rfl) (q_pev rfl Bt) ?_
      refine Gb 7 rfl (aB rfl rfl rfl) (q_pev rfl Bt) ?_
      refine Gb 8 rfl (aB rfl rfl rfl) (q_pev rfl Bt) ?_
      refine Gb 9 rfl (aB rfl rfl rfl) (q_pev rfl Bt) ?_
      refine Gb 10 rfl (aB rfl rfl rfl) (q_ld1 rfl rfl Bt rfl Mm rfl) ?_
      refine Ga 11 rfl (aB rfl rfl rfl) (q_pev rfl Bt) ?_
      refine Ra 12 rfl (q_pev rfl Bt) ?_
      refine bn Kr ?_
      (repeat refine ao ?_)
      refine Cd (b := (decide (x1.n < 0) || decide (x1.n ≥ w1.h.version))) (fun hc4 => ?_) fun hc4 => ?_
      ·refine Tx ?_
       refine ai ?_; simp only [b4, hc1, hc2, hc3, hc4, Cf]; exact Re ⟨y1, y2, y3, y4, y5, y6, y6b, γ1, y7⟩ (Vt Vn)
      ·have hnr := hc4
       simp only [Bool.or_eq_false_iff, decide_eq_false_iff_not] at hnr
       refine Tx ?_
       refine Cl (eP y4 y5 w1.d) fun x7 => ?_
       refine Tx ?_
       refine Al fun g9 => ?_
       refine Tx ?_
       refine Cd (b := ((al w1.d).2.2 != 0)) (fun hc5 => ?_) fun hc5 => ?_
       ·have hc5p := bne_iff_ne.1 hc5
        refine Tx ?_
        refine ai ?_; simp only [b4, hc1, hc2, hc3, hc4, hc5, Cf]; exact Re ⟨y1, y2, y3, y4, y5, y6, y6b, γ1, y7⟩ (Vt Vn)
       ·have hc5p := ae hc5
        refine Tx ?_
        refine rw_q rfl rfl rfl (pm NRec x1.n.toNat rfl rfl Zf rfl Zf rfl rfl Mm Zo Zo) ?_
        refine aI (F := RdN NRec x7.2.2 ((al w1.d).2.1.take x1.n.toNat)) [RdN NRec x7.2.2 (al w1.d).2.1] Sm (fun M w h => (allF1 h).take _) ?_
        refine Cl (fx x7.2.2 ((al w1.d).2.1.take x1.n.toNat)) fun x8 => ?_
        generalize hS1 : (aq ((al w1.d).2.1.take x1.n.toNat)) = S1
        refine Tx ?_
        refine Al fun g10 => ?_
        refine Tx ?_
        refine Cd (b := (S1.2 != 0)) (fun hc6 => ?_) fun hc6 => ?_
        ·have hc6p := bne_iff_ne.1 hc6
         refine Tx ?_
         refine ai ?_; simp only [b4, hc1, hc2, hc3, hc4, hc5, hS1, hc6, Cf]; exact Re ⟨y1, y2, y3, y4, y5, y6, y6b, γ1, y7⟩ (Vt Vn)
        ·have hc6p := ae hc6
         have hrp := (rg hS1 (ae hc6)).1.three
         refine Tx ?_
         (repeat refine ao ?_); refine au (fun _ => some []) ?_
         refine Rb 0 rfl Qp ?_
         refine Rb 1 rfl Q1 ?_
         refine Rb 2 rfl Qp ?_
         refine Rb 3 rfl Q1 ?_
         refine fj NPeer (X := x8.2.2) (l := S1.1.peers) Mm fun (γ3 : Nat → SlV) => ?_
         refine Rb 4 rfl (dw NPeer γ3 x1.who.toNat rfl rfl Zf rfl Zf rfl rfl rfl Mm rfl Zo (fun _ => by first | assumption | omega)) ?_
         refine Rb 5 rfl (q_fae rfl rfl Zf rfl rfl) ?_
         refine Rb 6 rfl (kH NPeer γ3 (v := .int .i64 (gt S1.1.peers x1.who.toNat).life) rfl rfl Zf rfl rfl Mm (fun _ => by first | assumption | omega) rfl) ?_
         refine Rb 7 rfl Qp ?_
         refine Rb 8 rfl Q1 ?_
         refine Rb 9 rfl Qp ?_
         refine Ra 10 rfl Qp ?_
         refine Gb 11 rfl (aB rfl rfl rfl) (q_pev rfl Bt) ?_
         refine Gb 12 rfl (aB rfl rfl rfl) (q_ld1 rfl rfl Bt rfl Mm rfl) ?_
         refine Gb 13 rfl (aB rfl rfl rfl) (q_pev rfl Bt) ?_
         refine Gb 14 rfl (aB rfl rfl rfl) (q_ld1 rfl rfl Bt rfl Mm rfl) ?_
         refine Gb 15 rfl (aB rfl rfl rfl) (dw NPeer γ3 x1.who.toNat rfl rfl Bt rfl Bt rfl rfl rfl Mm rfl (by intro h; first | omega | rfl | (simp at h; omega)) (by first | (intro _; first | assumption | omega) | (intro h; simp at h; omega))) ?_
         refine Gb 16 rfl (aB rfl rfl rfl) (q_fae rfl rfl Bt rfl rfl) ?_
         refine Gb 17 rfl (aB rfl rfl rfl) (kH NPeer γ3 (v := (γ3 x1.who.toNat).val (gt S1.1.peers x1.who.toNat).roots.length) rfl rfl Bt rfl rfl Mm (by first | (intro _; first | assumption | omega) | (intro h; simp at h; omega)) rfl) ?_
         refine aI (F := RdL EInt (γ3 x1.who.toNat) (gt S1.1.peers x1.who.toNat).roots) [am NPeer γ3 S1.1.peers] Sm (fun M w h => (allF1 h) x1.who.toNat Zc _ (.head _)) ?_
         refine Gb 18 rfl (aB rfl rfl rfl) (q_pev rfl Bt) ?_
         refine Gb 19 rfl (aB rfl rfl rfl) (q_ld1 rfl rfl Bt rfl Mm rfl) ?_
         refine ap 20 Kr ?_
         refine dv (fun hG_ => (fun y1 a y2 b => dA y1 y2 a b) (γ3 x1.who.toNat) (gt S1.1.peers x1.who.toNat).roots (γ2 x1.who.toNat) (gt w1.h.peers x1.who.toNat).roots) Zf (.an rfl rfl) (aB rfl rfl rfl) rfl rfl rfl Kr rfl Bt Sm ?_
         refine Ga 21 rfl (aB rfl rfl rfl) (q_pev rfl Bt) ?_
         refine Ra 22 rfl (q_pev rfl Bt) ?_
         refine bn Kr ?_
         (repeat refine ao ?_)
         refine Cd (b := (((gt S1.1.peers x1.who.toNat).life != (gt w1.h.peers x1.who.toNat).life) || (!(decide ((gt S1.1.peers x1.who.toNat).roots = (gt w1.h.peers x1.who.toNat).roots))))) (fun hc7 => ?_) fun hc7 => ?_
         ·refine Tx ?_
          refine ai ?_; simp only [b4, hc1, hc2, hc3, hc4, hc5, hS1, hc6, hc7, Cf]; exact Re ⟨y1, y2, y3, y4, y5, y6, y6b, γ1, y7⟩ (Vt Vn)
         ·refine Tx ?_
          refine Cl (j5 x8.1 x8.2.1 x8.2.2 S1.1 x1.who) fun x9 => ?_
          refine Tx ?_
          refine Al fun g11 => ?_
          refine Tx ?_
          refine Cd (b := ((bs S1.1 x1.who).2 != 0)) (fun hc8 => ?_) fun hc8 => ?_
          ·have hc8p := bne_iff_ne.1 hc8
           refine Tx ?_
           refine ai ?_; simp only [b4, hc1, hc2, hc3, hc4, hc5, hS1, hc6, hc7, hc8, Cf]; exact Re ⟨y1, y2, y3, y4, y5, y6, y6b, γ1, y7⟩ (Vt Vn)
          ·have hc8p := ae hc8
           refine Tx ?_
           (repeat refine ao ?_); refine au (fun j => match j with | 4 => some [g6] | 6 => some [g6] | 8 => some [g6] | _ => some []) ?_
           refine ra_q (.an (i := 0) (js := [2, 3, 4]) rfl Kr Kr Kr Kr) (.keep (.keep (.keep (.drop (bK.all _))))) (by intro g hg; simp at hg; simp [hg]) rfl rfl rfl (q_pev rfl Zf) ?_
           refine ra_q (.an (i := 1) (js := [2, 3, 4]) rfl Kr Kr Kr Kr) (.keep (.keep (.keep (.drop (bK.all _))))) (by intro g hg; simp at hg; simp [hg]) rfl rfl rfl (q_ld1 rfl rfl Zf rfl Mm rfl) ?_
           refine ra_q (.an (i := 2) (js := [3, 4, 5, 6]) rfl Kr Kr Kr Kr) (.keep (.keep (.keep (.drop (bK.all _))))) (by intro g hg; simp at hg; simp [hg]) rfl rfl rfl (q_pev rfl Zf) ?_
           refine Ra 3 rfl Qp ?_
           refine ap 4 Kr ?_
           refine ew (.an rfl rfl) (.inr (by simp)) (ac rfl) rfl rfl rfl rfl rfl rfl rfl rfl rfl Ub rfl ?_
           refine Ra 5 rfl Qp ?_
           refine ap 6 Kr ?_
           refine ew (.an rfl rfl) (.inr (by simp)) (ac rfl) rfl rfl rfl rfl rfl rfl rfl rfl rfl Ub rfl ?_
           refine Ra 7 rfl Qp ?_
           refine ap 8 Kr ?_
           refine eS (.an rfl rfl) (.inr (by simp)) (ac rfl) rfl rfl rfl rfl rfl rfl rfl rfl rfl Ub rfl ?_
           refine bn Kr ?_
           refine Tx ?_
           refine Cl (pB x9.1 x9.2.1 x9.2.2 (bs S1.1 x1.who).1 x2 x3 x4 (bs w1.h x1.who).1) fun x10 => ?_
           generalize hS2 : (cZ (bs S1.1 x1.who).1 (bs w1.h x1.who).1) = S2
           refine Tx ?_
           refine eS .sq (.inl ⟨_, rfl⟩) (ac rfl) rfl rfl rfl rfl rfl rfl rfl rfl rfl Ub rfl ?_
           refine Tx ?_
           refine Cd (b := (S2.2 != 0)) (fun hc9 => ?_) fun hc9 => ?_
           ·have hc9p := bne_iff_ne.1 hc9
            refine Tx ?_
            refine ai ?_; simp only [b4, hc1, hc2, hc3, hc4, hc5, hS1, hc6, hc7, hc8, hS2, hc9, Cf]; exact Re ⟨y1, y2, y3, y4, y5, y6, y6b, γ1, y7⟩ (Vt Vn)
           ·have hc9p := ae hc9
            refine Tx ?_
            refine Fr EInt ?_
            refine Fr EPlace ?_
            refine aV (f7 c1 y1 y2 y3 y4 y5 y6 y6b γ1 y7 w1 (⟨none, 0⟩ : SlV) (⟨none, 0⟩ : SlV) (⟨none, 0⟩ : SlV) x10.1 x10.2.1 x10.2.2.1 x10.2.2.2 (⟨3, x1.who, (gt w1.h.peers x1.who.toNat).life, (gt w1.h.peers x1.who.toNat).seq, (d7 w1.h), w1.h.version, x1.n, (⟨0, 0, 0, 0, 0, 0, 0⟩ : Op), (⟨[], [], []⟩ : View), S2.1⟩ : Mail)) .sq (.inl ⟨_, rfl⟩) (ac rfl) rfl rfl rfl Kr rfl rfl Sm Tk Tk ?_
            intro x11
            generalize hS3 : (ce w1 (⟨3, x1.who, (gt w1.h.peers x1.who.toNat).life, (gt w1.h.peers x1.who.toNat).seq, (d7 w1.h), w1.h.version, x1.n, (⟨0, 0, 0, 0, 0, 0, 0⟩ : Op), (⟨[], [], []⟩ : View), S2.1⟩ : Mail)) = S3
            refine Tx ?_
            refine ai ?_; simp only [b4, hc1, hc2, hc3, hc4, hc5, hS1, hc6, hc7, hc8, hS2, hc9, hS3, Cf]; exact Re ⟨x11.1, x11.2.1, x11.2.2.1, x11.2.2.2.1, x11.2.2.2.2.1, x11.2.2.2.2.2.1, x11.2.2.2.2.2.2.1, x11.2.2.2.2.2.2.2.1, x11.2.2.2.2.2.2.2.2⟩ (Vt Vn)
     ·have hc3p := ne_of_beq_false hc3
      refine Tx ?_
      refine Fr EInt ?_
      refine Fr EPlace ?_
      refine aV (f7 c1 y1 y2 y3 y4 y5 y6 y6b γ1 y7 w1 x2 x3 x4 (⟨none, 0⟩ : SlV) (⟨none, 0⟩ : SlV) (⟨none, 0⟩ : SlV) (⟨none, 0⟩ : SlV) (⟨2, x1.who, (gt w1.h.peers x1.who.toNat).life, (gt w1.h.peers x1.who.toNat).seq, (d7 w1.h), w1.h.version, 0, (⟨0, 0, 0, 0, 0, 0, 0⟩ : Op), (bs w1.h x1.who).1, (⟨[], [], [], []⟩ : Delta)⟩ : Mail)) .sq (.inl ⟨_, rfl⟩) (ac rfl) rfl rfl rfl Kr rfl rfl Sm Tk Tk ?_
      intro x12
      generalize hS4 : (ce w1 (⟨2, x1.who, (gt w1.h.peers x1.who.toNat).life, (gt w1.h.peers x1.who.toNat).seq, (d7 w1.h), w1.h.version, 0, (⟨0, 0, 0, 0, 0, 0, 0⟩ : Op), (bs w1.h x1.who).1, (⟨[], [], [], []⟩ : Delta)⟩ : Mail)) = S4
      refine Tx ?_
      refine ai ?_; simp only [b4, hc1, hc2, hc3, hS4, Cf]; exact Re ⟨x12.1, x12.2.1, x12.2.2.1, x12.2.2.2.1, x12.2.2.2.2.1, x12.2.2.2.2.2.1, x12.2.2.2.2.2.2.1, x12.2.2.2.2.2.2.2.1, x12.2.2.2.2.2.2.2.2⟩ (Vt Vn)
theorem o9 (w : Wld) (r : Rec) : (ba w r).2.c = w.c := by
 unfold ba
 cases ((dG w.h r).2 != 0) <;> cases ((dy w.d r).2 != 0) <;> cases ((ey (dy w.d r).1).2 != 0) <;> rfl
def cw (w1 : Wld) (who1 : Int) : Int × Wld :=
 (bif ((ba w1 (⟨2, who1, ((gt w1.h.peers who1.toNat).life + 1), ([] : List Int), (⟨0, 0, 0, 0, 0, 0, 0⟩ : Op)⟩ : Rec)).1 != 0) then ((ba w1 (⟨2, who1, ((gt w1.h.peers who1.toNat).life + 1), ([] : List Int), (⟨0, 0, 0, 0, 0, 0, 0⟩ : Op)⟩ : Rec)).1, (ba w1 (⟨2, who1, ((gt w1.h.peers who1.toNat).life + 1), ([] : List Int), (⟨0, 0, 0, 0, 0, 0, 0⟩ : Op)⟩ : Rec)).2) else (bif ((bU ((gt w1.h.peers who1.toNat).life + 1) (d7 (ba w1 (⟨2, who1, ((gt w1.h.peers who1.toNat).life + 1), ([] : List Int), (⟨0, 0, 0, 0, 0, 0, 0⟩ : Op)⟩ : Rec)).2.h)).2 == 0) then ((bU ((gt w1.h.peers who1.toNat).life + 1) (d7 (ba w1 (⟨2, who1, ((gt w1.h.peers who1.toNat).life + 1), ([] : List Int), (⟨0, 0, 0, 0, 0, 0, 0⟩ : Op)⟩ : Rec)).2.h)).2, (⟨(ba w1 (⟨2, who1, ((gt w1.h.peers who1.toNat).life + 1), ([] : List Int), (⟨0, 0, 0, 0, 0, 0, 0⟩ : Op)⟩ : Rec)).2.h, (ba w1 (⟨2, who1, ((gt w1.h.peers who1.toNat).life + 1), ([] : List Int), (⟨0, 0, 0, 0, 0, 0, 0⟩ : Op)⟩ : Rec)).2.d, (ba w1 (⟨2, who1, ((gt w1.h.peers who1.toNat).life + 1), ([] : List Int), (⟨0, 0, 0, 0, 0, 0, 0⟩ : Op)⟩ : Rec)).2.up, ((ba w1 (⟨2, who1, ((gt w1.h.peers who1.toNat).life + 1), ([] : List Int), (⟨0, 0, 0, 0, 0, 0, 0⟩ : Op)⟩ : Rec)).2.c.set who1.toNat (bU ((gt w1.h.peers who1.toNat).life + 1) (d7 (ba w1 (⟨2, who1, ((gt w1.h.peers who1.toNat).life + 1), ([] : List Int), (⟨0, 0, 0, 0, 0, 0, 0⟩ : Op)⟩ : Rec)).2.h)).1), (ba w1 (⟨2, who1, ((gt w1.h.peers who1.toNat).life + 1), ([] : List Int), (⟨0, 0, 0, 0, 0, 0, 0⟩ : Op)⟩ : Rec)).2.mail⟩ : Wld)) else ((bU ((gt w1.h.peers who1.toNat).life + 1) (d7 (ba w1 (⟨2, who1, ((gt w1.h.peers who1.toNat).life + 1), ([] : List Int), (⟨0, 0, 0, 0, 0, 0, 0⟩ : Op)⟩ : Rec)).2.h)).2, (ba w1 (⟨2, who1, ((gt w1.h.peers who1.toNat).life + 1), ([] : List Int), (⟨0, 0, 0, 0, 0, 0, 0⟩ : Op)⟩ : Rec)).2)))
theorem m6 (c1 : Nat) (y1 : SlV) (y2 : SlV) (y3 : SlV) (y4 : SlV) (y5 : SlV) (y6 : SlV) (y6b : Option Nat) (γ1 : Nat → SlV × SlV × SlV × SlV) (y7 : SlV) (w1 : Wld) (who1 : Int) (hk : cu w1.h = 0) (hc : w1.c.length = 3) (hw : 0 ≤ who1 ∧ who1 < 3) : DoesG Tryz.prog 93 [.pointer (some ⟨c1, 0, none⟩), .int .i64 who1] [RdL EStep y1 w1.h.h.l, RdL EPlace y2 w1.h.h.t, RdN NPeer y3 w1.h.peers, RdL EByte y4 w1.d.safe, RdL EByte y5 w1.d.wait, am NClient γ1 w1.c, RdN NMail y7 w1.mail, LibP Tryz.prog] ⟨[⟨c1, 39, [y1.val w1.h.h.l.length, y2.val w1.h.h.t.length, .int .i64 w1.h.version, y3.val w1.h.peers.length, y4.val w1.d.safe.length, y5.val w1.d.wait.length, .bool w1.up, y6.val w1.c.length, y7.val w1.mail.length]⟩], [ownL NClient.E 61 y6 y6b (zipG γ1 0 w1.c)]⟩ (fun (X : SlV × SlV × SlV × SlV × SlV × SlV × Option Nat × (Nat → SlV × SlV × SlV × SlV) × SlV) => .int .i64 (cw w1 who1).1) (fun X => [RdL EStep X.1 (cw w1 who1).2.h.h.l, RdL EPlace X.2.1 (cw w1 who1).2.h.h.t, RdN NPeer X.2.2.1 (cw w1 who1).2.h.peers, RdL EByte X.2.2.2.1 (cw w1 who1).2.d.safe, RdL EByte X.2.2.2.2.1 (cw w1 who1).2.d.wait, am NClient X.2.2.2.2.2.2.2.1 (cw w1 who1).2.c, RdN NMail X.2.2.2.2.2.2.2.2 (cw w1 who1).2.mail]) (fun X => ⟨[⟨c1, 39, [X.1.val (cw w1 who1).2.h.h.l.length, X.2.1.val (cw w1 who1).2.h.h.t.length, .int .i64 (cw w1 who1).2.h.version, X.2.2.1.val (cw w1 who1).2.h.peers.length, X.2.2.2.1.val (cw w1 who1).2.d.safe.length, X.2.2.2.2.1.val (cw w1 who1).2.d.wait.length, .bool (cw w1 who1).2.up, X.2.2.2.2.2.1.val (cw w1 who1).2.c.length, X.2.2.2.2.2.2.2.2.val (cw w1 who1).2.mail.length]⟩], [ownL NClient.E 61 X.2.2.2.2.2.1 X.2.2.2.2.2.2.1 (zipG X.2.2.2.2.2.2.2.1 0 (cw w1 who1).2.c)]⟩) := by
 refine co aZ Tryz.func93 rfl Tryz.ntmps93 Tryz.results93 rfl inferInstance (fun _ => inferInstance) fun C => ?_
 have hpl := (fD hk).2.2.2
 have hlb := (lX hk (gt w1.h.peers who1.toNat) (gn (by omega))).1
 refine Tx ?_
 refine fj NPeer (X := y3) (l := w1.h.peers) Mm fun (γ2 : Nat → SlV) => ?_
 refine rw_q rfl rfl rfl (dw NPeer γ2 who1.toNat rfl rfl Zf rfl Zf rfl rfl rfl Mm rfl Zo (fun _ => by first | assumption | omega)) ?_
 refine rw_q rfl rfl rfl (q_fae rfl rfl Zf rfl rfl) ?_
 refine rw_q rfl rfl rfl (kH NPeer γ2 (v := .int .i64 (gt w1.h.peers who1.toNat).life) rfl rfl Zf rfl rfl Mm (fun _ => by first | assumption | omega) rfl) ?_
 refine rw_q rfl rfl rfl (q_add rfl rfl Zf rfl Zf Zo) ?_
 refine Tx ?_
 refine Fr EInt ?_
 refine aV (gO c1 y1 y2 y3 y4 y5 y6 y6b γ1 y7 w1 (⟨none, 0⟩ : SlV) (⟨2, who1, ((gt w1.h.peers who1.toNat).life + 1), ([] : List Int), (⟨0, 0, 0, 0, 0, 0, 0⟩ : Op)⟩ : Rec)) .sq (.inl ⟨_, rfl⟩) (ac rfl) rfl rfl rfl Kr rfl rfl Sm Tk Tk ?_
 intro x1
 generalize hS1 : (ba w1 (⟨2, who1, ((gt w1.h.peers who1.toNat).life + 1), ([] : List Int), (⟨0, 0, 0, 0, 0, 0, 0⟩ : Op)⟩ : Rec)) = S1
 refine Tx ?_
 refine Cd (b := (S1.1 != 0)) (fun hc1 => ?_) fun hc1 => ?_
 ·have hc1p := bne_iff_ne.1 hc1
  refine Tx ?_
  refine ai ?_; simp only [cw, hS1, hc1, Cf]; exact Re ⟨x1.1, x1.2.1, x1.2.2.1, x1.2.2.2.1, x1.2.2.2.2.1, x1.2.2.2.2.2.1, x1.2.2.2.2.2.2.1, x1.2.2.2.2.2.2.2.1, x1.2.2.2.2.2.2.2.2⟩ (Vt Vn)
 ·have hc1p := ae hc1
  have hwc : S1.2.c.length = 3 := by rw [← hS1, o9]; exact hc
  refine Tx ?_
  refine Cl (j4 x1.1 x1.2.1 x1.2.2.1 S1.2.h) fun _ => ?_
  refine Cl (mC ((gt w1.h.peers who1.toNat).life + 1) (d7 S1.2.h)) fun x2 => ?_
  generalize hS2 : (bU ((gt w1.h.peers who1.toNat).life + 1) (d7 S1.2.h)) = S2
  refine Tx ?_
  refine Al fun g1 => ?_
  refine Tx ?_
  refine Cd (b := (S2.2 == 0)) (fun hc2 => ?_) fun hc2 => ?_
  ·have hc2p := eq_of_beq hc2
   (repeat refine ao ?_); refine au (fun j => match j with | 7 => none | _ => some []) ?_
   refine Rb 0 rfl Qp ?_
   refine Rb 1 rfl Qp ?_
   refine Ra 2 rfl Qp ?_
   refine Ra 3 rfl Q1 ?_
   refine Ra 4 rfl Qp ?_
   refine Ra 5 rfl (q_ldA rfl rfl Zf rfl Mm rfl) ?_
   refine rw_qO NClient.E (e := 61) (X := x1.2.2.2.2.2.1) (b := x1.2.2.2.2.2.2.1) (l := zipG x1.2.2.2.2.2.2.2.1 0 S1.2.c) Mm (.an (i := 6) (js := []) rfl Kr Kr Kr Kr) rfl rfl rfl (dw NClient x1.2.2.2.2.2.2.2.1 who1.toNat rfl rfl Zf rfl Zf rfl rfl rfl (.head _) rfl Zo Za) ?_
   refine ap 7 Kr ?_
   refine gf NClient x1.2.2.2.2.2.2.2.1 S1.2.c who1.toNat 0 (x2.1, x2.2.1, x2.2.2.1, x2.2.2.2) S2.1 (e := 61) (X := x1.2.2.2.2.2.1) (b := x1.2.2.2.2.2.2.1) (.lo x1.2.2.2.2.2.2.1.toList rfl rfl) (.inr (fun g h => by simp [h])) (ac rfl) rfl rfl rfl rfl rfl rfl rfl rfl rfl rfl rfl Zb rfl Uo ?_
   refine aI (F := am NClient (updG x1.2.2.2.2.2.2.2.1 who1.toNat (x2.1, x2.2.1, x2.2.2.1, x2.2.2.2)) (S1.2.c.set who1.toNat S2.1)) [am NClient x1.2.2.2.2.2.2.2.1 S1.2.c, RdL EOp x2.1 S2.1.pending, RdL EInt x2.2.1 S2.1.v.roots, RdL EPlace x2.2.2.1 S2.1.v.known, RdL EPlace x2.2.2.2 S2.1.v.way] Sm (fun M w h => am.upd NClient (h _ (.head _)) (da Sm h)) ?_
   have hv1 : x1.2.2.2.2.2.1.val S1.2.c.length = x1.2.2.2.2.2.1.val (S1.2.c.set who1.toNat S2.1).length := congrArg (SlV.val x1.2.2.2.2.2.1) List.length_set.symm
   try rw [hv1]
   refine bn Kr ?_
   refine Tx ?_
   refine ai ?_; simp only [cw, hS1, hc1, hS2, hc2, Cf]; exact Re ⟨x1.1, x1.2.1, x1.2.2.1, x1.2.2.2.1, x1.2.2.2.2.1, x1.2.2.2.2.2.1, x1.2.2.2.2.2.2.1, (updG x1.2.2.2.2.2.2.2.1 who1.toNat (x2.1, x2.2.1, x2.2.2.1, x2.2.2.2)), x1.2.2.2.2.2.2.2.2⟩ (Vt Vn)
  ·have hc2p := ne_of_beq_false hc2
   refine Tx ?_
   refine ai ?_; simp only [cw, hS1, hc1, hS2, hc2, Cf]; exact Re ⟨x1.1, x1.2.1, x1.2.2.1, x1.2.2.2.1, x1.2.2.2.2.1, x1.2.2.2.2.2.1, x1.2.2.2.2.2.2.1, x1.2.2.2.2.2.2.2.1, x1.2.2.2.2.2.2.2.2⟩ (Vt Vn)
def cj (w1 : Wld) (x1 : Happening) : Int × Wld :=
 (bif ((aA w1.mail x1.n (x1.kind == 8)).2.2 != 0) then ((aA w1.mail x1.n (x1.kind == 8)).2.2, w1) else (bif ((aA w1.mail x1.n (x1.kind == 8)).2.1.kind != 1) then (bif ((aL (gt w1.c (aA w1.mail x1.n (x1.kind == 8)).2.1.who.toNat) (aA w1.mail x1.n (x1.kind == 8)).2.1.who (aA w1.mail x1.n (x1.kind == 8)).2.1).2 == 0) then ((aL (gt w1.c (aA w1.mail x1.n (x1.kind == 8)).2.1.who.toNat) (aA w1.mail x1.n (x1.kind == 8)).2.1.who (aA w1.mail x1.n (x1.kind == 8)).2.1).2, (⟨w1.h, w1.d, w1.up, (w1.c.set (aA w1.mail x1.n (x1.kind == 8)).2.1.who.toNat (aL (gt w1.c (aA w1.mail x1.n (x1.kind == 8)).2.1.who.toNat) (aA w1.mail x1.n (x1.kind == 8)).2.1.who (aA w1.mail x1.n (x1.kind == 8)).2.1).1), (aA w1.mail x1.n (x1.kind == 8)).1⟩ : Wld)) else ((aL (gt w1.c (aA w1.mail x1.n (x1.kind == 8)).2.1.who.toNat) (aA w1.mail x1.n (x1.kind == 8)).2.1.who (aA w1.mail x1.n (x1.kind == 8)).2.1).2, w1)) else (bif (!w1.up) then (7, w1) else (0, (ba (⟨w1.h, w1.d, w1.up, w1.c, (aA w1.mail x1.n (x1.kind == 8)).1⟩ : Wld) (⟨1, 0, 0, ([] : List Int), (aA w1.mail x1.n (x1.kind == 8)).2.1.o⟩ : Rec)).2))))
theorem ky (c1 : Nat) (y1 : SlV) (y2 : SlV) (y3 : SlV) (y4 : SlV) (y5 : SlV) (y6 : SlV) (y6b : Option Nat) (γ1 : Nat → SlV × SlV × SlV × SlV) (y7 : SlV) (w1 : Wld) (y8 : SlV) (x1 : Happening) (hc : w1.c.length = 3) : DoesG Tryz.prog 64 [.pointer (some ⟨c1, 0, none⟩), .agg ⟨[.int .i64 x1.kind, .int .i64 x1.who, .int .i64 x1.n, .int .i64 x1.node, .int .i64 x1.parent, .int .i64 x1.name, y8.val x1.roots.length]⟩] [RdL EStep y1 w1.h.h.l, RdL EPlace y2 w1.h.h.t, RdN NPeer y3 w1.h.peers, RdL EByte y4 w1.d.safe, RdL EByte y5 w1.d.wait, am NClient γ1 w1.c, RdN NMail y7 w1.mail, RdL EInt y8 x1.roots, LibP Tryz.prog] ⟨[⟨c1, 39, [y1.val w1.h.h.l.length, y2.val w1.h.h.t.length, .int .i64 w1.h.version, y3.val w1.h.peers.length, y4.val w1.d.safe.length, y5.val w1.d.wait.length, .bool w1.up, y6.val w1.c.length, y7.val w1.mail.length]⟩], [ownL NClient.E 61 y6 y6b (zipG γ1 0 w1.c)]⟩ (fun (X : SlV × SlV × SlV × SlV × SlV × SlV × Option Nat × (Nat → SlV × SlV × SlV × SlV) × SlV) => .int .i64 (cj w1 x1).1) (fun X => [RdL EStep X.1 (cj w1 x1).2.h.h.l, RdL EPlace X.2.1 (cj w1 x1).2.h.h.t, RdN NPeer X.2.2.1 (cj w1 x1).2.h.peers, RdL EByte X.2.2.2.1 (cj w1 x1).2.d.safe, RdL EByte X.2.2.2.2.1 (cj w1 x1).2.d.wait, am NClient X.2.2.2.2.2.2.2.1 (cj w1 x1).2.c, RdN NMail X.2.2.2.2.2.2.2.2 (cj w1 x1).2.mail]) (fun X => ⟨[⟨c1, 39, [X.1.val (cj w1 x1).2.h.h.l.length, X.2.1.val (cj w1 x1).2.h.h.t.length, .int .i64 (cj w1 x1).2.h.version, X.2.2.1.val (cj w1 x1).2.h.peers.length, X.2.2.2.1.val (cj w1 x1).2.d.safe.length, X.2.2.2.2.1.val (cj w1 x1).2.d.wait.length, .bool (cj w1 x1).2.up, X.2.2.2.2.2.1.val (cj w1 x1).2.c.length, X.2.2.2.2.2.2.2.2.val (cj w1 x1).2.mail.length]⟩], [ownL NClient.E 61 X.2.2.2.2.2.1 X.2.2.2.2.2.2.1 (zipG X.2.2.2.2.2.2.2.1 0 (cj w1 x1).2.c)]⟩) := by
 refine co aZ Tryz.func64 rfl Tryz.ntmps64 Tryz.results64 rfl inferInstance (fun _ => inferInstance) fun C => ?_
 refine Pc EInt y8 x1.roots 8 fun hlen1 => ?_
 refine Tx ?_
 refine Bx fun g1 => ?_
 refine Tx ?_
 refine gp [0, 4] [true, true] (fun (i_ : SlV × Nat × SlV × SlV × SlV × SlV × SlV × SlV × SlV) => match i_ with | ⟨x2, g2, x3, x4, x5, x6, x7, x8, x9⟩ => [(5, .v (x2.val (aA w1.mail x1.n (x1.kind == 8)).1.length)), (6, .v (.pointer (some ⟨g2, 0, none⟩))), (7, .v (.int .i64 (aA w1.mail x1.n (x1.kind == 8)).2.2))]) (fun (i_ : SlV × Nat × SlV × SlV × SlV × SlV × SlV × SlV × SlV) => match i_ with | ⟨x2, g2, x3, x4, x5, x6, x7, x8, x9⟩ => [⟨g2, 132, [.int .i64 (aA w1.mail x1.n (x1.kind == 8)).2.1.kind, .int .i64 (aA w1.mail x1.n (x1.kind == 8)).2.1.who, .int .i64 (aA w1.mail x1.n (x1.kind == 8)).2.1.life, .int .i64 (aA w1.mail x1.n (x1.kind == 8)).2.1.seq, .int .i64 (aA w1.mail x1.n (x1.kind == 8)).2.1.time, .int .i64 (aA w1.mail x1.n (x1.kind == 8)).2.1.version, .int .i64 (aA w1.mail x1.n (x1.kind == 8)).2.1.frm, .int .i64 (aA w1.mail x1.n (x1.kind == 8)).2.1.o.time, .int .i64 (aA w1.mail x1.n (x1.kind == 8)).2.1.o.who, .int .i64 (aA w1.mail x1.n (x1.kind == 8)).2.1.o.node, .int .i64 (aA w1.mail x1.n (x1.kind == 8)).2.1.o.parent, .int .i64 (aA w1.mail x1.n (x1.kind == 8)).2.1.o.name, .int .i64 (aA w1.mail x1.n (x1.kind == 8)).2.1.o.life, .int .i64 (aA w1.mail x1.n (x1.kind == 8)).2.1.o.seq, x3.val (aA w1.mail x1.n (x1.kind == 8)).2.1.v.roots.length, x4.val (aA w1.mail x1.n (x1.kind == 8)).2.1.v.known.length, x5.val (aA w1.mail x1.n (x1.kind == 8)).2.1.v.way.length, x6.val (aA w1.mail x1.n (x1.kind == 8)).2.1.d.gone.length, x7.val (aA w1.mail x1.n (x1.kind == 8)).2.1.d.here.length, x8.val (aA w1.mail x1.n (x1.kind == 8)).2.1.d.wayGone.length, x9.val (aA w1.mail x1.n (x1.kind == 8)).2.1.d.wayHere.length]⟩]) (fun (i_ : SlV × Nat × SlV × SlV × SlV × SlV × SlV × SlV × SlV) => match i_ with | ⟨x2, g2, x3, x4, x5, x6, x7, x8, x9⟩ => [ownL NClient.E 61 y6 y6b (zipG γ1 0 w1.c)]) (fun (i_ : SlV × Nat × SlV × SlV × SlV × SlV × SlV × SlV × SlV) => match i_ with | ⟨x2, g2, x3, x4, x5, x6, x7, x8, x9⟩ => [RdN NMail x2 (aA w1.mail x1.n (x1.kind == 8)).1, RdL EInt x3 (aA w1.mail x1.n (x1.kind == 8)).2.1.v.roots, RdL EPlace x4 (aA w1.mail x1.n (x1.kind == 8)).2.1.v.known, RdL EPlace x5 (aA w1.mail x1.n (x1.kind == 8)).2.1.v.way, RdL EInt x6 (aA w1.mail x1.n (x1.kind == 8)).2.1.d.gone, RdL EPlace x7 (aA w1.mail x1.n (x1.kind == 8)).2.1.d.here, RdL EInt x8 (aA w1.mail x1.n (x1.kind == 8)).2.1.d.wayGone, RdL EPlace x9 (aA w1.mail x1.n (x1.kind == 8)).2.1.d.wayHere]) (fun _ => True) (.cons rfl (.cons rfl (.nil _))) (.keep (.keep (.nil))) ?_ ?_
 ·refine au (fun j => match j with | 16 => none | _ => some []) ?_
  refine Rb 0 rfl Qp ?_
  refine Rb 1 rfl Qp ?_
  refine Rb 2 rfl Qp ?_
  refine Rb 3 rfl Q1 ?_
  refine Rb 4 rfl Qp ?_
  refine Rb 5 rfl Q1 ?_
  refine Rb 6 rfl Qp ?_
  refine Rb 7 rfl Q1 ?_
  refine Rb 8 rfl Qp ?_
  refine fu 9 14 Kr ?_ ?_
  ·refine cJ (hZ y7 w1.mail x1.n (x1.kind == 8)) (.an rfl rfl) (ac rfl) rfl rfl rfl Kr rfl rfl Sm ?_
   intro x10
   refine Ra 10 rfl Qp ?_
   refine Ra 11 rfl Qp ?_
   refine Ra 12 rfl Qp ?_
   refine ra_p (.an (i := 13) (js := [14, 15, 16]) rfl Kr Kr Kr Kr) rfl rfl rfl (q_pev rfl Zf) ?_
   refine ap 14 Kr ?_
   refine di (.an rfl rfl) (ac rfl) rfl rfl rfl rfl fun g3 => ?_
   refine Ra 15 rfl Qp ?_
   refine ap 16 Kr ?_
   refine cY (.lo [g3] rfl rfl) (.inr (by simp)) (ac rfl) rfl rfl rfl rfl rfl rfl rfl rfl rfl Ub rfl ?_
   refine Ra 17 rfl Qp ?_
   refine bn Kr ?_
   refine ⟨⟨x10.1, g3, x10.2.1, x10.2.2.1, x10.2.2.2.1, x10.2.2.2.2.1, x10.2.2.2.2.2.1, x10.2.2.2.2.2.2.1, x10.2.2.2.2.2.2.2⟩, trivial, Le4⟩
  ·refine di (.an rfl rfl) (ac rfl) rfl rfl rfl rfl fun g4 => ?_
   refine ap 9 Kr ?_
   refine cJ (hZ y7 w1.mail x1.n (x1.kind == 8)) (.an rfl rfl) (ac rfl) rfl rfl rfl Kr rfl rfl Sm ?_
   intro x11
   refine Ra 10 rfl Qp ?_
   refine Ra 11 rfl Qp ?_
   refine Ra 12 rfl Qp ?_
   refine ra_p (.an (i := 13) (js := [15, 16]) rfl Kr Kr Kr Kr) rfl rfl rfl (q_pev rfl Zf) ?_
   refine Ra 15 rfl Qp ?_
   refine ap 16 Kr ?_
   refine cY (.lo [g4] rfl rfl) (.inr (by simp)) (ac rfl) rfl rfl rfl rfl rfl rfl rfl rfl rfl Ub rfl ?_
   refine Ra 17 rfl Qp ?_
   refine bn Kr ?_
   refine ⟨⟨x11.1, g4, x11.2.1, x11.2.2.1, x11.2.2.2.1, x11.2.2.2.2.1, x11.2.2.2.2.2.1, x11.2.2.2.2.2.2.1, x11.2.2.2.2.2.2.2⟩, trivial, Le4⟩
 ·rintro ⟨x2, g2, x3, x4, x5, x6, x7, x8, x9⟩ -
  simp only [List.cons_append, List.nil_append]
  generalize hS1 : (aA w1.mail x1.n (x1.kind == 8)) = S1
  refine Tx ?_
  refine Cd (b := (S1.2.2 != 0)) (fun hc1 => ?_) fun hc1 => ?_
  ·have hc1p := bne_iff_ne.1 hc1
   refine Tx ?_
   refine ai ?_; simp only [cj, hS1, hc1, Cf]; exact Re ⟨y1, y2, y3, y4, y5, y6, y6b, γ1, y7⟩ (Vt Vn)
  ·have hc1p := ae hc1
   have htw := tZ hS1 (ae hc1)
   refine Tx ?_
   refine Cd (b := (S1.2.1.kind != 1)) (fun hc2 => ?_) fun hc2 => ?_
   ·have hc2p := bne_iff_ne.1 hc2
    (repeat refine ao ?_)
    refine gp [0, 4, 5, 6] [true, true, true] (fun (i_ : Nat × SlV × SlV × SlV × SlV) => match i_ with | ⟨g5, x12, x13, x14, x15⟩ => [(8, .v (.pointer (some ⟨g5, 0, none⟩))), (9, .v (.int .i64 (aL (gt w1.c S1.2.1.who.toNat) S1.2.1.who S1.2.1).2))]) (fun (i_ : Nat × SlV × SlV × SlV × SlV) => match i_ with | ⟨g5, x12, x13, x14, x15⟩ => [⟨g5, 61, [.int .i64 (aL (gt w1.c S1.2.1.who.toNat) S1.2.1.who S1.2.1).1.life, .int .i64 (aL (gt w1.c S1.2.1.who.toNat) S1.2.1.who S1.2.1).1.time, .int .i64 (aL (gt w1.c S1.2.1.who.toNat) S1.2.1.who S1.2.1).1.seq, x12.val (aL (gt w1.c S1.2.1.who.toNat) S1.2.1.who S1.2.1).1.pending.length, .int .i64 (aL (gt w1.c S1.2.1.who.toNat) S1.2.1.who S1.2.1).1.version, x13.val (aL (gt w1.c S1.2.1.who.toNat) S1.2.1.who S1.2.1).1.v.roots.length, x14.val (aL (gt w1.c S1.2.1.who.toNat) S1.2.1.who S1.2.1).1.v.known.length, x15.val (aL (gt w1.c S1.2.1.who.toNat) S1.2.1.who S1.2.1).1.v.way.length]⟩]) (fun (i_ : Nat × SlV × SlV × SlV × SlV) => match i_ with | ⟨g5, x12, x13, x14, x15⟩ => [ownL NClient.E 61 y6 y6b (zipG γ1 0 w1.c)]) (fun (i_ : Nat × SlV × SlV × SlV × SlV) => match i_ with | ⟨g5, x12, x13, x14, x15⟩ => [RdL EOp x12 (aL (gt w1.c S1.2.1.who.toNat) S1.2.1.who S1.2.1).1.pending, RdL EInt x13 (aL (gt w1.c S1.2.1.who.toNat) S1.2.1.who S1.2.1).1.v.roots, RdL EPlace x14 (aL (gt w1.c S1.2.1.who.toNat) S1.2.1.who S1.2.1).1.v.known, RdL EPlace x15 (aL (gt w1.c S1.2.1.who.toNat) S1.2.1.who S1.2.1).1.v.way]) (fun _ => True) (.cons rfl (.cons rfl (.cons rfl (.cons rfl (.nil _))))) (.keep (.keep (.keep (.nil)))) ?_ ?_
    ·refine au (fun j => match j with | 16 => none | _ => some []) ?_
     refine Rb 0 rfl Qp ?_
     refine Rb 1 rfl Qp ?_
     refine Rb 2 rfl Qp ?_
     refine Rb 3 rfl Q1 ?_
     refine Rb 4 rfl Qp ?_
     refine Rb 5 rfl Q1 ?_
     refine rw_qO NClient.E (e := 61) (X := y6) (b := y6b) (l := zipG γ1 0 w1.c) Mm (.ab (i := 6) (js := [8, 9, 10, 15]) [7, 11, 12, 13, 14, 16, 17] rfl Kr Kr Kr Kr Kr) rfl rfl rfl (dw NClient γ1 S1.2.1.who.toNat rfl rfl Zf rfl Zf rfl rfl rfl (.head _) rfl Zo Za) ?_
     refine rw_qO NClient.E (e := 61) (X := y6) (b := y6b) (l := zipG γ1 0 w1.c) Mm (.ab (i := 7) (js := [8, 9, 10, 15]) [11, 12, 13, 14, 16, 17] rfl Kr Kr Kr Kr Kr) rfl rfl rfl (q_is (v' := .agg ⟨[.int .i64 (gt w1.c S1.2.1.who.toNat).life, .int .i64 (gt w1.c S1.2.1.who.toNat).time, .int .i64 (gt w1.c S1.2.1.who.toNat).seq, (γ1 S1.2.1.who.toNat).1.val (gt w1.c S1.2.1.who.toNat).pending.length, .int .i64 (gt w1.c S1.2.1.who.toNat).version, (γ1 S1.2.1.who.toNat).2.1.val (gt w1.c S1.2.1.who.toNat).v.roots.length, (γ1 S1.2.1.who.toNat).2.2.1.val (gt w1.c S1.2.1.who.toNat).v.known.length, (γ1 S1.2.1.who.toNat).2.2.2.val (gt w1.c S1.2.1.who.toNat).v.way.length]⟩) (fP NClient γ1 rfl rfl Zf rfl rfl (.head _) Za) rfl) ?_
     refine aI (F := RdL EOp (γ1 S1.2.1.who.toNat).1 (gt w1.c S1.2.1.who.toNat).pending) [am NClient γ1 w1.c] Sm (fun M w h => (allF1 h) S1.2.1.who.toNat Zc _ (.head _)) ?_
     refine aI (F := RdL EInt (γ1 S1.2.1.who.toNat).2.1 (gt w1.c S1.2.1.who.toNat).v.roots) [am NClient γ1 w1.c] Sm (fun M w h => (allF1 h) S1.2.1.who.toNat Zc _ (.tail _ (.head _))) ?_
     refine aI (F := RdL EPlace (γ1 S1.2.1.who.toNat).2.2.1 (gt w1.c S1.2.1.who.toNat).v.known) [am NClient γ1 w1.c] Sm (fun M w h => (allF1 h) S1.2.1.who.toNat Zc _ (.tail _ (.tail _ (.head _)))) ?_
     refine aI (F := RdL EPlace (γ1 S1.2.1.who.toNat).2.2.2 (gt w1.c S1.2.1.who.toNat).v.way) [am NClient γ1 w1.c] Sm (fun M w h => (allF1 h) S1.2.1.who.toNat Zc _ (.tail _ (.tail _ (.tail _ (.head _))))) ?_
     refine Rb 8 rfl Qp ?_
     refine Rb 9 rfl Q1 ?_
     refine Rb 10 rfl (q_ldA rfl rfl Zf rfl Mm rfl) ?_
     refine fu 11 15 Kr ?_ ?_
     ·refine cJ (kk (γ1 S1.2.1.who.toNat).1 (γ1 S1.2.1.who.toNat).2.1 (γ1 S1.2.1.who.toNat).2.2.1 (γ1 S1.2.1.who.toNat).2.2.2 (gt w1.c S1.2.1.who.toNat) S1.2.1.who x3 x4 x5 x6 x7 x8 x9 S1.2.1) (.an rfl rfl) (ac rfl) rfl rfl rfl Kr rfl rfl Sm ?_
      intro x16
      refine Ra 12 rfl Qp ?_
      refine Ra 13 rfl Qp ?_
      refine ra_p (.an (i := 14) (js := [15, 16]) rfl Kr Kr Kr Kr) rfl rfl rfl (q_pev rfl Zf) ?_
      refine ap 15 Kr ?_
      refine di (.an rfl rfl) (ac rfl) rfl rfl rfl rfl fun g6 => ?_
      refine ap 16 Kr ?_
      refine cY (.lo [g6] rfl rfl) (.inr (by simp)) (ac rfl) rfl rfl rfl rfl rfl rfl rfl rfl rfl Ub rfl ?_
      refine Ra 17 rfl Qp ?_
      refine bn Kr ?_
      refine ⟨⟨g6, x16.1, x16.2.1, x16.2.2.1, x16.2.2.2⟩, trivial, Le4⟩
     ·refine di (.an rfl rfl) (ac rfl) rfl rfl rfl rfl fun g7 => ?_
      refine ap 11 Kr ?_
      refine cJ (kk (γ1 S1.2.1.who.toNat).1 (γ1 S1.2.1.who.toNat).2.1 (γ1 S1.2.1.who.toNat).2.2.1 (γ1 S1.2.1.who.toNat).2.2.2 (gt w1.c S1.2.1.who.toNat) S1.2.1.who x3 x4 x5 x6 x7 x8 x9 S1.2.1) (.an rfl rfl) (ac rfl) rfl rfl rfl Kr rfl rfl Sm ?_
      intro x17
      refine Ra 12 rfl Qp ?_
      refine Ra 13 rfl Qp ?_
      refine ra_p (.an (i := 14) (js := [16]) rfl Kr Kr Kr Kr) rfl rfl rfl (q_pev rfl Zf) ?_
      refine ap 16 Kr ?_
      refine cY (.lo [g7] rfl rfl) (.inr (by simp)) (ac rfl) rfl rfl rfl rfl rfl rfl rfl rfl rfl Ub rfl ?_
      refine Ra 17 rfl Qp ?_
      refine bn Kr ?_
      refine ⟨⟨g7, x17.1, x17.2.1, x17.2.2.1, x17.2.2.2⟩, trivial, Le4⟩
    ·rintro ⟨g5, x12, x13, x14, x15⟩ -
     simp only [List.cons_append, List.nil_append]
     generalize hS2 : (aL (gt w1.c S1.2.1.who.toNat) S1.2.1.who S1.2.1) = S2
     refine Tx ?_
     refine Cd (b := (S2.2 == 0)) (fun hc3 => ?_) fun hc3 => ?_
     ·have hc3p := eq_of_beq hc3
      (repeat refine ao ?_); refine au (fun j => match j with | 10 => none | 13 => none | _ => some []) ?_
      refine Rb 0 rfl Qp ?_
      refine Rb 1 rfl Qp ?_
      refine Ra 2 rfl Qp ?_
      refine Ra 3 rfl Q1 ?_
      refine Ra 4 rfl Qp ?_
      refine Ra 5 rfl Q1 ?_
      refine ra_p (.an (i := 6) (js := [7, 8, 9, 10]) rfl Kr Kr Kr Kr) rfl rfl rfl (q_pev rfl Zf) ?_
      refine Ra 7 rfl (q_ldA rfl rfl Zf rfl Mm rfl) ?_
      refine ra_p (.an (i := 8) (js := [9, 10]) rfl Kr Kr Kr Kr) rfl rfl rfl (q_pev rfl Zf) ?_
      refine rw_qO NClient.E (e := 61) (X := y6) (b := y6b) (l := zipG γ1 0 w1.c) Mm (.an (i := 9) (js := []) rfl Kr Kr Kr Kr) rfl rfl rfl (dw NClient γ1 S1.2.1.who.toNat rfl rfl Zf rfl Zf rfl rfl rfl (.head _) rfl Zo Za) ?_
      refine ap 10 Kr ?_
      refine gf NClient γ1 w1.c S1.2.1.who.toNat 0 (x12, x13, x14, x15) S2.1 (e := 61) (X := y6) (b := y6b) (.lo y6b.toList rfl rfl) (.inr (fun g h => by simp [h])) (ac rfl) rfl rfl rfl rfl rfl rfl rfl rfl rfl rfl rfl Zb rfl Uo ?_
      refine aI (F := am NClient (updG γ1 S1.2.1.who.toNat (x12, x13, x14, x15)) (w1.c.set S1.2.1.who.toNat S2.1)) [am NClient γ1 w1.c, RdL EOp x12 S2.1.pending, RdL EInt x13 S2.1.v.roots, RdL EPlace x14 S2.1.v.known, RdL EPlace x15 S2.1.v.way] Sm (fun M w h => am.upd NClient (h _ (.head _)) (da Sm h)) ?_
      have hv1 : y6.val w1.c.length = y6.val (w1.c.set S1.2.1.who.toNat S2.1).length := congrArg (SlV.val y6) List.length_set.symm
      try rw [hv1]
      refine Rb 11 rfl Qp ?_
      refine Ra 12 rfl Qp ?_
      refine ap 13 Kr ?_
      refine ew (.lo [c1] rfl rfl) (.inr (by simp)) (ac rfl) rfl rfl rfl rfl rfl rfl rfl rfl rfl Ub rfl ?_
      refine bn Kr ?_
      refine Tx ?_
      refine ai ?_; simp only [cj, hS1, hc1, hc2, hS2, hc3, Cf]; exact Re ⟨y1, y2, y3, y4, y5, y6, y6b, (updG γ1 S1.2.1.who.toNat (x12, x13, x14, x15)), x2⟩ (Vt Vn)
     ·have hc3p := ne_of_beq_false hc3
      refine Tx ?_
      refine ai ?_; simp only [cj, hS1, hc1, hc2, hS2, hc3, Cf]; exact Re ⟨y1, y2, y3, y4, y5, y6, y6b, γ1, y7⟩ (Vt Vn)
   ·have hc2p := ae hc2
    refine Tx ?_
    refine Cd (b := (!w1.up)) (fun hc4 => ?_) fun hc4 => ?_
    ·refine Tx ?_
     refine ai ?_; simp only [cj, hS1, hc1, hc2, hc4, Cf]; exact Re ⟨y1, y2, y3, y4, y5, y6, y6b, γ1, y7⟩ (Vt Vn)
    ·refine Tx ?_
     refine Fr EInt ?_
     refine aV (gO c1 y1 y2 y3 y4 y5 y6 y6b γ1 x2 (⟨w1.h, w1.d, w1.up, w1.c, S1.1⟩ : Wld) (⟨none, 0⟩ : SlV) (⟨1, 0, 0, ([] : List Int), S1.2.1.o⟩ : Rec)) .sq (.inl ⟨_, rfl⟩) (ac rfl) rfl rfl rfl Kr rfl rfl Sm Tk Tk ?_
     intro x18
     generalize hS3 : (ba (⟨w1.h, w1.d, w1.up, w1.c, S1.1⟩ : Wld) (⟨1, 0, 0, ([] : List Int), S1.2.1.o⟩ : Rec)) = S3
     refine Tx ?_
     refine ai ?_; simp only [cj, hS1, hc1, hc2, hc4, hS3, Cf]; exact Re ⟨x18.1, x18.2.1, x18.2.2.1, x18.2.2.2.1, x18.2.2.2.2.1, x18.2.2.2.2.2.1, x18.2.2.2.2.2.2.1, x18.2.2.2.2.2.2.2.1, x18.2.2.2.2.2.2.2.2⟩ (Vt Vn)
def bR (w1 : Wld) (x1 : Happening) : Int × Wld :=
 (bif (w1.up == (x1.kind == 11)) then (7, w1) else (bif (x1.kind == 10) then (0, (⟨b8, w1.d, false, w1.c, w1.mail⟩ : Wld)) else (bif ((al w1.d).2.2 != 0) then ((al w1.d).2.2, w1) else (bif ((aq (al w1.d).2.1).2 == 0) then ((aq (al w1.d).2.1).2, (⟨(aq (al w1.d).2.1).1, (al w1.d).1, true, w1.c, w1.mail⟩ : Wld)) else ((aq (al w1.d).2.1).2, w1)))))
theorem kb (c1 : Nat) (y1 : SlV) (y2 : SlV) (y3 : SlV) (y4 : SlV) (y5 : SlV) (y6 : SlV) (y6b : Option Nat) (γ1 : Nat → SlV × SlV × SlV × SlV) (y7 : SlV) (w1 : Wld) (y8 : SlV) (x1 : Happening) : DoesG Tryz.prog 66 [.pointer (some ⟨c1, 0, none⟩), .agg ⟨[.int .i64 x1.kind, .int .i64 x1.who, .int .i64 x1.n, .int .i64 x1.node, .int .i64 x1.parent, .int .i64 x1.name, y8.val x1.roots.length]⟩] [RdL EStep y1 w1.h.h.l, RdL EPlace y2 w1.h.h.t, RdN NPeer y3 w1.h.peers, RdL EByte y4 w1.d.safe, RdL EByte y5 w1.d.wait, am NClient γ1 w1.c, RdN NMail y7 w1.mail, RdL EInt y8 x1.roots, LibP Tryz.prog] ⟨[⟨c1, 39, [y1.val w1.h.h.l.length, y2.val w1.h.h.t.length, .int .i64 w1.h.version, y3.val w1.h.peers.length, y4.val w1.d.safe.length, y5.val w1.d.wait.length, .bool w1.up, y6.val w1.c.length, y7.val w1.mail.length]⟩], [ownL NClient.E 61 y6 y6b (zipG γ1 0 w1.c)]⟩ (fun (X : SlV × SlV × SlV × SlV × SlV × SlV × Option Nat × (Nat → SlV × SlV × SlV × SlV) × SlV) => .int .i64 (bR w1 x1).1) (fun X => [RdL EStep X.1 (bR w1 x1).2.h.h.l, RdL EPlace X.2.1 (bR w1 x1).2.h.h.t, RdN NPeer X.2.2.1 (bR w1 x1).2.h.peers, RdL EByte X.2.2.2.1 (bR w1 x1).2.d.safe, RdL EByte X.2.2.2.2.1 (bR w1 x1).2.d.wait, am NClient X.2.2.2.2.2.2.2.1 (bR w1 x1).2.c, RdN NMail X.2.2.2.2.2.2.2.2 (bR w1 x1).2.mail]) (fun X => ⟨[⟨c1, 39, [X.1.val (bR w1 x1).2.h.h.l.length, X.2.1.val (bR w1 x1).2.h.h.t.length, .int .i64 (bR w1 x1).2.h.version, X.2.2.1.val (bR w1 x1).2.h.peers.length, X.2.2.2.1.val (bR w1 x1).2.d.safe.length, X.2.2.2.2.1.val (bR w1 x1).2.d.wait.length, .bool (bR w1 x1).2.up, X.2.2.2.2.2.1.val (bR w1 x1).2.c.length, X.2.2.2.2.2.2.2.2.val (bR w1 x1).2.mail.length]⟩], [ownL NClient.E 61 X.2.2.2.2.2.1 X.2.2.2.2.2.2.1 (zipG X.2.2.2.2.2.2.2.1 0 (bR w1 x1).2.c)]⟩) := by
 refine co aZ Tryz.func66 rfl Tryz.ntmps66 Tryz.results66 rfl inferInstance (fun _ => inferInstance) fun C => ?_
 refine Pc EInt y8 x1.roots 8 fun hlen1 => ?_
 refine Tx ?_
 refine Bx fun g1 => ?_
 refine Tx ?_
 (repeat refine ao ?_); refine au (fun _ => some []) ?_
 refine Rb 0 rfl Qp ?_
 refine Rb 1 rfl Qp ?_
 refine Rb 2 rfl Qp ?_
 refine Ra 3 rfl Q1 ?_
 refine Rb 4 rfl Qp ?_
 refine Rb 5 rfl Q1 ?_
 refine Ra 6 rfl Qp ?_
 refine Ra 7 rfl (q_eqb und_4 rfl rfl Zf rfl Zf) ?_
 refine bn Kr ?_
 (repeat refine ao ?_)
 refine Cd (b := (w1.up == (x1.kind == 11))) (fun hc1 => ?_) fun hc1 => ?_
 ·have hc1p := eq_of_beq hc1
  refine Tx ?_
  refine ai ?_; simp only [bR, hc1, Cf]; exact Re ⟨y1, y2, y3, y4, y5, y6, y6b, γ1, y7⟩ (Vt Vn)
 ·have hc1p := ne_of_beq_false hc1
  refine Tx ?_
  refine Cd (b := (x1.kind == 10)) (fun hc2 => ?_) fun hc2 => ?_
  ·have hc2p := eq_of_beq hc2
   refine Tx ?_
   refine Cl (iV ) fun x2 => ?_
   refine Tx ?_
   refine eS .sq (.inl ⟨_, rfl⟩) (ac rfl) rfl rfl rfl rfl rfl rfl rfl rfl rfl Ub rfl ?_
   refine Tx ?_
   refine ai ?_; simp only [bR, hc1, hc2, Cf]; exact Re ⟨x2.1, x2.2.1, x2.2.2, y4, y5, y6, y6b, γ1, y7⟩ (Vt Vn)
  ·have hc2p := ne_of_beq_false hc2
   refine Tx ?_
   refine Cl (eP y4 y5 w1.d) fun x3 => ?_
   refine Tx ?_
   refine Al fun g2 => ?_
   refine Tx ?_
   refine Cd (b := ((al w1.d).2.2 != 0)) (fun hc3 => ?_) fun hc3 => ?_
   ·have hc3p := bne_iff_ne.1 hc3
    refine Tx ?_
    refine ai ?_; simp only [bR, hc1, hc2, hc3, Cf]; exact Re ⟨y1, y2, y3, y4, y5, y6, y6b, γ1, y7⟩ (Vt Vn)
   ·have hc3p := ae hc3
    refine Tx ?_
    refine Cl (fx x3.2.2 (al w1.d).2.1) fun x4 => ?_
    generalize hS1 : (aq (al w1.d).2.1) = S1
    refine Tx ?_
    refine Al fun g3 => ?_
    refine Tx ?_
    refine Cd (b := (S1.2 == 0)) (fun hc4 => ?_) fun hc4 => ?_
    ·have hc4p := eq_of_beq hc4
     (repeat refine ao ?_); refine au (fun j => match j with | 7 => none | 10 => none | 13 => none | _ => some []) ?_
     refine Ra 0 rfl Qp ?_
     refine ra_p (.an (i := 1) (js := [2, 3, 4, 5, 6, 7]) rfl Kr Kr Kr Kr) rfl rfl rfl (q_pev rfl Zf) ?_
     refine ra_p (.an (i := 2) (js := [3, 4, 5, 6, 7, 8, 9, 10]) rfl Kr Kr Kr Kr) rfl rfl rfl (q_pev rfl Zf) ?_
     refine Ra 3 rfl (q_ldA rfl rfl Zf rfl Mm rfl) ?_
     refine Rb 5 rfl Qp ?_
     refine Ra 6 rfl Qp ?_
     refine fu 4 7 Kr ?_ ?_
     ·refine tg rfl rfl rfl rfl (q_ldA rfl rfl Zf rfl Mm rfl) ?_
      refine ap 7 Kr ?_
      refine eS (.lo [c1] rfl rfl) (.inr (by simp)) (ac rfl) rfl rfl rfl rfl rfl rfl rfl rfl rfl Ub rfl ?_
      refine Rb 8 rfl Qp ?_
      refine Ra 9 rfl Qp ?_
      refine ap 10 Kr ?_
      refine eS (.lo [c1] rfl rfl) (.inr (by simp)) (ac rfl) rfl rfl rfl rfl rfl rfl rfl rfl rfl Ub rfl ?_
      refine Rb 11 rfl Qp ?_
      refine Ra 12 rfl Qp ?_
      refine ap 13 Kr ?_
      refine ew (.lo [c1] rfl rfl) (.inr (by simp)) (ac rfl) rfl rfl rfl rfl rfl rfl rfl rfl rfl Ub rfl ?_
      refine bn Kr ?_
      refine Tx ?_
      refine ai ?_; simp only [bR, hc1, hc2, hc3, hS1, hc4, Cf]; exact Re ⟨x4.1, x4.2.1, x4.2.2, x3.1, x3.2.1, y6, y6b, γ1, y7⟩ (Vt Vn)
     ·refine eS (.lo [c1] rfl rfl) (.inr (by simp)) (ac rfl) rfl rfl rfl rfl rfl rfl rfl rfl rfl Ub rfl ?_
      refine Ra 4 rfl (q_ldA rfl rfl Zf rfl Mm rfl) ?_
      refine Rb 8 rfl Qp ?_
      refine Ra 9 rfl Qp ?_
      refine ap 10 Kr ?_
      refine eS (.lo [c1] rfl rfl) (.inr (by simp)) (ac rfl) rfl rfl rfl rfl rfl rfl rfl rfl rfl Ub rfl ?_
      refine Rb 11 rfl Qp ?_
      refine Ra 12 rfl Qp ?_
      refine ap 13 Kr ?_
      refine ew (.lo [c1] rfl rfl) (.inr (by simp)) (ac rfl) rfl rfl rfl rfl rfl rfl rfl rfl rfl Ub rfl ?_
      refine bn Kr ?_
      refine Tx ?_
      refine ai ?_; simp only [bR, hc1, hc2, hc3, hS1, hc4, Cf]; exact Re ⟨x4.1, x4.2.1, x4.2.2, x3.1, x3.2.1, y6, y6b, γ1, y7⟩ (Vt Vn)
    ·have hc4p := ne_of_beq_false hc4
     refine Tx ?_
     refine ai ?_; simp only [bR, hc1, hc2, hc3, hS1, hc4, Cf]; exact Re ⟨y1, y2, y3, y4, y5, y6, y6b, γ1, y7⟩ (Vt Vn)
def aH (w1 : Wld) (x1 : Happening) : Int × Wld :=
 (bif (decide (x1.who < 0) || decide (x1.who ≥ (w1.c.length : Int))) then (5, w1) else (bif (x1.kind == 1) then (bif ((bz (gt w1.c x1.who.toNat) x1.who x1.node x1.parent x1.name).2.2 != 0) then ((bz (gt w1.c x1.who.toNat) x1.who x1.node x1.parent x1.name).2.2, w1) else (0, (ce (⟨w1.h, w1.d, w1.up, (w1.c.set x1.who.toNat (bz (gt w1.c x1.who.toNat) x1.who x1.node x1.parent x1.name).1), w1.mail⟩ : Wld) (⟨1, x1.who, 0, 0, 0, 0, 0, (bz (gt w1.c x1.who.toNat) x1.who x1.node x1.parent x1.name).2.1, (⟨[], [], []⟩ : View), (⟨[], [], [], []⟩ : Delta)⟩ : Mail)))) else (bif (x1.kind == 2) then (bif (decide (x1.n < 0) || decide (x1.n ≥ ((gt w1.c x1.who.toNat).pending.length : Int))) then (5, w1) else (0, (ce w1 (⟨1, x1.who, 0, 0, 0, 0, 0, (gt (gt w1.c x1.who.toNat).pending x1.n.toNat), (⟨[], [], []⟩ : View), (⟨[], [], [], []⟩ : Delta)⟩ : Mail)))) else (bif (!w1.up) then (7, w1) else (bif (x1.kind == 6) then ((cw w1 x1.who).1, (cw w1 x1.who).2) else (bif (x1.kind == 5) then ((ba w1 (⟨3, x1.who, 0, x1.roots, (⟨0, 0, 0, 0, 0, 0, 0⟩ : Op)⟩ : Rec)).1, (ba w1 (⟨3, x1.who, 0, x1.roots, (⟨0, 0, 0, 0, 0, 0, 0⟩ : Op)⟩ : Rec)).2) else ((b4 w1 x1).1, (b4 w1 x1).2)))))))
theorem dV (c1 : Nat) (y1 : SlV) (y2 : SlV) (y3 : SlV) (y4 : SlV) (y5 : SlV) (y6 : SlV) (y6b : Option Nat) (γ1 : Nat → SlV × SlV × SlV × SlV) (y7 : SlV) (w1 : Wld) (y8 : SlV) (x1 : Happening) (hk : cu w1.h = 0) (hc : w1.c.length = 3) (hv : w1.up = true → w1.h.version ≤ ((al w1.d).2.1.length : Int)) : DoesG Tryz.prog 67 [.pointer (some ⟨c1, 0, none⟩), .agg ⟨[.int .i64 x1.kind, .int .i64 x1.who, .int .i64 x1.n, .int .i64 x1.node, .int .i64 x1.parent, .int .i64 x1.name, y8.val x1.roots.length]⟩] [RdL EStep y1 w1.h.h.l, RdL EPlace y2 w1.h.h.t, RdN NPeer y3 w1.h.peers, RdL EByte y4 w1.d.safe, RdL EByte y5 w1.d.wait, am NClient γ1 w1.c, RdN NMail y7 w1.mail, RdL EInt y8 x1.roots, LibP Tryz.prog] ⟨[⟨c1, 39, [y1.val w1.h.h.l.length, y2.val w1.h.h.t.length, .int .i64 w1.h.version, y3.val w1.h.peers.length, y4.val w1.d.safe.length, y5.val w1.d.wait.length, .bool w1.up, y6.val w1.c.length, y7.val w1.mail.length]⟩], [ownL NClient.E 61 y6 y6b (zipG γ1 0 w1.c)]⟩ (fun (X : SlV × SlV × SlV × SlV × SlV × SlV × Option Nat × (Nat → SlV × SlV × SlV × SlV) × SlV) => .int .i64 (aH w1 x1).1) (fun X => [RdL EStep X.1 (aH w1 x1).2.h.h.l, RdL EPlace X.2.1 (aH w1 x1).2.h.h.t, RdN NPeer X.2.2.1 (aH w1 x1).2.h.peers, RdL EByte X.2.2.2.1 (aH w1 x1).2.d.safe, RdL EByte X.2.2.2.2.1 (aH w1 x1).2.d.wait, am NClient X.2.2.2.2.2.2.2.1 (aH w1 x1).2.c, RdN NMail X.2.2.2.2.2.2.2.2 (aH w1 x1).2.mail]) (fun X => ⟨[⟨c1, 39, [X.1.val (aH w1 x1).2.h.h.l.length, X.2.1.val (aH w1 x1).2.h.h.t.length, .int .i64 (aH w1 x1).2.h.version, X.2.2.1.val (aH w1 x1).2.h.peers.length, X.2.2.2.1.val (aH w1 x1).2.d.safe.length, X.2.2.2.2.1.val (aH w1 x1).2.d.wait.length, .bool (aH w1 x1).2.up, X.2.2.2.2.2.1.val (aH w1 x1).2.c.length, X.2.2.2.2.2.2.2.2.val (aH w1 x1).2.mail.length]⟩], [ownL NClient.E 61 X.2.2.2.2.2.1 X.2.2.2.2.2.2.1 (zipG X.2.2.2.2.2.2.2.1 0 (aH w1 x1).2.c)]⟩) := by
 refine co aZ Tryz.func67 rfl Tryz.ntmps67 Tryz.results67 rfl inferInstance (fun _ => inferInstance) fun C => ?_
 refine Pc EInt y8 x1.roots 8 fun hlen1 => ?_
 refine Tx ?_
 refine Bx fun g1 => ?_
 refine Tx ?_
 (repeat refine ao ?_); refine au (fun _ => some []) ?_
 refine Rb 0 rfl Qp ?_
 refine Rb 1 rfl Q1 ?_
 refine Rb 2 rfl Qp ?_
 refine Ra 3 rfl Qp ?_
 refine Gb 4 rfl (aB rfl rfl rfl) (q_pev rfl Bt) ?_
 refine Gb 5 rfl (aB rfl rfl rfl) (q_ld1 rfl rfl Bt rfl Mm rfl) ?_
 refine Gb 6 rfl (aB rfl rfl rfl) (q_pev rfl Bt) ?_
 refine Gb 7 rfl (aB rfl rfl rfl) (q_pev rfl Bt) ?_
 refine Gb 8 rfl (aB rfl rfl rfl) (q_pev rfl Bt) ?_
 refine Gb 9 rfl (aB rfl rfl rfl) (q_ld1 rfl rfl Bt rfl Mm rfl) ?_
 refine Gb 10 rfl (aB rfl rfl rfl) (q_pev rfl Bt) ?_
 refine Ga 11 rfl (aB rfl rfl rfl) (q_pev rfl Bt) ?_
 refine Ra 12 rfl (q_pev rfl Bt) ?_
 refine bn Kr ?_
 (repeat refine ao ?_)
 refine Cd (b := (decide (x1.who < 0) || decide (x1.who ≥ (w1.c.length : Int)))) (fun hc1 => ?_) fun hc1 => ?_
 ·refine Tx ?_
  refine ai ?_; simp only [aH, hc1, Cf]; exact Re ⟨y1, y2, y3, y4, y5, y6, y6b, γ1, y7⟩ (Vt Vn)
 ·have hwr := hc1
  simp only [Bool.or_eq_false_iff, decide_eq_false_iff_not] at hwr
  refine Tx ?_
  (repeat refine ao ?_); refine au (fun j => match j with | 9 => none | _ => some []) ?_
  refine Rb 0 rfl Qp ?_
  refine Rb 1 rfl Qp ?_
  refine Rb 2 rfl Qp ?_
  refine Rb 3 rfl Q1 ?_
  refine Rb 4 rfl Qp ?_
  refine Rb 5 rfl Q1 ?_
  refine rw_qO NClient.E (e := 61) (X := y6) (b := y6b) (l := zipG γ1 0 w1.c) Mm (.an (i := 6) (js := [8]) rfl Kr Kr Kr Kr) rfl rfl rfl (dw NClient γ1 x1.who.toNat rfl rfl Zf rfl Zf rfl rfl rfl (.head _) rfl Zo Za) ?_
  refine rw_qO NClient.E (e := 61) (X := y6) (b := y6b) (l := zipG γ1 0 w1.c) Mm (.an (i := 7) (js := [8]) rfl Kr Kr Kr Kr) rfl rfl rfl (q_is (v' := .agg ⟨[.int .i64 (gt w1.c x1.who.toNat).life, .int .i64 (gt w1.c x1.who.toNat).time, .int .i64 (gt w1.c x1.who.toNat).seq, (γ1 x1.who.toNat).1.val (gt w1.c x1.who.toNat).pending.length, .int .i64 (gt w1.c x1.who.toNat).version, (γ1 x1.who.toNat).2.1.val (gt w1.c x1.who.toNat).v.roots.length, (γ1 x1.who.toNat).2.2.1.val (gt w1.c x1.who.toNat).v.known.length, (γ1 x1.who.toNat).2.2.2.val (gt w1.c x1.who.toNat).v.way.length]⟩) (fP NClient γ1 rfl rfl Zf rfl rfl (.head _) Za) rfl) ?_
  refine aI (F := RdL EOp (γ1 x1.who.toNat).1 (gt w1.c x1.who.toNat).pending) [am NClient γ1 w1.c] Sm (fun M w h => (allF1 h) x1.who.toNat Zc _ (.head _)) ?_
  refine aI (F := RdL EInt (γ1 x1.who.toNat).2.1 (gt w1.c x1.who.toNat).v.roots) [am NClient γ1 w1.c] Sm (fun M w h => (allF1 h) x1.who.toNat Zc _ (.tail _ (.head _))) ?_
  refine aI (F := RdL EPlace (γ1 x1.who.toNat).2.2.1 (gt w1.c x1.who.toNat).v.known) [am NClient γ1 w1.c] Sm (fun M w h => (allF1 h) x1.who.toNat Zc _ (.tail _ (.tail _ (.head _)))) ?_
  refine aI (F := RdL EPlace (γ1 x1.who.toNat).2.2.2 (gt w1.c x1.who.toNat).v.way) [am NClient γ1 w1.c] Sm (fun M w h => (allF1 h) x1.who.toNat Zc _ (.tail _ (.tail _ (.tail _ (.head _))))) ?_
  refine ap 8 Kr ?_
  refine di (.an rfl rfl) (ac rfl) rfl rfl rfl rfl fun g2 => ?_
  refine ap 9 Kr ?_
  refine cY (.lo [g2] rfl rfl) (.inr (by simp)) (ac rfl) rfl rfl rfl rfl rfl rfl rfl rfl rfl Ub rfl ?_
  refine bn Kr ?_
  refine Tx ?_
  refine Cd (b := (x1.kind == 1)) (fun hc2 => ?_) fun hc2 => ?_
  ·have hc2p := eq_of_beq hc2
   refine Tx ?_
   refine Cl (nc (γ1 x1.who.toNat).1 (γ1 x1.who.toNat).2.1 (γ1 x1.who.toNat).2.2.1 (γ1 x1.who.toNat).2.2.2 (gt w1.c x1.who.toNat) x1.who x1.node x1.parent x1.name) fun x2 => ?_
   generalize hS1 : (bz (gt w1.c x1.who.toNat) x1.who x1.node x1.parent x1.name) = S1
   refine Tx ?_
   refine Al fun g3 => ?_
   refine Al fun g4 => ?_
   refine Tx ?_
   refine Cd (b := (S1.2.2 != 0)) (fun hc3 => ?_) fun hc3 => ?_
   ·have hc3p := bne_iff_ne.1 hc3
    refine Tx ?_
    refine ai ?_; simp only [aH, hc1, hc2, hS1, hc3, Cf]; exact Re ⟨y1, y2, y3, y4, y5, y6, y6b, γ1, y7⟩ (Vt Vn)
   ·have hc3p := ae hc3
    refine Tx ?_
    (repeat refine ao ?_); refine au (fun j => match j with | 8 => none | _ => some []) ?_
    refine Rb 0 rfl Qp ?_
    refine Rb 1 rfl Qp ?_
    refine Ra 2 rfl Qp ?_
    refine Ra 3 rfl Q1 ?_
    refine Ra 4 rfl Qp ?_
    refine Ra 5 rfl Q1 ?_
    refine Ra 6 rfl (q_ldA rfl rfl Zf rfl Mm rfl) ?_
    refine rw_qO NClient.E (e := 61) (X := y6) (b := y6b) (l := zipG γ1 0 w1.c) Mm (.an (i := 7) (js := []) rfl Kr Kr Kr Kr) rfl rfl rfl (dw NClient γ1 x1.who.toNat rfl rfl Zf rfl Zf rfl rfl rfl (.head _) rfl Zo Za) ?_
    refine ap 8 Kr ?_
    refine gf NClient γ1 w1.c x1.who.toNat 0 (x2.1, x2.2.1, x2.2.2.1, x2.2.2.2) S1.1 (e := 61) (X := y6) (b := y6b) (.lo y6b.toList rfl rfl) (.inr (fun g h => by simp [h])) (ac rfl) rfl rfl rfl rfl rfl rfl rfl rfl rfl rfl rfl Zb rfl Uo ?_
    refine aI (F := am NClient (updG γ1 x1.who.toNat (x2.1, x2.2.1, x2.2.2.1, x2.2.2.2)) (w1.c.set x1.who.toNat S1.1)) [am NClient γ1 w1.c, RdL EOp x2.1 S1.1.pending, RdL EInt x2.2.1 S1.1.v.roots, RdL EPlace x2.2.2.1 S1.1.v.known, RdL EPlace x2.2.2.2 S1.1.v.way] Sm (fun M w h => am.upd NClient (h _ (.head _)) (da Sm h)) ?_
    have hv1 : y6.val w1.c.length = y6.val (w1.c.set x1.who.toNat S1.1).length := congrArg (SlV.val y6) List.length_set.symm
    try rw [hv1]
    refine bn Kr ?_
    refine Tx ?_
    refine Fr EInt ?_
    refine Fr EPlace ?_
    refine aV (f7 c1 y1 y2 y3 y4 y5 y6 y6b (updG γ1 x1.who.toNat (x2.1, x2.2.1, x2.2.2.1, x2.2.2.2)) y7 (⟨w1.h, w1.d, w1.up, (w1.c.set x1.who.toNat S1.1), w1.mail⟩ : Wld) (⟨none, 0⟩ : SlV) (⟨none, 0⟩ : SlV) (⟨none, 0⟩ : SlV) (⟨none, 0⟩ : SlV) (⟨none, 0⟩ : SlV) (⟨none, 0⟩ : SlV) (⟨none, 0⟩ : SlV) (⟨1, x1.who, 0, 0, 0, 0, 0, S1.2.1, (⟨[], [], []⟩ : View), (⟨[], [], [], []⟩ : Delta)⟩ : Mail)) .sq (.inl ⟨_, rfl⟩) (ac rfl) rfl rfl rfl Kr rfl rfl Sm Tk Tk ?_
    intro x3
    generalize hS2 : (ce (⟨w1.h, w1.d, w1.up, (w1.c.set x1.who.toNat S1.1), w1.mail⟩ : Wld) (⟨1, x1.who, 0, 0, 0, 0, 0, S1.2.1, (⟨[], [], []⟩ : View), (⟨[], [], [], []⟩ : Delta)⟩ : Mail)) = S2
    refine Tx ?_
    refine ai ?_; simp only [aH, hc1, hc2, hS1, hc3, hS2, Cf]; exact Re ⟨x3.1, x3.2.1, x3.2.2.1, x3.2.2.2.1, x3.2.2.2.2.1, x3.2.2.2.2.2.1, x3.2.2.2.2.2.2.1, x3.2.2.2.2.2.2.2.1, x3.2.2.2.2.2.2.2.2⟩ (Vt Vn)
  ·have hc2p := ne_of_beq_false hc2
   refine Tx ?_
   refine Cd (b := (x1.kind == 2)) (fun hc4 => ?_) fun hc4 => ?_
   ·have hc4p := eq_of_beq hc4
    refine Tx ?_
    refine Cd (b := (decide (x1.n < 0) || decide (x1.n ≥ ((gt w1.c x1.who.toNat).pending.length : Int)))) (fun hc5 => ?_) fun hc5 => ?_
    ·refine Tx ?_
     refine ai ?_; simp only [aH, hc1, hc2, hc4, hc5, Cf]; exact Re ⟨y1, y2, y3, y4, y5, y6, y6b, γ1, y7⟩ (Vt Vn)
    ·have hnr := hc5
     simp only [Bool.or_eq_false_iff, decide_eq_false_iff_not] at hnr
     refine Tx ?_
     (repeat refine ao ?_); refine au (fun j => match j with | 10 => none | _ => some []) ?_
     refine Ra 0 rfl Qp ?_
     refine Rb 1 rfl Qp ?_
     refine Rb 2 rfl Q1 ?_
     refine Rb 3 rfl Qp ?_
     refine Rb 4 rfl Q1 ?_
     refine Rb 5 rfl Qp ?_
     refine Rb 6 rfl Q1 ?_
     refine Rb 7 rfl (q_idx EOp x1.n.toNat rfl rfl Zf rfl Zf rfl rfl rfl Mm rfl Zo (fun _ => by first | assumption | omega)) ?_
     refine Rb 8 rfl (q_leA EOp rfl rfl Zf rfl rfl Mm (fun _ => by first | assumption | omega)) ?_
     refine Ra 9 rfl Qp ?_
     refine ap 10 Kr ?_
     refine Fr EInt ?_
     refine Fr EPlace ?_
     refine aV (f7 c1 y1 y2 y3 y4 y5 y6 y6b γ1 y7 w1 (⟨none, 0⟩ : SlV) (⟨none, 0⟩ : SlV) (⟨none, 0⟩ : SlV) (⟨none, 0⟩ : SlV) (⟨none, 0⟩ : SlV) (⟨none, 0⟩ : SlV) (⟨none, 0⟩ : SlV) (⟨1, x1.who, 0, 0, 0, 0, 0, (gt (gt w1.c x1.who.toNat).pending x1.n.toNat), (⟨[], [], []⟩ : View), (⟨[], [], [], []⟩ : Delta)⟩ : Mail)) (.lo _ rfl rfl) (.inr fun _ h => h) (ac rfl) rfl rfl rfl Kr rfl rfl Sm Tk Tk ?_
     intro x4
     generalize hS3 : (ce w1 (⟨1, x1.who, 0, 0, 0, 0, 0, (gt (gt w1.c x1.who.toNat).pending x1.n.toNat), (⟨[], [], []⟩ : View), (⟨[], [], [], []⟩ : Delta)⟩ : Mail)) = S3
     refine bn Kr ?_
     refine Tx ?_
     refine ai ?_; simp only [aH, hc1, hc2, hc4, hc5, hS3, Cf]; exact Re ⟨x4.1, x4.2.1, x4.2.2.1, x4.2.2.2.1, x4.2.2.2.2.1, x4.2.2.2.2.2.1, x4.2.2.2.2.2.2.1, x4.2.2.2.2.2.2.2.1, x4.2.2.2.2.2.2.2.2⟩ (Vt Vn)
   ·have hc4p := ne_of_beq_false hc4
    refine Tx ?_
    refine Cd (b := (!w1.up)) (fun hc6 => ?_) fun hc6 => ?_
    ·refine Tx ?_
     refine ai ?_; simp only [aH, hc1, hc2, hc4, hc6, Cf]; exact Re ⟨y1, y2, y3, y4, y5, y6, y6b, γ1, y7⟩ (Vt Vn)
    ·have hup : w1.up = true := (by simpa using hc6)
     refine Tx ?_
     refine Cd (b := (x1.kind == 6)) (fun hc7 => ?_) fun hc7 => ?_
     ·have hc7p := eq_of_beq hc7
      refine Tx ?_
      refine aV (m6 c1 y1 y2 y3 y4 y5 y6 y6b γ1 y7 w1 x1.who Zc Zc Zc) .sq (.inl ⟨_, rfl⟩) (ac rfl) rfl rfl rfl Kr rfl rfl Sm Tk Tk ?_
      intro x5
      refine Tx ?_
      refine ai ?_; simp only [aH, hc1, hc2, hc4, hc6, hc7, Cf]; exact Re ⟨x5.1, x5.2.1, x5.2.2.1, x5.2.2.2.1, x5.2.2.2.2.1, x5.2.2.2.2.2.1, x5.2.2.2.2.2.2.1, x5.2.2.2.2.2.2.2.1, x5.2.2.2.2.2.2.2.2⟩ (Vt Vn)
     ·have hc7p := ne_of_beq_false hc7
      refine Tx ?_
      refine Cd (b := (x1.kind == 5)) (fun hc8 => ?_) fun hc8 => ?_
      ·have hc8p := eq_of_beq hc8
       refine Tx ?_
       refine aV (gO c1 y1 y2 y3 y4 y5 y6 y6b γ1 y7 w1 y8 (⟨3, x1.who, 0, x1.roots, (⟨0, 0, 0, 0, 0, 0, 0⟩ : Op)⟩ : Rec)) .sq (.inl ⟨_, rfl⟩) (ac rfl) rfl rfl rfl Kr rfl rfl Sm Tk Tk ?_
       intro x6
       generalize hS4 : (ba w1 (⟨3, x1.who, 0, x1.roots, (⟨0, 0, 0, 0, 0, 0, 0⟩ : Op)⟩ : Rec)) = S4
       refine Tx ?_
       refine ai ?_; simp only [aH, hc1, hc2, hc4, hc6, hc7, hc8, hS4, Cf]; exact Re ⟨x6.1, x6.2.1, x6.2.2.1, x6.2.2.2.1, x6.2.2.2.2.1, x6.2.2.2.2.2.1, x6.2.2.2.2.2.2.1, x6.2.2.2.2.2.2.2.1, x6.2.2.2.2.2.2.2.2⟩ (Vt Vn)
      ·have hc8p := ne_of_beq_false hc8
       refine Tx ?_
       refine aV (ns c1 y1 y2 y3 y4 y5 y6 y6b γ1 y7 w1 y8 x1 (hv (by assumption))) .sq (.inl ⟨_, rfl⟩) (ac rfl) rfl rfl rfl Kr rfl rfl Sm Tk Tk ?_
       intro x7
       refine Tx ?_
       refine ai ?_; simp only [aH, hc1, hc2, hc4, hc6, hc7, hc8, Cf]; exact Re ⟨x7.1, x7.2.1, x7.2.2.1, x7.2.2.2.1, x7.2.2.2.2.1, x7.2.2.2.2.2.1, x7.2.2.2.2.2.2.1, x7.2.2.2.2.2.2.2.1, x7.2.2.2.2.2.2.2.2⟩ (Vt Vn)
def ax (w1 : Wld) (x1 : Happening) : Int × Wld :=
 (bif (x1.kind == 7) then ((cj w1 x1).1, (cj w1 x1).2) else (bif (x1.kind == 8) then ((cj w1 x1).1, (cj w1 x1).2) else (bif (x1.kind == 9) then (bif ((aA w1.mail x1.n false).2.2 == 0) then ((aA w1.mail x1.n false).2.2, (⟨w1.h, w1.d, w1.up, w1.c, (aA w1.mail x1.n false).1⟩ : Wld)) else ((aA w1.mail x1.n false).2.2, w1)) else (bif (x1.kind == 10) then ((bR w1 x1).1, (bR w1 x1).2) else (bif (x1.kind == 11) then ((bR w1 x1).1, (bR w1 x1).2) else (bif (x1.kind == 1) then ((aH w1 x1).1, (aH w1 x1).2) else (bif (x1.kind == 2) then ((aH w1 x1).1, (aH w1 x1).2) else (bif (x1.kind == 3) then ((aH w1 x1).1, (aH w1 x1).2) else (bif (x1.kind == 4) then ((aH w1 x1).1, (aH w1 x1).2) else (bif (x1.kind == 5) then ((aH w1 x1).1, (aH w1 x1).2) else (bif (x1.kind == 6) then ((aH w1 x1).1, (aH w1 x1).2) else (4, w1))))))))))))
theorem jk (c1 : Nat) (y1 : SlV) (y2 : SlV) (y3 : SlV) (y4 : SlV) (y5 : SlV) (y6 : SlV) (y6b : Option Nat) (γ1 : Nat → SlV × SlV × SlV × SlV) (y7 : SlV) (w1 : Wld) (y8 : SlV) (x1 : Happening) (hk : cu w1.h = 0) (hc : w1.c.length = 3) (hv : w1.up = true → w1.h.version ≤ ((al w1.d).2.1.length : Int)) : DoesG Tryz.prog 42 [.pointer (some ⟨c1, 0, none⟩), .agg ⟨[.int .i64 x1.kind, .int .i64 x1.who, .int .i64 x1.n, .int .i64 x1.node, .int .i64 x1.parent, .int .i64 x1.name, y8.val x1.roots.length]⟩] [RdL EStep y1 w1.h.h.l, RdL EPlace y2 w1.h.h.t, RdN NPeer y3 w1.h.peers, RdL EByte y4 w1.d.safe, RdL EByte y5 w1.d.wait, am NClient γ1 w1.c, RdN NMail y7 w1.mail, RdL EInt y8 x1.roots, LibP Tryz.prog] ⟨[⟨c1, 39, [y1.val w1.h.h.l.length, y2.val w1.h.h.t.length, .int .i64 w1.h.version, y3.val w1.h.peers.length, y4.val w1.d.safe.length, y5.val w1.d.wait.length, .bool w1.up, y6.val w1.c.length, y7.val w1.mail.length]⟩], [ownL NClient.E 61 y6 y6b (zipG γ1 0 w1.c)]⟩ (fun (X : SlV × SlV × SlV × SlV × SlV × SlV × Option Nat × (Nat → SlV × SlV × SlV × SlV) × SlV) => .int .i64 (ax w1 x1).1) (fun X => [RdL EStep X.1 (ax w1 x1).2.h.h.l, RdL EPlace X.2.1 (ax w1 x1).2.h.h.t, RdN NPeer X.2.2.1 (ax w1 x1).2.h.peers, RdL EByte X.2.2.2.1 (ax w1 x1).2.d.safe, RdL EByte X.2.2.2.2.1 (ax w1 x1).2.d.wait, am NClient X.2.2.2.2.2.2.2.1 (ax w1 x1).2.c, RdN NMail X.2.2.2.2.2.2.2.2 (ax w1 x1).2.mail]) (fun X => ⟨[⟨c1, 39, [X.1.val (ax w1 x1).2.h.h.l.length, X.2.1.val (ax w1 x1).2.h.h.t.length, .int .i64 (ax w1 x1).2.h.version, X.2.2.1.val (ax w1 x1).2.h.peers.length, X.2.2.2.1.val (ax w1 x1).2.d.safe.length, X.2.2.2.2.1.val (ax w1 x1).2.d.wait.length, .bool (ax w1 x1).2.up, X.2.2.2.2.2.1.val (ax w1 x1).2.c.length, X.2.2.2.2.2.2.2.2.val (ax w1 x1).2.mail.length]⟩], [ownL NClient.E 61 X.2.2.2.2.2.1 X.2.2.2.2.2.2.1 (zipG X.2.2.2.2.2.2.2.1 0 (ax w1 x1).2.c)]⟩) := by
 refine co aZ Tryz.func42 rfl Tryz.ntmps42 Tryz.results42 rfl inferInstance (fun _ => inferInstance) fun C => ?_
 refine Pc EInt y8 x1.roots 8 fun hlen1 => ?_
 refine Tx ?_
 refine Bx fun g1 => ?_
 refine Tx ?_
 refine Cd (b := (x1.kind == 7)) (fun hc1 => ?_) fun hc1 => ?_
 ·have hc1p := eq_of_beq hc1
  refine Tx ?_
  refine Cd (b := (x1.kind == 7)) (fun hc2 => ?_) fun hc2 => ?_
  ·refine Tx ?_
   refine aV (ky c1 y1 y2 y3 y4 y5 y6 y6b γ1 y7 w1 y8 x1 Zc) .sq (.inl ⟨_, rfl⟩) (ac rfl) rfl rfl rfl Kr rfl rfl Sm Tk Tk ?_
   intro x2
   refine Tx ?_
   refine ai ?_; simp only [ax, hc1, Cf]; exact Re ⟨x2.1, x2.2.1, x2.2.2.1, x2.2.2.2.1, x2.2.2.2.2.1, x2.2.2.2.2.2.1, x2.2.2.2.2.2.2.1, x2.2.2.2.2.2.2.2.1, x2.2.2.2.2.2.2.2.2⟩ (Vt Vn)
  ·exact Bool.noConfusion (hc2.symm.trans hc1)
 ·have hc1p := ne_of_beq_false hc1
  refine Tx ?_
  refine Cd (b := (x1.kind == 8)) (fun hc3 => ?_) fun hc3 => ?_
  ·have hc3p := eq_of_beq hc3
   refine Tx ?_
   refine aV (ky c1 y1 y2 y3 y4 y5 y6 y6b γ1 y7 w1 y8 x1 Zc) .sq (.inl ⟨_, rfl⟩) (ac rfl) rfl rfl rfl Kr rfl rfl Sm Tk Tk ?_
   intro x3
   refine Tx ?_
   refine ai ?_; simp only [ax, hc1, hc3, Cf]; exact Re ⟨x3.1, x3.2.1, x3.2.2.1, x3.2.2.2.1, x3.2.2.2.2.1, x3.2.2.2.2.2.1, x3.2.2.2.2.2.2.1, x3.2.2.2.2.2.2.2.1, x3.2.2.2.2.2.2.2.2⟩ (Vt Vn)
  ·have hc3p := ne_of_beq_false hc3
   refine Tx ?_
   refine Cd (b := (x1.kind == 9)) (fun hc4 => ?_) fun hc4 => ?_
   ·have hc4p := eq_of_beq hc4
    (repeat refine ao ?_)
    refine gp [0, 4] [true, true] (fun (x4 : SlV) => [(5, .v (x4.val (aA w1.mail x1.n false).1.length)), (7, .v (.int .i64 (aA w1.mail x1.n false).2.2))]) (fun (x4 : SlV) => []) (fun (x4 : SlV) => [ownL NClient.E 61 y6 y6b (zipG γ1 0 w1.c)]) (fun (x4 : SlV) => [RdN NMail x4 (aA w1.mail x1.n false).1]) (fun _ => True) (.cons rfl (.cons rfl (.nil _))) (.keep (.keep (.nil))) ?_ ?_
    ·refine au (fun j => match j with | 13 => none | _ => some []) ?_
     refine Rb 0 rfl Qp ?_
     refine Rb 1 rfl Qp ?_
     refine Rb 2 rfl Qp ?_
     refine Rb 3 rfl Q1 ?_
     refine Rb 4 rfl Qp ?_
     refine Rb 5 rfl Q1 ?_
     refine fu 6 11 Kr ?_ ?_
     ·refine cJ (hZ y7 w1.mail x1.n false) (.an rfl rfl) (ac rfl) rfl rfl rfl Kr rfl rfl Sm ?_
      intro x5
      refine Ra 7 rfl Qp ?_
      refine Ra 8 rfl Qp ?_
      refine Ra 9 rfl Qp ?_
      refine ra_p (.an (i := 10) (js := [11, 12, 13]) rfl Kr Kr Kr Kr) rfl rfl rfl (q_pev rfl Zf) ?_
      refine ap 11 Kr ?_
      refine di (.an rfl rfl) (ac rfl) rfl rfl rfl rfl fun g2 => ?_
      refine Ra 12 rfl Qp ?_
      refine ap 13 Kr ?_
      refine cY (.lo [g2] rfl rfl) (.inr (by simp)) (ac rfl) rfl rfl rfl rfl rfl rfl rfl rfl rfl Ub rfl ?_
      refine Ra 14 rfl Qp ?_
      refine bn Kr ?_
      refine ⟨x5.1, trivial, Le4⟩
     ·refine di (.an rfl rfl) (ac rfl) rfl rfl rfl rfl fun g3 => ?_
      refine ap 6 Kr ?_
      refine cJ (hZ y7 w1.mail x1.n false) (.an rfl rfl) (ac rfl) rfl rfl rfl Kr rfl rfl Sm ?_
      intro x6
      refine Ra 7 rfl Qp ?_
      refine Ra 8 rfl Qp ?_
      refine Ra 9 rfl Qp ?_
      refine ra_p (.an (i := 10) (js := [12, 13]) rfl Kr Kr Kr Kr) rfl rfl rfl (q_pev rfl Zf) ?_
      refine Ra 12 rfl Qp ?_
      refine ap 13 Kr ?_
      refine cY (.lo [g3] rfl rfl) (.inr (by simp)) (ac rfl) rfl rfl rfl rfl rfl rfl rfl rfl rfl Ub rfl ?_
      refine Ra 14 rfl Qp ?_
      refine bn Kr ?_
      refine ⟨x6.1, trivial, Le4⟩
    ·rintro x4 -
     simp only [List.cons_append, List.nil_append]
     refine Tx ?_
     refine Cd (b := ((aA w1.mail x1.n false).2.2 == 0)) (fun hc5 => ?_) fun hc5 => ?_
     ·have hc5p := eq_of_beq hc5
      refine Tx ?_
      refine ai ?_; simp only [ax, hc1, hc3, hc4, hc5, Cf]; exact Re ⟨y1, y2, y3, y4, y5, y6, y6b, γ1, x4⟩ (Vt Vn)
     ·have hc5p := ne_of_beq_false hc5
      refine Tx ?_
      refine ai ?_; simp only [ax, hc1, hc3, hc4, hc5, Cf]; exact Re ⟨y1, y2, y3, y4, y5, y6, y6b, γ1, y7⟩ (Vt Vn)
   ·have hc4p := ne_of_beq_false hc4
    refine Tx ?_
    refine Cd (b := (x1.kind == 10)) (fun hc6 => ?_) fun hc6 => ?_
    ·have hc6p := eq_of_beq hc6
     refine Tx ?_
     refine Cd (b := (x1.kind == 10)) (fun hc7 => ?_) fun hc7 => ?_
     ·refine Tx ?_
      refine aV (kb c1 y1 y2 y3 y4 y5 y6 y6b γ1 y7 w1 y8 x1) .sq (.inl ⟨_, rfl⟩) (ac rfl) rfl rfl rfl Kr rfl rfl Sm Tk Tk ?_
      intro x7
      refine Tx ?_
      refine ai ?_; simp only [ax, hc1, hc3, hc4, hc6, Cf]; exact Re ⟨x7.1, x7.2.1, x7.2.2.1, x7.2.2.2.1, x7.2.2.2.2.1, x7.2.2.2.2.2.1, x7.2.2.2.2.2.2.1, x7.2.2.2.2.2.2.2.1, x7.2.2.2.2.2.2.2.2⟩ (Vt Vn)
     ·exact Bool.noConfusion (hc7.symm.trans hc6)
    ·have hc6p := ne_of_beq_false hc6
     refine Tx ?_
     refine Cd (b := (x1.kind == 11)) (fun hc8 => ?_) fun hc8 => ?_
     ·have hc8p := eq_of_beq hc8
      refine Tx ?_
      refine aV (kb c1 y1 y2 y3 y4 y5 y6 y6b γ1 y7 w1 y8 x1) .sq (.inl ⟨_, rfl⟩) (ac rfl) rfl rfl rfl Kr rfl rfl Sm Tk Tk ?_
      intro x8
      refine Tx ?_
      refine ai ?_; simp only [ax, hc1, hc3, hc4, hc6, hc8, Cf]; exact Re ⟨x8.1, x8.2.1, x8.2.2.1, x8.2.2.2.1, x8.2.2.2.2.1, x8.2.2.2.2.2.1, x8.2.2.2.2.2.2.1, x8.2.2.2.2.2.2.2.1, x8.2.2.2.2.2.2.2.2⟩ (Vt Vn)
     ·have hc8p := ne_of_beq_false hc8
      refine Tx ?_
      refine Cd (b := (x1.kind == 1)) (fun hc9 => ?_) fun hc9 => ?_
      ·have hc9p := eq_of_beq hc9
       refine Tx ?_
       refine Cd (b := (x1.kind == 1)) (fun hc10 => ?_) fun hc10 => ?_
       ·refine Tx ?_
        refine aV (dV c1 y1 y2 y3 y4 y5 y6 y6b γ1 y7 w1 y8 x1 Zc Zc Zc) .sq (.inl ⟨_, rfl⟩) (ac rfl) rfl rfl rfl Kr rfl rfl Sm Tk Tk ?_
        intro x9
        refine Tx ?_
        refine ai ?_; simp only [ax, hc1, hc3, hc4, hc6, hc8, hc9, Cf]; exact Re ⟨x9.1, x9.2.1, x9.2.2.1, x9.2.2.2.1, x9.2.2.2.2.1, x9.2.2.2.2.2.1, x9.2.2.2.2.2.2.1, x9.2.2.2.2.2.2.2.1, x9.2.2.2.2.2.2.2.2⟩ (Vt Vn)
       ·exact Bool.noConfusion (hc10.symm.trans hc9)
      ·have hc9p := ne_of_beq_false hc9
       refine Tx ?_
       refine Cd (b := (x1.kind == 2)) (fun hc11 => ?_) fun hc11 => ?_
       ·have hc11p := eq_of_beq hc11
        refine Tx ?_
        refine Cd (b := (x1.kind == 2)) (fun hc12 => ?_) fun hc12 => ?_
        ·refine Tx ?_
         refine aV (dV c1 y1 y2 y3 y4 y5 y6 y6b γ1 y7 w1 y8 x1 Zc Zc Zc) .sq (.inl ⟨_, rfl⟩) (ac rfl) rfl rfl rfl Kr rfl rfl Sm Tk Tk ?_
         intro x10
         refine Tx ?_
         refine ai ?_; simp only [ax, hc1, hc3, hc4, hc6, hc8, hc9, hc11, Cf]; exact Re ⟨x10.1, x10.2.1, x10.2.2.1, x10.2.2.2.1, x10.2.2.2.2.1, x10.2.2.2.2.2.1, x10.2.2.2.2.2.2.1, x10.2.2.2.2.2.2.2.1, x10.2.2.2.2.2.2.2.2⟩ (Vt Vn)
        ·exact Bool.noConfusion (hc12.symm.trans hc11)
       ·have hc11p := ne_of_beq_false hc11
        refine Tx ?_
        refine Cd (b := (x1.kind == 3)) (fun hc13 => ?_) fun hc13 => ?_
        ·have hc13p := eq_of_beq hc13
         refine Tx ?_
         refine Cd (b := (x1.kind == 3)) (fun hc14 => ?_) fun hc14 => ?_
         ·refine Tx ?_
          refine aV (dV c1 y1 y2 y3 y4 y5 y6 y6b γ1 y7 w1 y8 x1 Zc Zc Zc) .sq (.inl ⟨_, rfl⟩) (ac rfl) rfl rfl rfl Kr rfl rfl Sm Tk Tk ?_
          intro x11
          refine Tx ?_
          refine ai ?_; simp only [ax, hc1, hc3, hc4, hc6, hc8, hc9, hc11, hc13, Cf]; exact Re ⟨x11.1, x11.2.1, x11.2.2.1, x11.2.2.2.1, x11.2.2.2.2.1, x11.2.2.2.2.2.1, x11.2.2.2.2.2.2.1, x11.2.2.2.2.2.2.2.1, x11.2.2.2.2.2.2.2.2⟩ (Vt Vn)
         ·exact Bool.noConfusion (hc14.symm.trans hc13)
        ·have hc13p := ne_of_beq_false hc13
         refine Tx ?_
         refine Cd (b := (x1.kind == 4)) (fun hc15 => ?_) fun hc15 => ?_
         ·have hc15p := eq_of_beq hc15
          refine Tx ?_
          refine Cd (b := (x1.kind == 4)) (fun hc16 => ?_) fun hc16 => ?_
          ·refine Tx ?_
           refine aV (dV c1 y1 y2 y3 y4 y5 y6 y6b γ1 y7 w1 y8 x1 Zc Zc Zc) .sq (.inl ⟨_, rfl⟩) (ac rfl) rfl rfl rfl Kr rfl rfl Sm Tk Tk ?_
           intro x12
           refine Tx ?_
           refine ai ?_; simp only [ax, hc1, hc3, hc4, hc6, hc8, hc9, hc11, hc13, hc15, Cf]; exact Re ⟨x12.1, x12.2.1, x12.2.2.1, x12.2.2.2.1, x12.2.2.2.2.1, x12.2.2.2.2.2.1, x12.2.2.2.2.2.2.1, x12.2.2.2.2.2.2.2.1, x12.2.2.2.2.2.2.2.2⟩ (Vt Vn)
          ·exact Bool.noConfusion (hc16.symm.trans hc15)
         ·have hc15p := ne_of_beq_false hc15
          refine Tx ?_
          refine Cd (b := (x1.kind == 5)) (fun hc17 => ?_) fun hc17 => ?_
          ·have hc17p := eq_of_beq hc17
           refine Tx ?_
           refine Cd (b := (x1.kind == 5)) (fun hc18 => ?_) fun hc18 => ?_
           ·refine Tx ?_
            refine aV (dV c1 y1 y2 y3 y4 y5 y6 y6b γ1 y7 w1 y8 x1 Zc Zc Zc) .sq (.inl ⟨_, rfl⟩) (ac rfl) rfl rfl rfl Kr rfl rfl Sm Tk Tk ?_
            intro x13
            refine Tx ?_
            refine ai ?_; simp only [ax, hc1, hc3, hc4, hc6, hc8, hc9, hc11, hc13, hc15, hc17, Cf]; exact Re ⟨x13.1, x13.2.1, x13.2.2.1, x13.2.2.2.1, x13.2.2.2.2.1, x13.2.2.2.2.2.1, x13.2.2.2.2.2.2.1, x13.2.2.2.2.2.2.2.1, x13.2.2.2.2.2.2.2.2⟩ (Vt Vn)
           ·exact Bool.noConfusion (hc18.symm.trans hc17)
          ·have hc17p := ne_of_beq_false hc17
           refine Tx ?_
           refine Cd (b := (x1.kind == 6)) (fun hc19 => ?_) fun hc19 => ?_
           ·have hc19p := eq_of_beq hc19
            refine Tx ?_
            refine aV (dV c1 y1 y2 y3 y4 y5 y6 y6b γ1 y7 w1 y8 x1 Zc Zc Zc) .sq (.inl ⟨_, rfl⟩) (ac rfl) rfl rfl rfl Kr rfl rfl Sm Tk Tk ?_
            intro x14
            refine Tx ?_
            refine ai ?_; simp only [ax, hc1, hc3, hc4, hc6, hc8, hc9, hc11, hc13, hc15, hc17, hc19, Cf]; exact Re ⟨x14.1, x14.2.1, x14.2.2.1, x14.2.2.2.1, x14.2.2.2.2.1, x14.2.2.2.2.2.1, x14.2.2.2.2.2.2.1, x14.2.2.2.2.2.2.2.1, x14.2.2.2.2.2.2.2.2⟩ (Vt Vn)
           ·have hc19p := ne_of_beq_false hc19
            refine Tx ?_
            refine ai ?_; simp only [ax, hc1, hc3, hc4, hc6, hc8, hc9, hc11, hc13, hc15, hc17, hc19, Cf]; exact Re ⟨y1, y2, y3, y4, y5, y6, y6b, γ1, y7⟩ (Vt Vn)
end Go.Proofs.YtpkaloknohpleaaGreatDoor

namespace Go.Proofs.YtpkaloknohpleaaGreatDoor
open Go Go.Proofs.YtpkaloknohpleaaGreatDoor.Fw Go.Proofs
def bA (l : List Rec) : Str := l.flatMap (fun r => jt r ++ [10])
theorem fo : bA [] = [] := rfl
theorem ij (r : Rec) (l : List Rec) : bA (r :: l) = jt r ++ 10 :: bA l := by simp [bA]
theorem fq (a b : List Rec) : bA (a ++ b) = bA a ++ bA b := by simp [bA]
theorem pY (l : List Rec) : l.length ≤ (bA l).length := by
 induction l with
 | nil => simp
 | cons r l ih => rw [ij]; simp only [List.length_append, List.length_cons]; omega
theorem vz (r : Rec) : (10 : UInt8) ∉ wordOf r := by
 unfold wordOf
 cases (r.kind == 1) <;> cases (r.kind == 2) <;> simp
theorem tL : ∀ (l : List Int), (10 : UInt8) ∉ glue 32 (l.map Lib.itoa)
 | [] => by simp [glue]
 | n :: l => by
  have h1 : (10 : UInt8) ∉ Lib.itoa n := tI (by decide)
  have h2 := tL l
  simp only [glue, List.map_cons, List.flatMap_cons, List.mem_append, List.mem_cons] at h2 ⊢
  intro h
  rcases h with (h | h) | h
  ·exact absurd h (by decide)
  ·exact h1 h
  ·exact h2 h
theorem pr_nl (r : Rec) : (10 : UInt8) ∉ jt r := by
 intro h
 rcases List.mem_append.1 h with h | h
 ·exact vz r h
 ·exact tL _ h
abbrev AllR (l : List Rec) : Prop := ∀ r ∈ l, aM r = 0
theorem sy {r : Rec} (hr : aM r = 0) (s0 : Str) (most : Int) (f : Nat) (t : Str) (acc : List Rec) (h : (acc.length : Int) ≠ most) :
  bQ s0 most (f + 1) (jt r ++ 10 :: t) acc = bQ s0 most f t (acc ++ [r]) := by
 have h1 : ((jt r ++ 10 :: t) != ([] : Str)) = true := by simp
 have h2 : ((acc.length : Int) == most) = false := by simpa using h
 rw [bQ]
 simp only [h1, pF t (pr_nl r), ri hr, h2, cond_true, cond_false, Bool.not_true, bne_self_eq_false]
theorem oX (s0 : Str) (most : Int) (t : Str) : ∀ (l acc : List Rec) (f : Nat), AllR l → ((acc.length + l.length : Nat) : Int) ≤ most →
  bQ s0 most (f + l.length) (bA l ++ t) acc = bQ s0 most f t (acc ++ l)
 | [], acc, f, _, _ => by simp [fo]
 | r :: l, acc, f, hl, hm => by
  simp only [List.length_cons] at hm
  have e : f + (r :: l).length = (f + l.length) + 1 := by simp only [List.length_cons]; omega
  rw [e, ij, List.append_assoc, List.cons_append, sy (hl r (.head _)) s0 most _ _ _ (by omega),
   oX s0 most t l (acc ++ [r]) f (fun x hx => hl x (.tail _ hx)) (by simp only [List.length_append, List.length_cons, List.length_nil]; omega)]
  simp
theorem tD (s0 : Str) (most : Int) (f : Nat) {t : Str} (ht : (10 : UInt8) ∉ t) (acc : List Rec) :
  bQ s0 most (f + 1) t acc = (acc, (s0.length : Int) - (t.length : Int), if t = [] then 0 else 8) := by
 rw [bQ]
 by_cases h : t = []
 ·subst h
  simp
 ·have h1 : (t != ([] : Str)) = true := by simpa using h
  simp only [h1, q7 ht, cond_true, Bool.not_false, if_neg h]
theorem rG (most : Int) {l : List Rec} (hl : AllR l) {t : Str} (ht : (10 : UInt8) ∉ t) (hm : (l.length : Int) ≤ most) :
  az (bA l ++ t) most = (l, ((bA l).length : Int), if t = [] then 0 else 8) := by
 have hlen := pY l
 have e : (bA l ++ t).length + 1 = ((bA l).length - l.length + t.length + 1) + l.length := by simp only [List.length_append]; omega
 unfold az
 rw [e, oX _ _ _ _ _ _ hl (by simpa using hm), tD _ _ _ ht]
 simp only [List.nil_append, List.length_append]
 congr 2
 omega
theorem nP (most : Int) {l : List Rec} (hl : AllR l) (hm : (l.length : Int) ≤ most) :
  az (bA l) most = (l, ((bA l).length : Int), 0) := by
 have := rG most hl (t := []) (by simp) hm
 simpa using this
theorem j8 {a : List Rec} {w : Str} (ha : AllR a) (hn : a.length ≤ 60) (hl : (bA a).length + w.length ≤ 60000) : cK ⟨bA a, w⟩ = 0 := by
 unfold cK
 have h : (decide (((bA a).length : Int) > 60000) || decide ((w.length : Int) > (60000 - ((bA a).length : Int)))) = false := by
  simp only [Bool.or_eq_false_iff, decide_eq_false_iff_not]; omega
 simp only [h, cond_false, nP 60 ha (by omega)]
theorem pC {a b : List Rec} {t : Str} (ha : AllR a) (hb : AllR b) (hn : a.length + b.length ≤ 60) (ht : (10 : UInt8) ∉ t) (hl : (bA a).length + (bA b ++ t).length ≤ 60000) :
  al ⟨bA a, bA b ++ t⟩ = (⟨bA (a ++ b), []⟩, a ++ b, 0) := by
 unfold al
 have h2 : (bA b ++ t).take (bA b).length = bA b := by simp
 simp only [j8 ha (by omega) hl, nP 60 ha (by omega), rG (60 - (a.length : Int)) hb ht (by omega), bne_self_eq_false, cond_false, Int.toNat_natCast, h2, List.flatten_cons, List.flatten_nil, List.append_nil, fq]
theorem iB : ∀ {l : List Rec}, AllR l → (bA l).length ≤ 160 * l.length
 | [], _ => by simp [fo]
 | r :: l, h => by
  have h1 := k4 (h r (.head _))
  have h2 := iB (fun x hx => h x (.tail r hx))
  rw [ij]
  simp only [List.length_append, List.length_cons]
  omega
theorem uY {a : List Rec} {q : Rec} (ha : AllR a) (hq : aM q = 0) (hn : a.length < 60) : dy ⟨bA a, []⟩ q = (⟨bA a, bA [q]⟩, 0) := by
 have h1 := iB ha
 have h2 := k4 hq
 have h3 : cK ⟨bA a, []⟩ = 0 := j8 ha (by omega) (by simp only [List.length_nil]; omega)
 unfold dy
 have h4 : decide ((((jt q).length : Int) + 1) > ((60000 - ((bA a).length : Int)) - (([] : List UInt8).length : Int))) = false := by
  simp only [List.length_nil, decide_eq_false_iff_not]; omega
 simp only [h3, sc, if_pos hq, bne_self_eq_false, cond_false, h4]
 simp [bA]
theorem t6 {a b : List Rec} (ha : AllR a) (hb : AllR b) (hn : a.length + b.length ≤ 60) : ey ⟨bA a, bA b⟩ = (⟨bA (a ++ b), []⟩, 0) := by
 have h1 := iB ha
 have h2 := iB hb
 have hab : AllR (a ++ b) := fun x hx => (List.mem_append.1 hx).elim (ha x) (hb x)
 have h3 : cK ⟨bA a, bA b⟩ = 0 := j8 ha (by omega) (by omega)
 have h4 : cK ⟨bA (a ++ b), []⟩ = 0 := j8 hab (by rw [List.length_append]; omega) (by rw [fq, List.length_append, List.length_nil]; omega)
 unfold ey
 simp only [List.flatten_cons, List.flatten_nil, List.append_nil, ← fq, h3, h4, bne_self_eq_false, cond_false]
theorem qy {c : UInt8} : ∀ {s : Str}, (cutc c s).2.2 = true → s = (cutc c s).1 ++ c :: (cutc c s).2.1
 | [], h => by simp [cutc] at h
 | b :: r, h => by
  rw [cutc] at h ⊢
  cases hb : (b == c) with
  | true => rw [cond_true, eq_of_beq hb]; rfl
  | false =>
   rw [hb, cond_false] at h
   rw [cond_false]
   simp only [List.cons_append]
   rw [← qy h]
theorem lV (s0 : Str) (most : Int) : ∀ (f : Nat) (s : Str) (acc : List Rec), s.length < f → (acc.length : Int) ≤ most → ∃ m t, s = bA m ++ t ∧ AllR m ∧ ((acc ++ m).length : Int) ≤ most ∧
  (bQ s0 most f s acc).1 = acc ++ m ∧ (bQ s0 most f s acc).2.1 = (s0.length : Int) - (t.length : Int) ∧ ((bQ s0 most f s acc).2.2 = 0 → t = [])
 | 0, s, acc, hf, _ => absurd hf (Nat.not_lt_zero _)
 | f + 1, s, acc, hf, ha => by
  rw [bQ]
  cases h1 : (s != ([] : Str)) with
  | false =>
   have hs : s = [] := by simpa using h1
   subst hs
   exact ⟨[], [], rfl, (fun _ h => by cases h), by simpa using ha, by simp, by simp, fun _ => rfl⟩
  | true =>
   simp only [cond_true]
   cases h2 : (!(cutc 10 s).2.2) with
   | true => simp only [cond_true]; exact ⟨[], s, by simp [fo], (fun _ h => by cases h), by simpa using ha, by simp, rfl, fun h => absurd h (by decide)⟩
   | false =>
    have h2 : (cutc 10 s).2.2 = true := by simpa using h2
    simp only [cond_false]
    cases h3 : ((aU (cutc 10 s).1).2 != 0) with
    | true => simp only [cond_true]; exact ⟨[], s, by simp [fo], (fun _ h => by cases h), by simpa using ha, by simp, rfl, fun h => by rw [h] at h3; cases h3⟩
    | false =>
     simp only [cond_false]
     cases h4 : ((acc.length : Int) == most) with
     | true => simp only [cond_true]; exact ⟨[], s, by simp [fo], (fun _ h => by cases h), by simpa using ha, by simp, rfl, fun h => absurd h (by decide)⟩
     | false =>
      have h4 := beq_eq_false_iff_ne.1 h4
      simp only [cond_false]
      have hp := uZ (s := (cutc 10 s).1) (x := (aU (cutc 10 s).1).1) (Prod.ext rfl (ae h3))
      have hlt := pE 10 s h2
      obtain ⟨m, t, g1, g2, g3, g4, g5, g6⟩ := lV s0 most f (cutc 10 s).2.1 (acc ++ [(aU (cutc 10 s).1).1]) (by omega) (by simp only [List.length_append, List.length_cons, List.length_nil]; omega)
      refine ⟨(aU (cutc 10 s).1).1 :: m, t, ?_, ?_, ?_, ?_, g5, g6⟩
      ·have hj := qy h2
       rw [ij, hp.2, List.append_assoc, List.cons_append, ← g1]
       exact hj
      ·intro x hx
       rcases List.mem_cons.1 hx with rfl | hx
       ·exact hp.1
       ·exact g2 x hx
      ·simpa using g3
      ·rw [g4]; simp
theorem oW (s : Str) {most : Int} (h : 0 ≤ most) : ∃ m t, s = bA m ++ t ∧ AllR m ∧ (m.length : Int) ≤ most ∧ (az s most).1 = m ∧ (az s most).2.1 = ((bA m).length : Int) ∧ ((az s most).2.2 = 0 → t = []) := by
 obtain ⟨m, t, g1, g2, g3, g4, g5, g6⟩ := lV s most (s.length + 1) s [] (by omega) (by simpa using h)
 refine ⟨m, t, g1, g2, by simpa using g3, (by rw [List.nil_append] at g4; exact g4), ?_, g6⟩
 have : (az s most).2.1 = (s.length : Int) - (t.length : Int) := g5
 rw [this, g1, List.length_append]; omega
theorem oE {d : Disk} (h : cK d = 0) : ∃ l, AllR l ∧ l.length ≤ 60 ∧ d.safe = bA l := by
 unfold cK at h
 cases h1 : (decide ((d.safe.length : Int) > 60000) || decide ((d.wait.length : Int) > (60000 - (d.safe.length : Int)))) with
 | true => rw [h1] at h; cases h
 | false =>
  rw [h1, cond_false] at h
  obtain ⟨m, t, g1, g2, g3, g4, g5, g6⟩ := oW d.safe (most := 60) (by decide)
  refine ⟨m, g2, by omega, ?_⟩
  rw [g1, g6 h, List.append_nil]
theorem rh {d : Disk} (h : (al d).2.2 = 0) : ∃ l, AllR l ∧ l.length ≤ 60 ∧ al d = (⟨bA l, []⟩, l, 0) ∧ (d.wait = [] → d = ⟨bA l, []⟩) := by
 unfold al at h ⊢
 cases h1 : (cK d != 0) with
 | true => rw [h1, cond_true] at h; simp only at h; rw [h] at h1; cases h1
 | false =>
  obtain ⟨l, a1, a2, a3⟩ := oE (ae h1)
  have e1 : az d.safe 60 = (l, ((bA l).length : Int), 0) := by rw [a3]; exact nP 60 a1 (by omega)
  obtain ⟨m, t, g1, g2, g3, g4, g5, g6⟩ := oW d.wait (most := 60 - (l.length : Int)) (by omega)
  have hall : AllR (l ++ m) := fun x hx => (List.mem_append.1 hx).elim (a1 x) (g2 x)
  refine ⟨l ++ m, hall, by rw [List.length_append]; omega, ?_, fun hw => ?_⟩
  ·simp only [cond_false, e1, g4, g5, Int.toNat_natCast]
   have e2 : d.wait.take (bA m).length = bA m := by rw [g1, List.take_left]
   rw [e2, a3, fq]
   simp
  ·have hm : bA m = [] := by
    have := congrArg List.length g1
    rw [hw] at this
    simp only [List.length_nil, List.length_append] at this
    exact List.eq_nil_of_length_eq_zero (by omega)
   obtain ⟨s, w⟩ := d
   simp only at a3 hw
   rw [a3, hw, fq, hm, List.append_nil]
theorem mD {l : List Rec} (ha : AllR l) (hn : l.length ≤ 60) : al ⟨bA l, []⟩ = (⟨bA l, []⟩, l, 0) := by
 have := pC (a := l) (b := []) (t := []) ha (fun _ h => by cases h) (by simpa using hn) (by simp) (by have := iB ha; simp only [fo, List.nil_append, List.length_nil]; omega)
 simpa [fo] using this
theorem vf (f : Peer → Peer → Bool) (hf : ∀ a b, f a b = true → a = b) (s2 : List Peer) : ∀ (l : List Peer) (k : Nat), l.length + k = s2.length → bF s2 f l k = true → l = s2.drop k
 | [], k, h, _ => by
  simp only [List.length_nil, Nat.zero_add] at h
  rw [h, List.drop_length]
 | r :: l, k, h, h0 => by
  simp only [List.length_cons] at h
  rw [bF] at h0
  cases h1 : (!(f r (gt s2 k))) with
  | true => rw [h1] at h0; cases h0
  | false =>
   rw [h1, cond_false] at h0
   have h1 : f r (gt s2 k) = true := by simpa using h1
   rw [aE (by omega : k < s2.length), ← hf _ _ h1, ← vf f hf s2 l (k + 1) (by omega) h0]
theorem qU {a b : Hub} (h : fT a b = true) : a = b := by
 unfold fT bS at h
 cases h1 : ((a.peers.length : Int) != (b.peers.length : Int)) with
 | true => rw [h1] at h; simp at h
 | false =>
  rw [h1, cond_false] at h
  simp only [Bool.and_eq_true, beq_iff_eq] at h
  obtain ⟨⟨h2, h3⟩, h4⟩ := h
  have h5 := vf fC (fun x y hxy => by
   obtain ⟨x1, x2, x3⟩ := x; obtain ⟨y1, y2, y3⟩ := y
   simp only [fC, Bool.and_eq_true, beq_iff_eq, decide_eq_true_eq] at hxy
   obtain ⟨⟨rfl, rfl⟩, rfl⟩ := hxy; rfl) b.peers a.peers 0 (by simp only [bne_eq_false_iff_eq] at h1; omega) h4
  obtain ⟨a1, a2, a3⟩ := a; obtain ⟨b1, b2, b3⟩ := b
  simp only [List.drop_zero] at h2 h3 h5
  rw [(kK _ _).1 h2, h3, h5]
theorem f8 (w : Wld) : ∀ (l : List Client) (k : Nat), l = w.c.drop k → (cg l k = 0 ↔ ∀ i, k ≤ i → i < w.c.length → bh (gt w.c i) (i : Int) = 0)
 | [], k, h => by
  have : w.c.length ≤ k := by have := congrArg List.length h; simp at this; omega
  exact ⟨fun _ i h1 h2 => by omega, fun _ => rfl⟩
 | c :: l, k, h => by
  have hk : k < w.c.length := by
   rcases Nat.lt_or_ge k w.c.length with h' | h'
   ·exact h'
   ·rw [List.drop_of_length_le h'] at h; cases h
  rw [aE hk] at h
  obtain ⟨rfl, h'⟩ := List.cons.inj h
  rw [cg]
  cases h1 : (bh (gt w.c k) (k : Int) != 0) with
  | true =>
   rw [cond_true]
   refine ⟨fun h2 => (by rw [h2] at h1; cases h1), fun h2 => h2 k (Nat.le_refl _) hk⟩
  | false =>
   rw [cond_false, f8 w l (k + 1) h']
   constructor
   ·intro h2 i hi hl
    by_cases hik : i = k
    ·rw [hik]; exact ae h1
    ·exact h2 i (by omega) hl
   ·intro h2 i hi hl
    exact h2 i (by omega) hl
structure IsW (w : Wld) (l : List Rec) : Prop where
 three : w.c.length = 3
 mail : bO w.mail = 0
 all : AllR l
 sixty : l.length ≤ 60
 recd : al w.d = (⟨bA l, []⟩, l, 0)
 up : w.up = true → w.d = ⟨bA l, []⟩ ∧ aq l = (w.h, 0)
 down : w.up = false → w.h = b8
 cli : ∀ k, k < 3 → bh (gt w.c k) (k : Int) = 0
theorem o5 : aq [] = (b8, 0) := rfl
theorem d8 (w : Wld) : aW w = 0 ↔ ∃ l, IsW w l := by
 constructor
 ·intro h
  unfold aW at h
  rw [fi (by decide)] at h
  obtain ⟨h1, h⟩ := h
  have h1 : w.c.length = 3 := by simp only [bne_eq_false_iff_eq] at h1; omega
  cases h2 : (bO w.mail != 0) with
  | true => rw [h2, cond_true] at h; rw [h] at h2; cases h2
  | false =>
  rw [h2, cond_false] at h
  cases h3 : ((al w.d).2.2 != 0) with
  | true => rw [h3, cond_true] at h; rw [h] at h3; cases h3
  | false =>
  rw [h3, cond_false, fi (by decide)] at h
  obtain ⟨h4, h⟩ := h
  obtain ⟨l, a1, a2, a3, a4⟩ := rh (ae h3)
  have key : ∀ r, (bif ((aq r).2 != 0) then (aq r).2 else (bif (!(fT (aq r).1 w.h)) then 4 else cg w.c 0)) = 0 → aq r = (w.h, 0) ∧ ∀ k, k < 3 → bh (gt w.c k) (k : Int) = 0 := by
   intro r hr
   cases h5 : ((aq r).2 != 0) with
   | true => rw [h5, cond_true] at hr; rw [hr] at h5; cases h5
   | false =>
    rw [h5, cond_false, fi (by decide)] at hr
    obtain ⟨h6, h7⟩ := hr
    refine ⟨Prod.ext (qU (by simpa using h6)) (ae h5), fun k hk => ?_⟩
    exact (f8 w w.c 0 rfl).1 h7 k (Nat.zero_le _) (by omega)
  refine ⟨l, ?_⟩
  rw [a3] at h
  cases hu : w.up with
  | false =>
   rw [hu] at h
   obtain ⟨b1, b2⟩ := key [] h
   rw [o5] at b1
   exact ⟨h1, ae h2, a1, a2, a3, fun hu2 => (by rw [hu] at hu2; cases hu2), fun _ => (congrArg Prod.fst b1).symm, b2⟩
  | true =>
   rw [hu] at h h4
   obtain ⟨b1, b2⟩ := key l h
   have hw : w.d.wait = [] := List.eq_nil_of_length_eq_zero (by simpa using h4)
   exact ⟨h1, ae h2, a1, a2, a3, fun _ => ⟨a4 hw, b1⟩, fun hu2 => (by rw [hu] at hu2; cases hu2), b2⟩
 ·rintro ⟨l, h⟩
  unfold aW
  have e1 : ((w.c.length : Int) != 3) = false := by rw [h.three]; rfl
  have e2 : (bO w.mail != 0) = false := by rw [h.mail]; rfl
  have e3 : ((al w.d).2.2 != 0) = false := by rw [h.recd]; rfl
  have e4 : cg w.c 0 = 0 := (f8 w w.c 0 rfl).2 fun i _ hi => h.cli i (by rw [h.three] at hi; exact hi)
  rw [e1, e2, e3, cond_false, cond_false, cond_false, h.recd]
  cases hu : w.up with
  | false =>
   have e5 : fT (aq []).1 w.h = true := by rw [o5, h.down hu]; exact l3 _
   simp only [Bool.false_and, cond_false, Bool.not_false, cond_true, e5, e4, Bool.not_true]
   rfl
  | true =>
   obtain ⟨f1, f2⟩ := h.up hu
   have e5 : w.d.wait = [] := by rw [f1]
   simp only [e5, f2, l3, e4]
   rfl
theorem IsW.hub {w : Wld} {l : List Rec} (h : IsW w l) : IsHub w.h ∧ (w.up = true → w.h.version = (l.length : Int)) := by
 cases hu : w.up with
 | false => rw [h.down hu]; exact ⟨k9, fun h => by cases h⟩
 | true =>
  have h1 := (h.up hu).2
  have h2 := lf (l := l) (by rw [h1])
  rw [h1] at h2
  exact ⟨h2.1, fun _ => h2.2.1⟩
theorem jj {w : Wld} (h : aW w = 0) : cu w.h = 0 ∧ w.c.length = 3 ∧ (w.up = true → w.h.version ≤ ((al w.d).2.1.length : Int)) := by
 obtain ⟨l, h⟩ := (d8 w).1 h
 have h1 := h.hub
 refine ⟨(gk _).2 h1.1, h.three, fun hu => ?_⟩
 rw [h1.2 hu, h.recd]; exact Int.le_refl _
theorem lw : ∀ (l : List Rec) (r : Rec) (h g : Hub), bE l h.h.l h.h.t h.version h.peers = (g, 0) → (aJ g r).2 = 0 →
  bE (l ++ [r]) h.h.l h.h.t h.version h.peers = ((aJ g r).1, 0)
 | [], r, h, g, h0, h1 => by
  rw [bE] at h0
  have he : (⟨⟨h.h.l, h.h.t⟩, h.version, h.peers⟩ : Hub) = h := rfl
  have hg : h = g := congrArg Prod.fst h0
  subst hg
  rw [List.nil_append, bE]
  simp only [he, h1, bne_self_eq_false, cond_false, bE]
 | q :: l, r, h, g, h0, h1 => by
  rw [bE] at h0
  rw [List.cons_append, bE]
  have he : (⟨⟨h.h.l, h.h.t⟩, h.version, h.peers⟩ : Hub) = h := rfl
  simp only [he] at h0 ⊢
  cases h2 : ((aJ h q).2 != 0) with
  | true =>
   rw [h2, cond_true] at h0
   have h3 : (aJ h q).2 = 0 := congrArg Prod.snd h0
   rw [h3] at h2; cases h2
  | false =>
   rw [h2, cond_false] at h0
   rw [cond_false]
   exact lw l r (aJ h q).1 g h0 h1
theorem iP {l : List Rec} {r : Rec} {g : Hub} (h0 : aq l = (g, 0)) (h1 : (aJ g r).2 = 0) (hn : l.length < 60) : aq (l ++ [r]) = ((aJ g r).1, 0) := by
 have hr := oe (l := l) (by rw [h0])
 have e1 : aq l = bE l b8.h.l b8.h.t b8.version b8.peers := hr.2.2
 unfold aq
 have : decide (((l ++ [r]).length : Int) > 60) = false := by simp only [List.length_append, List.length_cons, List.length_nil, decide_eq_false_iff_not]; omega
 rw [this, cond_false]
 exact lw l r b8 g (e1.symm.trans h0) h1
theorem nh {h : Hub} {r : Rec} (h0 : (aJ h r).2 = 0) : h.version ≠ 60 := by
 intro hv
 have hn := k6 h0
 unfold aJ at h0
 have e1 : (aM r != 0) = false := by rw [hn]; rfl
 have e2 : (h.version == 60) = true := by rw [hv]; rfl
 rw [e1, cond_false, e2, cond_true] at h0
 cases h0
theorem o7 {w : Wld} {l : List Rec} (h : IsW w l) (hu : w.up = true) (r : Rec) : ba w r = if (aJ w.h r).2 = 0 then (0, ⟨(aJ w.h r).1, ⟨bA (l ++ [r]), []⟩, w.up, w.c, w.mail⟩) else ((aJ w.h r).2, w) := by
 obtain ⟨f1, f2⟩ := h.up hu
 have hh := h.hub
 unfold ba
 rw [wf hh.1]
 by_cases h0 : (aJ w.h r).2 = 0
 ·have hv := nh h0
  have hv2 := hh.2 hu
  have hs := h.sixty
  have hq := k6 h0
  have hq1 : AllR [r] := fun x hx => by rw [List.mem_singleton] at hx; subst hx; exact hq
  rw [if_pos h0, f1, uY h.all hq (by omega)]
  simp only [h0, t6 h.all hq1 (by simp only [List.length_cons, List.length_nil]; omega), bne_self_eq_false, cond_false]
 ·rw [if_neg h0]
  have : ((aJ w.h r).2 != 0) = true := by simpa using h0
  rw [this, cond_true]
theorem qI {w : Wld} {l : List Rec} (h : IsW w l) (hu : w.up = true) {r : Rec} (h0 : (aJ w.h r).2 = 0) : IsW ⟨(aJ w.h r).1, ⟨bA (l ++ [r]), []⟩, w.up, w.c, w.mail⟩ (l ++ [r]) := by
 obtain ⟨f1, f2⟩ := h.up hu
 have hh := h.hub
 have hv := nh h0
 have hv2 := hh.2 hu
 have hs := h.sixty
 have hq := k6 h0
 have hall : AllR (l ++ [r]) := fun x hx => (List.mem_append.1 hx).elim (h.all x) fun hx => by rw [List.mem_singleton] at hx; subst hx; exact hq
 have hl : (l ++ [r]).length ≤ 60 := by simp only [List.length_append, List.length_cons, List.length_nil]; omega
 exact ⟨h.three, h.mail, hall, hl, mD hall hl, fun _ => ⟨rfl, iP f2 h0 (by omega)⟩, fun hd => (by simp only at hd; rw [hu] at hd; cases hd), h.cli⟩
theorem wd (l : List Mail) (m : Mail) : dZ l m = bif bO l != 0 then ([], bO l) else bif bJ m != 0 then ([], bJ m) else bif decide ((l.length : Int) < 30) then (l ++ [m], 0) else (l, 0) := by
 unfold dZ eX eW eU
 rw [lM]
def posted (l : List Mail) (m : Mail) : List Mail := if bJ m = 0 ∧ l.length < 30 then l ++ [m] else l
theorem pr {w : Wld} {l : List Rec} (h : IsW w l) (m : Mail) : ce w m = ⟨w.h, w.d, w.up, w.c, posted w.mail m⟩ := by
 unfold ce posted
 rw [wd, h.mail, bne_self_eq_false, cond_false]
 by_cases h1 : bJ m = 0
 ·rw [h1, bne_self_eq_false, cond_false]
  by_cases h2 : w.mail.length < 30
  ·have : decide ((w.mail.length : Int) < 30) = true := by simp only [decide_eq_true_eq]; omega
   rw [this, if_pos ⟨rfl, h2⟩]; rfl
  ·have : decide ((w.mail.length : Int) < 30) = false := by simp only [decide_eq_false_iff_not]; omega
   rw [this, if_neg (fun h => h2 h.2)]; rfl
 ·have : (bJ m != 0) = true := by simpa using h1
  rw [this, cond_true, if_neg (fun h => h1 h.1)]
  have : (bJ m == 0) = false := by simpa using h1
  simp only [this, cond_false]
theorem nF {l : List Mail} (h : bO l = 0) (m : Mail) : bO (posted l m) = 0 := by
 unfold posted
 split
 ·rename_i h1
  obtain ⟨h2, h3⟩ := (dD l).1 h
  refine (dD _).2 ⟨by simp only [List.length_append, List.length_cons, List.length_nil]; omega, fun x hx => ?_⟩
  rcases List.mem_append.1 hx with hx | hx
  ·exact h3 x hx
  ·rw [List.mem_singleton] at hx; subst hx; exact h1.1
 ·exact h
theorem IsW.withMail {w : Wld} {l : List Rec} (h : IsW w l) {q : List Mail} (hq : bO q = 0) : IsW ⟨w.h, w.d, w.up, w.c, q⟩ l :=
 ⟨h.three, hq, h.all, h.sixty, h.recd, h.up, h.down, h.cli⟩
theorem IsW.withCli {w : Wld} {l : List Rec} (h : IsW w l) {k : Nat} {c : Client} (hk : k < 3) (hc : bh c (k : Int) = 0) : IsW ⟨w.h, w.d, w.up, w.c.set k c, w.mail⟩ l :=
 ⟨by simp only [List.length_set]; exact h.three, h.mail, h.all, h.sixty, h.recd, h.up, h.down, fun j hj => by
  by_cases hjk : j = k
  ·subst hjk
   have : gt (w.c.set j c) j = c := by simp [gt, List.getD_eq_getElem?_getD, h.three, hj]
   simp only [this]; exact hc
  ·have : gt (w.c.set k c) j = gt w.c j := by simp [gt, List.getD_eq_getElem?_getD, List.getElem?_set_ne (Ne.symm hjk)]
   simp only [this]; exact h.cli j hj⟩
theorem wc {l : List Mail} {k : Int} {t : Bool} (h0 : (aA l k t).2.2 = 0) : bO (aA l k t).1 = 0 := by
 obtain ⟨h1, h2, h3, h4⟩ := jG h0
 obtain ⟨h5, h6⟩ := (dD l).1 h1
 rw [h4]
 cases t with
 | true => exact h1
 | false =>
  refine (dD _).2 ⟨?_, fun x hx => ?_⟩
  ·simp only [cond_false, List.length_append, List.length_take, List.length_drop]; omega
  ·rcases List.mem_append.1 hx with hx | hx
   ·exact h6 x (List.mem_of_mem_take hx)
   ·exact h6 x (List.mem_of_mem_drop hx)
theorem u0 {c : Client} {me : Int} {m : Mail} (h : (aL c me m).2 = 0) : bh (aL c me m).1 me = 0 := by
 obtain ⟨hc, hs, _, _, h1⟩ := pP h
 rcases h1 with h1 | ⟨v, hv, hst, h1⟩
 ·rw [h1]; exact (cL _ _).2 hc
 ·rw [h1]; exact (cL _ _).2 (qm hc hs hst hv).1
theorem ou {life time : Int} {k : Nat} (hk : k < 3) (h : (bU life time).2 = 0) : bh (bU life time).1 (k : Int) = 0 ∧ (bU life time).1 = ⟨life, time, 0, [], 0, ⟨[], [], []⟩⟩ := by
 unfold bU at h ⊢
 cases h1 : (((decide (life < 1) || decide (life > 50)) || decide (time < 0)) || decide (time > 10000)) with
 | true => rw [h1] at h; cases h
 | false =>
  simp only [Bool.or_eq_false_iff, decide_eq_false_iff_not] at h1
  rw [cond_false]
  refine ⟨(cL _ _).2 ⟨by omega, by simp only; omega, by simp, (dr (⟨[], [], []⟩ : View)).1 (by decide), fun h => by simp only at h; omega, fun _ => rfl, by simp, fun i hi => by simp at hi⟩, rfl⟩
abbrev opRec (o : Op) : Rec := ⟨1, 0, 0, [], o⟩
abbrev gT (w : Wld) (who : Int) : Rec := ⟨2, who, (gt w.h.peers who.toNat).life + 1, [], ⟨0, 0, 0, 0, 0, 0, 0⟩⟩
abbrev ii (who : Int) (roots : List Int) : Rec := ⟨3, who, 0, roots, ⟨0, 0, 0, 0, 0, 0, 0⟩⟩
abbrev tw (who : Int) (o : Op) : Mail := ⟨1, who, 0, 0, 0, 0, 0, o, ⟨[], [], []⟩, ⟨[], [], [], []⟩⟩
def nQ (l : List Mail) (x : Happening) : List Mail := bif x.kind == 8 then l else l.take x.n.toNat ++ l.drop (x.n + 1).toNat
structure Shown (w : Wld) (l : List Rec) (x : Happening) (m : Mail) : Prop where
 sees : (bs w.h x.who).2 = 0
 life : (gt w.h.peers x.who.toNat).life ≠ 0
 case : m = ⟨2, x.who, (gt w.h.peers x.who.toNat).life, (gt w.h.peers x.who.toNat).seq, d7 w.h, w.h.version, 0, ⟨0, 0, 0, 0, 0, 0, 0⟩, (bs w.h x.who).1, ⟨[], [], [], []⟩⟩ ∨
  (0 ≤ x.n ∧ x.n < w.h.version ∧ ∃ g : Hub, aq (l.take x.n.toNat) = (g, 0) ∧ (gt g.peers x.who.toNat).life = (gt w.h.peers x.who.toNat).life ∧ (gt g.peers x.who.toNat).roots = (gt w.h.peers x.who.toNat).roots ∧ (bs g x.who).2 = 0 ∧
   (cZ (bs g x.who).1 (bs w.h x.who).1).2 = 0 ∧
   m = ⟨3, x.who, (gt w.h.peers x.who.toNat).life, (gt w.h.peers x.who.toNat).seq, d7 w.h, w.h.version, x.n, ⟨0, 0, 0, 0, 0, 0, 0⟩, ⟨[], [], []⟩, (cZ (bs g x.who).1 (bs w.h x.who).1).1⟩)
inductive Hap (w : Wld) (l : List Rec) (x : Happening) : Wld → List Rec → Prop
 | hear (hx : x.kind = 7 ∨ x.kind = 8) (hn : 0 ≤ x.n ∧ x.n < (w.mail.length : Int)) (m : Mail) (hm : m = gt w.mail x.n.toNat) (hk : m.kind ≠ 1) (hh : (aL (gt w.c m.who.toNat) m.who m).2 = 0) :
   Hap w l x ⟨w.h, w.d, w.up, w.c.set m.who.toNat (aL (gt w.c m.who.toNat) m.who m).1, nQ w.mail x⟩ l
 | got (hx : x.kind = 7 ∨ x.kind = 8) (hn : 0 ≤ x.n ∧ x.n < (w.mail.length : Int)) (m : Mail) (hm : m = gt w.mail x.n.toNat) (hk : m.kind = 1) (hu : w.up = true) (h0 : (aJ w.h (opRec m.o)).2 = 0) :
   Hap w l x ⟨(aJ w.h (opRec m.o)).1, ⟨bA (l ++ [opRec m.o]), []⟩, w.up, w.c, nQ w.mail x⟩ (l ++ [opRec m.o])
 | late (hx : x.kind = 7 ∨ x.kind = 8) (hn : 0 ≤ x.n ∧ x.n < (w.mail.length : Int)) (m : Mail) (hm : m = gt w.mail x.n.toNat) (hk : m.kind = 1) (hu : w.up = true) (h0 : (aJ w.h (opRec m.o)).2 ≠ 0) :
   Hap w l x ⟨w.h, w.d, w.up, w.c, nQ w.mail x⟩ l
 | lose (hx : x.kind = 9) (hn : 0 ≤ x.n ∧ x.n < (w.mail.length : Int)) : Hap w l x ⟨w.h, w.d, w.up, w.c, w.mail.take x.n.toNat ++ w.mail.drop (x.n + 1).toNat⟩ l
 | crash (hx : x.kind = 10) (hu : w.up = true) : Hap w l x ⟨b8, w.d, false, w.c, w.mail⟩ l
 | boot (hx : x.kind = 11) (hu : w.up = false) (h0 : (aq l).2 = 0) : Hap w l x ⟨(aq l).1, ⟨bA l, []⟩, true, w.c, w.mail⟩ l
 | move (hx : x.kind = 1) (hw : 0 ≤ x.who ∧ x.who < 3) (h0 : (bz (gt w.c x.who.toNat) x.who x.node x.parent x.name).2.2 = 0) :
   Hap w l x ⟨w.h, w.d, w.up, w.c.set x.who.toNat (bz (gt w.c x.who.toNat) x.who x.node x.parent x.name).1, posted w.mail (tw x.who (bz (gt w.c x.who.toNat) x.who x.node x.parent x.name).2.1)⟩ l
 | again (hx : x.kind = 2) (hw : 0 ≤ x.who ∧ x.who < 3) (hn : 0 ≤ x.n ∧ x.n < ((gt w.c x.who.toNat).pending.length : Int)) :
   Hap w l x ⟨w.h, w.d, w.up, w.c, posted w.mail (tw x.who (gt (gt w.c x.who.toNat).pending x.n.toNat))⟩ l
 | began (hx : x.kind = 6) (hw : 0 ≤ x.who ∧ x.who < 3) (hu : w.up = true) (h0 : (aJ w.h (gT w x.who)).2 = 0) (h1 : (bU ((gt w.h.peers x.who.toNat).life + 1) (d7 (aJ w.h (gT w x.who)).1)).2 = 0) :
   Hap w l x ⟨(aJ w.h (gT w x.who)).1, ⟨bA (l ++ [gT w x.who]), []⟩, w.up, w.c.set x.who.toNat (bU ((gt w.h.peers x.who.toNat).life + 1) (d7 (aJ w.h (gT w x.who)).1)).1, w.mail⟩ (l ++ [gT w x.who])
 | roots (hx : x.kind = 5) (hw : 0 ≤ x.who ∧ x.who < 3) (hu : w.up = true) (h0 : (aJ w.h (ii x.who x.roots)).2 = 0) :
   Hap w l x ⟨(aJ w.h (ii x.who x.roots)).1, ⟨bA (l ++ [ii x.who x.roots]), []⟩, w.up, w.c, w.mail⟩ (l ++ [ii x.who x.roots])
 | shown (hx : x.kind = 3 ∨ x.kind = 4) (hw : 0 ≤ x.who ∧ x.who < 3) (hu : w.up = true) (m : Mail) (hm : Shown w l x m) : Hap w l x ⟨w.h, w.d, w.up, w.c, posted w.mail m⟩ l
theorem Hap.keeps {w w' : Wld} {l l' : List Rec} {x : Happening} (h : IsW w l) (hp : Hap w l x w' l') : IsW w' l' := by
 have hleft : ∀ (_ : x.kind = 7 ∨ x.kind = 8) (_ : 0 ≤ x.n ∧ x.n < (w.mail.length : Int)), bO (nQ w.mail x) = 0 := fun _ hn => by
  obtain ⟨h5, h6⟩ := (dD _).1 h.mail
  unfold nQ
  cases (x.kind == 8) with
  | true => exact h.mail
  | false =>
   refine (dD _).2 ⟨?_, fun y hy => ?_⟩
   ·simp only [cond_false, List.length_append, List.length_take, List.length_drop]; omega
   ·rcases List.mem_append.1 hy with hy | hy
    ·exact h6 y (List.mem_of_mem_take hy)
    ·exact h6 y (List.mem_of_mem_drop hy)
 cases hp with
 | hear hx hn m hm hk hh =>
  have hw : 0 ≤ m.who ∧ m.who < 3 := by rw [hm]; exact f9 (((dD _).1 h.mail).2 _ (gn (by omega)))
  refine (h.withCli (k := m.who.toNat) (by omega) ?_).withMail (hleft hx hn)
  rw [Int.toNat_of_nonneg hw.1]; exact u0 hh
 | got hx hn m hm hk hu h0 => exact qI (h.withMail (hleft hx hn)) hu h0
 | late hx hn m hm hk hu h0 => exact h.withMail (hleft hx hn)
 | lose hx hn =>
  obtain ⟨h5, h6⟩ := (dD _).1 h.mail
  refine h.withMail ((dD _).2 ⟨?_, fun y hy => ?_⟩)
  ·simp only [List.length_append, List.length_take, List.length_drop]; omega
  ·rcases List.mem_append.1 hy with hy | hy
   ·exact h6 y (List.mem_of_mem_take hy)
   ·exact h6 y (List.mem_of_mem_drop hy)
 | crash hx hu => exact ⟨h.three, h.mail, h.all, h.sixty, h.recd, fun hu => (by cases hu), fun _ => rfl, h.cli⟩
 | boot hx hu h0 => exact ⟨h.three, h.mail, h.all, h.sixty, mD h.all h.sixty, fun _ => ⟨rfl, Prod.ext rfl h0⟩, fun hu => (by cases hu), h.cli⟩
 | move hx hw h0 =>
  obtain ⟨a1, a2, a3, a4, a5, a6, a7⟩ := nn h0
  refine (h.withCli (k := x.who.toNat) (by omega) ?_).withMail (nF h.mail _)
  rw [a7, Int.toNat_of_nonneg hw.1]
  exact (cL _ _).2 (qg a1 a2 a3 a4 a5 a6)
 | again hx hw hn => exact h.withMail (nF h.mail _)
 | began hx hw hu h0 h1 => exact (qI h hu h0).withCli (k := x.who.toNat) (by omega) (ou (by omega) h1).1
 | roots hx hw hu h0 => exact qI h hu h0
 | shown hx hw hu m hm => exact h.withMail (nF h.mail m)
theorem rI {w : Wld} {l : List Rec} {x : Happening} (h : IsW w l) (hx : x.kind = 7 ∨ x.kind = 8) (h0 : (cj w x).1 = 0) : ∃ l', Hap w l x (cj w x).2 l' := by
 unfold cj at h0 ⊢
 cases h1 : ((aA w.mail x.n (x.kind == 8)).2.2 != 0) with
 | true => rw [h1, cond_true] at h0; simp only at h0; rw [h0] at h1; cases h1
 | false =>
 obtain ⟨_, t2, t3, t4⟩ := jG (ae h1)
 rw [h1, cond_false] at h0
 rw [cond_false]
 rw [t4] at h0 ⊢
 cases h2 : ((gt w.mail x.n.toNat).kind != 1) with
 | true =>
  simp only [h2, cond_true] at h0 ⊢
  cases h3 : ((aL (gt w.c (gt w.mail x.n.toNat).who.toNat) (gt w.mail x.n.toNat).who (gt w.mail x.n.toNat)).2 == 0) with
  | false => rw [h3, cond_false] at h0; simp only at h0; rw [h0] at h3; cases h3
  | true => exact ⟨l, .hear hx ⟨t2, t3⟩ _ rfl (bne_iff_ne.1 h2) (eq_of_beq h3)⟩
 | false =>
  simp only [h2, cond_false] at h0 ⊢
  cases hu : w.up with
  | false => rw [hu] at h0; cases h0
  | true =>
   simp only [Bool.not_true, cond_false]
   have hT : bO (bif x.kind == 8 then w.mail else w.mail.take x.n.toNat ++ w.mail.drop (x.n + 1).toNat) = 0 := by
    have := wc (ae h1); rwa [t4] at this
   have hw := h.withMail hT
   rw [hu] at hw
   rw [o7 hw rfl]
   by_cases hn : (aJ w.h (opRec (gt w.mail x.n.toNat).o)).2 = 0
   ·rw [if_pos hn]
    have := Hap.got (l := l) hx ⟨t2, t3⟩ _ rfl (ae h2) hu hn
    rw [hu] at this
    exact ⟨_, this⟩
   ·rw [if_neg hn]
    have := Hap.late (l := l) hx ⟨t2, t3⟩ _ rfl (ae h2) hu hn
    rw [hu] at this
    exact ⟨_, this⟩
theorem p8 {w : Wld} {l : List Rec} {x : Happening} (h : IsW w l) (hk : x.kind = 10 ∨ x.kind = 11) (h0 : (bR w x).1 = 0) : Hap w l x (bR w x).2 l := by
 unfold bR at h0 ⊢
 cases h1 : (w.up == (x.kind == 11)) with
 | true => rw [h1] at h0; cases h0
 | false =>
 rw [h1, cond_false] at h0
 rw [cond_false]
 rcases hk with hk | hk
 ·have e1 : (x.kind == 10) = true := by rw [hk]; rfl
  have e2 : (x.kind == 11) = false := by rw [hk]; rfl
  rw [e1, cond_true]
  refine .crash hk ?_
  rw [e2] at h1
  cases hu : w.up with
  | true => rfl
  | false => rw [hu] at h1; cases h1
 ·have e1 : (x.kind == 10) = false := by rw [hk]; rfl
  have e2 : (x.kind == 11) = true := by rw [hk]; rfl
  rw [e1, cond_false] at h0 ⊢
  simp only [h.recd, bne_self_eq_false, cond_false] at h0 ⊢
  cases h3 : ((aq l).2 == 0) with
  | false => rw [h3, cond_false] at h0; simp only at h0; rw [h0] at h3; cases h3
  | true =>
   refine .boot hk ?_ (eq_of_beq h3)
   rw [e2] at h1
   cases hu : w.up with
   | false => rfl
   | true => rw [hu] at h1; cases h1
theorem uy {w : Wld} {l : List Rec} {x : Happening} (h : IsW w l) (hx : x.kind = 3 ∨ x.kind = 4) (hw : 0 ≤ x.who ∧ x.who < 3) (hu : w.up = true) (h0 : (b4 w x).1 = 0) : Hap w l x (b4 w x).2 l := by
 unfold b4 at h0 ⊢
 cases h1 : ((bs w.h x.who).2 != 0) with
 | true => rw [h1, cond_true] at h0; simp only at h0; rw [h0] at h1; cases h1
 | false =>
 rw [h1, cond_false] at h0
 rw [cond_false]
 cases h2 : ((gt w.h.peers x.who.toNat).life == 0) with
 | true => rw [h2] at h0; cases h0
 | false =>
 rw [h2, cond_false] at h0
 rw [cond_false]
 have hl := beq_eq_false_iff_ne.1 h2
 cases h3 : (x.kind == 4) with
 | false =>
  rw [cond_false]
  simp only
  rw [pr h]
  exact .shown hx hw hu _ ⟨ae h1, hl, .inl rfl⟩
 | true =>
  rw [h3, cond_true] at h0
  rw [cond_true]
  cases h4 : (decide (x.n < 0) || decide (x.n ≥ w.h.version)) with
  | true => rw [h4] at h0; cases h0
  | false =>
  rw [h4, cond_false] at h0
  rw [cond_false]
  simp only [Bool.or_eq_false_iff, decide_eq_false_iff_not] at h4
  simp only [h.recd, bne_self_eq_false, cond_false] at h0 ⊢
  cases h5 : ((aq (l.take x.n.toNat)).2 != 0) with
  | true => rw [h5, cond_true] at h0; simp only at h0; rw [h0] at h5; cases h5
  | false =>
  rw [h5, cond_false] at h0
  rw [cond_false]
  have h5 := ae h5
  generalize hG : aq (l.take x.n.toNat) = G at *
  obtain ⟨g, e⟩ := G
  simp only at h5
  subst h5
  simp only at h0 ⊢
  cases h6 : (((gt g.peers x.who.toNat).life != (gt w.h.peers x.who.toNat).life) || (!(decide ((gt g.peers x.who.toNat).roots = (gt w.h.peers x.who.toNat).roots)))) with
  | true => rw [h6] at h0; cases h0
  | false =>
  rw [h6, cond_false] at h0
  rw [cond_false]
  simp only [Bool.or_eq_false_iff, bne_eq_false_iff_eq, Bool.not_eq_false', decide_eq_true_eq] at h6
  cases h7 : ((bs g x.who).2 != 0) with
  | true => rw [h7, cond_true] at h0; simp only at h0; rw [h0] at h7; cases h7
  | false =>
  rw [h7, cond_false] at h0
  rw [cond_false]
  cases h8 : ((cZ (bs g x.who).1 (bs w.h x.who).1).2 != 0) with
  | true => rw [h8, cond_true] at h0; simp only at h0; rw [h0] at h8; cases h8
  | false =>
  rw [cond_false]
  simp only
  rw [pr h]
  exact .shown hx hw hu _ ⟨ae h1, hl, .inr ⟨by omega, by omega, g, hG, h6.1, h6.2, ae h7, ae h8, rfl⟩⟩
theorem qf {w : Wld} {l : List Rec} {x : Happening} (h : IsW w l) (hx : 1 ≤ x.kind ∧ x.kind ≤ 6) (h0 : (aH w x).1 = 0) : ∃ l', Hap w l x (aH w x).2 l' := by
 unfold aH at h0 ⊢
 cases h1 : (decide (x.who < 0) || decide (x.who ≥ (w.c.length : Int))) with
 | true => rw [h1] at h0; cases h0
 | false =>
 have hw : 0 ≤ x.who ∧ x.who < 3 := by
  simp only [h.three, Bool.or_eq_false_iff, decide_eq_false_iff_not] at h1; omega
 rw [h1, cond_false] at h0
 rw [cond_false]
 cases h2 : (x.kind == 1) with
 | true =>
  rw [h2, cond_true] at h0
  rw [cond_true]
  cases h3 : ((bz (gt w.c x.who.toNat) x.who x.node x.parent x.name).2.2 != 0) with
  | true => rw [h3, cond_true] at h0; simp only at h0; rw [h0] at h3; cases h3
  | false =>
   rw [cond_false]
   obtain ⟨a1, a2, a3, a4, a5, a6, a7⟩ := nn (ae h3)
   have hc : bh (bz (gt w.c x.who.toNat) x.who x.node x.parent x.name).1 ((x.who.toNat : Nat) : Int) = 0 := by
    rw [a7, Int.toNat_of_nonneg hw.1]; exact (cL _ _).2 (qg a1 a2 a3 a4 a5 a6)
   simp only
   rw [pr (h.withCli (k := x.who.toNat) (by omega) hc)]
   exact ⟨l, .move (eq_of_beq h2) hw (ae h3)⟩
 | false =>
 rw [h2, cond_false] at h0
 rw [cond_false]
 cases h3 : (x.kind == 2) with
 | true =>
  rw [h3, cond_true] at h0
  rw [cond_true]
  cases h4 : (decide (x.n < 0) || decide (x.n ≥ ((gt w.c x.who.toNat).pending.length : Int))) with
  | true => rw [h4] at h0; cases h0
  | false =>
   simp only [Bool.or_eq_false_iff, decide_eq_false_iff_not] at h4
   rw [cond_false]
   simp only
   rw [pr h]
   exact ⟨l, .again (eq_of_beq h3) hw (by omega)⟩
 | false =>
 rw [h3, cond_false] at h0
 rw [cond_false]
 cases hu : w.up with
 | false => rw [hu] at h0; cases h0
 | true =>
 rw [hu, Bool.not_true, cond_false] at h0
 rw [Bool.not_true, cond_false]
 cases h4 : (x.kind == 6) with
 | true =>
  rw [h4, cond_true] at h0
  rw [cond_true]
  simp only at h0 ⊢
  unfold cw at h0 ⊢
  rw [o7 h hu] at h0 ⊢
  by_cases hn : (aJ w.h (gT w x.who)).2 = 0
  ·rw [if_pos hn] at h0 ⊢
   simp only [bne_self_eq_false, cond_false] at h0 ⊢
   cases h5 : ((bU ((gt w.h.peers x.who.toNat).life + 1) (d7 (aJ w.h (gT w x.who)).1)).2 == 0) with
   | false => rw [h5, cond_false] at h0; simp only at h0; rw [h0] at h5; cases h5
   | true => exact ⟨_, .began (eq_of_beq h4) hw hu hn (eq_of_beq h5)⟩
  ·rw [if_neg hn] at h0
   have : ((aJ w.h (gT w x.who)).2 != 0) = true := by simpa using hn
   simp only [this, cond_true] at h0
   exact absurd h0 hn
 | false =>
 rw [h4, cond_false] at h0
 rw [cond_false]
 cases h5 : (x.kind == 5) with
 | true =>
  rw [h5, cond_true] at h0
  rw [cond_true]
  simp only at h0 ⊢
  rw [o7 h hu] at h0 ⊢
  by_cases hn : (aJ w.h (ii x.who x.roots)).2 = 0
  ·rw [if_pos hn]; exact ⟨_, .roots (eq_of_beq h5) hw hu hn⟩
  ·rw [if_neg hn] at h0; exact absurd h0 hn
 | false =>
  rw [h5, cond_false] at h0
  rw [cond_false]
  simp only [beq_eq_false_iff_ne] at h2 h3 h4 h5
  exact ⟨l, uy h (by omega) hw hu h0⟩
theorem mv {w : Wld} {l : List Rec} {x : Happening} (h : IsW w l) (h0 : (ax w x).1 = 0) : ∃ l', Hap w l x (ax w x).2 l' := by
 have hc : ∀ (_ : 1 ≤ x.kind ∧ x.kind ≤ 6) (z : Int × Wld), z = ((aH w x).1, (aH w x).2) → z.1 = 0 → ∃ l', Hap w l x z.2 l' := fun hx z hz h0 => by
  subst hz; exact qf h hx h0
 unfold ax at h0 ⊢
 cases h1 : (x.kind == 7) with
 | true => rw [h1, cond_true] at h0; rw [cond_true]; exact rI h (.inl (eq_of_beq h1)) h0
 | false =>
 rw [h1, cond_false] at h0; rw [cond_false]
 cases h2 : (x.kind == 8) with
 | true => rw [h2, cond_true] at h0; rw [cond_true]; exact rI h (.inr (eq_of_beq h2)) h0
 | false =>
 rw [h2, cond_false] at h0; rw [cond_false]
 cases h3 : (x.kind == 9) with
 | true =>
  rw [h3, cond_true] at h0
  rw [cond_true]
  cases h4 : ((aA w.mail x.n false).2.2 == 0) with
  | true =>
   obtain ⟨_, t2, t3, t4⟩ := jG (eq_of_beq h4)
   rw [cond_true, t4]
   exact ⟨l, .lose (eq_of_beq h3) ⟨t2, t3⟩⟩
  | false => rw [h4, cond_false] at h0; simp only at h0; rw [h0] at h4; cases h4
 | false =>
 rw [h3, cond_false] at h0; rw [cond_false]
 cases h4 : (x.kind == 10) with
 | true => rw [h4, cond_true] at h0; rw [cond_true]; exact ⟨l, p8 h (.inl (eq_of_beq h4)) h0⟩
 | false =>
 rw [h4, cond_false] at h0; rw [cond_false]
 cases h5 : (x.kind == 11) with
 | true => rw [h5, cond_true] at h0; rw [cond_true]; exact ⟨l, p8 h (.inr (eq_of_beq h5)) h0⟩
 | false =>
 rw [h5, cond_false] at h0; rw [cond_false]
 cases h6 : (x.kind == 1) with
 | true => rw [h6, cond_true] at h0; rw [cond_true]; exact hc (by rw [eq_of_beq h6]; decide) _ rfl h0
 | false =>
 rw [h6, cond_false] at h0; rw [cond_false]
 cases h7 : (x.kind == 2) with
 | true => rw [h7, cond_true] at h0; rw [cond_true]; exact hc (by rw [eq_of_beq h7]; decide) _ rfl h0
 | false =>
 rw [h7, cond_false] at h0; rw [cond_false]
 cases h8 : (x.kind == 3) with
 | true => rw [h8, cond_true] at h0; rw [cond_true]; exact hc (by rw [eq_of_beq h8]; decide) _ rfl h0
 | false =>
 rw [h8, cond_false] at h0; rw [cond_false]
 cases h9 : (x.kind == 4) with
 | true => rw [h9, cond_true] at h0; rw [cond_true]; exact hc (by rw [eq_of_beq h9]; decide) _ rfl h0
 | false =>
 rw [h9, cond_false] at h0; rw [cond_false]
 cases h10 : (x.kind == 5) with
 | true => rw [h10, cond_true] at h0; rw [cond_true]; exact hc (by rw [eq_of_beq h10]; decide) _ rfl h0
 | false =>
 rw [h10, cond_false] at h0; rw [cond_false]
 cases h11 : (x.kind == 6) with
 | true => rw [h11, cond_true] at h0; rw [cond_true]; exact hc (by rw [eq_of_beq h11]; decide) _ rfl h0
 | false => rw [h11] at h0; cases h0
theorem mU {w : Wld} {x : Happening} (h : aW w = 0) (h0 : (ax w x).1 = 0) : aW (ax w x).2 = 0 := by
 obtain ⟨l, hl⟩ := (d8 w).1 h
 obtain ⟨l', hp⟩ := mv hl h0
 exact (d8 _).2 ⟨l', hp.keeps hl⟩
end Go.Proofs.YtpkaloknohpleaaGreatDoor

set_option maxHeartbeats 2000000
namespace Go.Proofs.YtpkaloknohpleaaGreatDoor
open Go Go.Proofs.YtpkaloknohpleaaGreatDoor.Fw Go.Proofs
attribute [local irreducible] RdL RdN VarP LibP RW CW
def cE (w1 : Wld) (x1 : Happening) : Wld × Int :=
 (bif ((aW w1) != 0) then ((⟨(⟨(⟨[], []⟩ : History), 0, ([] : List Peer)⟩ : Hub), (⟨[], []⟩ : Disk), false, ([] : List Client), ([] : List Mail)⟩ : Wld), (aW w1)) else (bif ((ax w1 x1).1 != 0) then ((⟨(⟨(⟨[], []⟩ : History), 0, ([] : List Peer)⟩ : Hub), (⟨[], []⟩ : Disk), false, ([] : List Client), ([] : List Mail)⟩ : Wld), (ax w1 x1).1) else ((ax w1 x1).2, 0)))
theorem lL (y1 : SlV) (y2 : SlV) (y3 : SlV) (y4 : SlV) (y5 : SlV) (y6 : SlV) (y7 : SlV) (w1 : Wld) (y8 : SlV) (x1 : Happening) : Does Tryz.prog 20 [.agg ⟨[y1.val w1.h.h.l.length, y2.val w1.h.h.t.length, .int .i64 w1.h.version, y3.val w1.h.peers.length, y4.val w1.d.safe.length, y5.val w1.d.wait.length, .bool w1.up, y6.val w1.c.length, y7.val w1.mail.length]⟩, .agg ⟨[.int .i64 x1.kind, .int .i64 x1.who, .int .i64 x1.n, .int .i64 x1.node, .int .i64 x1.parent, .int .i64 x1.name, y8.val x1.roots.length]⟩] [RdL EStep y1 w1.h.h.l, RdL EPlace y2 w1.h.h.t, RdN NPeer y3 w1.h.peers, RdL EByte y4 w1.d.safe, RdL EByte y5 w1.d.wait, RdN NClient y6 w1.c, RdN NMail y7 w1.mail, RdL EInt y8 x1.roots, LibP Tryz.prog] (fun (X : SlV × SlV × SlV × SlV × SlV × SlV × SlV) => .tuple #[.agg ⟨[X.1.val (cE w1 x1).1.h.h.l.length, X.2.1.val (cE w1 x1).1.h.h.t.length, .int .i64 (cE w1 x1).1.h.version, X.2.2.1.val (cE w1 x1).1.h.peers.length, X.2.2.2.1.val (cE w1 x1).1.d.safe.length, X.2.2.2.2.1.val (cE w1 x1).1.d.wait.length, .bool (cE w1 x1).1.up, X.2.2.2.2.2.1.val (cE w1 x1).1.c.length, X.2.2.2.2.2.2.val (cE w1 x1).1.mail.length]⟩, .int .i64 (cE w1 x1).2]) (fun X => [RdL EStep X.1 (cE w1 x1).1.h.h.l, RdL EPlace X.2.1 (cE w1 x1).1.h.h.t, RdN NPeer X.2.2.1 (cE w1 x1).1.h.peers, RdL EByte X.2.2.2.1 (cE w1 x1).1.d.safe, RdL EByte X.2.2.2.2.1 (cE w1 x1).1.d.wait, RdN NClient X.2.2.2.2.2.1 (cE w1 x1).1.c, RdN NMail X.2.2.2.2.2.2 (cE w1 x1).1.mail]) := by
 refine bj aZ Tryz.func20 rfl Tryz.ntmps20 Tryz.results20 rfl inferInstance (fun _ => inferInstance) fun C => ?_
 refine Pc EStep y1 w1.h.h.l 88 fun hlen1 => ?_
 refine Pc EPlace y2 w1.h.h.t 24 fun hlen2 => ?_
 refine Pn NPeer y3 w1.h.peers 40 fun hlen3 => ?_
 refine Pc EByte y4 w1.d.safe 1 fun hlen4 => ?_
 refine Pc EByte y5 w1.d.wait 1 fun hlen5 => ?_
 refine Pn NClient y6 w1.c 128 fun hlen6 => ?_
 refine Pn NMail y7 w1.mail 280 fun hlen7 => ?_
 refine Pc EInt y8 x1.roots 8 fun hlen8 => ?_
 refine Tx ?_
 refine Bx fun g1 => ?_
 refine Bx fun g2 => ?_
 refine Al fun g3 => ?_
 refine Tx ?_
 refine Cl (fR y1 y2 y3 y4 y5 y6 y7 w1) fun _ => ?_
 refine Tx ?_
 refine Cd (b := ((aW w1) != 0)) (fun hc1 => ?_) fun hc1 => ?_
 ·have hc1p := bne_iff_ne.1 hc1
  refine Tx ?_
  refine Fc EStep ?_
  refine Fc EPlace ?_
  refine cS (F := RdN NPeer ⟨none, 0⟩ ([] : List Peer)) [] (.nil _) (fun M w _ => RdN.nil _ M w) ?_
  refine Fc EByte ?_
  refine cS (F := RdN NClient ⟨none, 0⟩ ([] : List Client)) [] (.nil _) (fun M w _ => RdN.nil _ M w) ?_
  refine cS (F := RdN NMail ⟨none, 0⟩ ([] : List Mail)) [] (.nil _) (fun M w _ => RdN.nil _ M w) ?_
  refine ai ?_; simp only [cE, hc1, Cf]; exact Re ⟨(⟨none, 0⟩ : SlV), (⟨none, 0⟩ : SlV), (⟨none, 0⟩ : SlV), (⟨none, 0⟩ : SlV), (⟨none, 0⟩ : SlV), (⟨none, 0⟩ : SlV), (⟨none, 0⟩ : SlV)⟩ (Va (Vt Vn))
 ·have hc1p := ae hc1
  refine Tx ?_
  refine Cg (gP y1 y2 y3 y4 y5 y6 y7 w1) fun x2 => ?_
  refine Tx ?_
  refine aV (jk g1 x2.1 x2.2.1 x2.2.2.1 x2.2.2.2.1 x2.2.2.2.2.1 x2.2.2.2.2.2.1 x2.2.2.2.2.2.2.1 x2.2.2.2.2.2.2.2.1 x2.2.2.2.2.2.2.2.2 w1 y8 x1 (jj (by first | assumption | exact hinv | exact ae hc1)).1 (jj (by first | assumption | exact hinv | exact ae hc1)).2.1 (jj (by first | assumption | exact hinv | exact ae hc1)).2.2) .sq (.inl ⟨_, rfl⟩) (ac rfl) rfl rfl rfl Kr rfl rfl Sm Tk Tk ?_
  intro x3
  refine Tx ?_
  refine Cd (b := ((ax w1 x1).1 != 0)) (fun hc2 => ?_) fun hc2 => ?_
  ·have hc2p := bne_iff_ne.1 hc2
   refine Tx ?_
   refine Fc EStep ?_
   refine Fc EPlace ?_
   refine cS (F := RdN NPeer ⟨none, 0⟩ ([] : List Peer)) [] (.nil _) (fun M w _ => RdN.nil _ M w) ?_
   refine Fc EByte ?_
   refine cS (F := RdN NClient ⟨none, 0⟩ ([] : List Client)) [] (.nil _) (fun M w _ => RdN.nil _ M w) ?_
   refine cS (F := RdN NMail ⟨none, 0⟩ ([] : List Mail)) [] (.nil _) (fun M w _ => RdN.nil _ M w) ?_
   refine ai ?_; simp only [cE, hc1, hc2, Cf]; exact Re ⟨(⟨none, 0⟩ : SlV), (⟨none, 0⟩ : SlV), (⟨none, 0⟩ : SlV), (⟨none, 0⟩ : SlV), (⟨none, 0⟩ : SlV), (⟨none, 0⟩ : SlV), (⟨none, 0⟩ : SlV)⟩ (Va (Vt Vn))
  ·have hc2p := ae hc2
   refine Tx ?_
   refine cw_le (ay NClient.E 61 x3.2.2.2.2.2.1 x3.2.2.2.2.2.2.1 (zipG x3.2.2.2.2.2.2.2.1 0 (ax w1 x1).2.c) Uo) ?_
   refine cS (F := RdN NClient x3.2.2.2.2.2.1 (ax w1 x1).2.c) [RdG NClient x3.2.2.2.2.2.1 x3.2.2.2.2.2.2.2.1 (ax w1 x1).2.c, am NClient x3.2.2.2.2.2.2.2.1 (ax w1 x1).2.c] Sm (fun M w h => RdN.ofG NClient (h _ (.head _)) (h _ (.tail _ (.head _)))) ?_
   refine ai ?_; simp only [cE, hc1, hc2, Cf]; exact Re ⟨x3.1, x3.2.1, x3.2.2.1, x3.2.2.2.1, x3.2.2.2.2.1, x3.2.2.2.2.2.1, x3.2.2.2.2.2.2.2.2⟩ (Va (Vt Vn))
end Go.Proofs.YtpkaloknohpleaaGreatDoor
