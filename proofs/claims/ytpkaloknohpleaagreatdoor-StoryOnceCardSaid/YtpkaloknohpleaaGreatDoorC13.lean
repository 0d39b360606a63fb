/- Part of this claim. No condition. -/
import Derived.Test.YtpkaloknohpleaaGreatDoorC12
import Derived.Test.YtpkaloknohpleaaGreatDoorC4
import Derived.Test.YtpkaloknohpleaaGreatDoorC11
import Derived.Test.YtpkaloknohpleaaGreatDoorRows
import Derived.Stop.LaidErr
import Derived.Shelf.Vars
import Derived.LaidMore
import Derived.Lay
import Derived.Handed
import Derived.SizedLaws
import Derived.Stop.Joined
import Derived.ProofKit
import Derived.Test.YtpkaloknohpleaaGreatDoorC2
import Derived.Test.YtpkaloknohpleaaGreatDoorC3
import Derived.Test.YtpkaloknohpleaaGreatDoorC9
set_option linter.unusedVariables false
set_option linter.unusedSimpArgs false
set_option maxHeartbeats 2000000
namespace Go.Proofs.YtpkaloknohpleaaGreatDoor
open Go Go.Proofs.YtpkaloknohpleaaGreatDoor.Fw Go.Proofs
attribute [local irreducible] RdL RdN VarP LibP RW CW
def en  : List Happening → (List Int) → Wld → (Wld × (List Int) × Int)
 | [], said1, w2 => (w2, said1, 0)
 | pn1 :: rn1, said1, w2 => (bif ((ax w2 pn1).1 == 0) then (en rn1 (said1 ++ [(ax w2 pn1).1]) (ax w2 pn1).2) else (en rn1 (said1 ++ [(ax w2 pn1).1]) w2))
def b7 (w1 : Wld) (l1 : List Happening) : Wld × (List Int) × Int :=
 (bif ((aW w1) != 0) then ((⟨(⟨(⟨[], []⟩ : History), 0, ([] : List Peer)⟩ : Hub), (⟨[], []⟩ : Disk), false, ([] : List Client), ([] : List Mail)⟩ : Wld), ([] : List Int), (aW w1)) else (bif decide ((l1.length : Int) > 100) then ((⟨(⟨(⟨[], []⟩ : History), 0, ([] : List Peer)⟩ : Hub), (⟨[], []⟩ : Disk), false, ([] : List Client), ([] : List Mail)⟩ : Wld), ([] : List Int), 2) else (en l1 [] w1)))
theorem oz (y1 : SlV) (y2 : SlV) (y3 : SlV) (y4 : SlV) (y5 : SlV) (y6 : SlV) (y7 : SlV) (w1 : Wld) (y8 : SlV) (l1 : List Happening) : Does Tryz.prog 33 [.agg ⟨[y1.val w1.h.h.l.length, y2.val w1.h.h.t.length, .int .i64 w1.h.version, y3.val w1.h.peers.length, y4.val w1.d.safe.length, y5.val w1.d.wait.length, .bool w1.up, y6.val w1.c.length, y7.val w1.mail.length]⟩, y8.val l1.length] [RdL EStep y1 w1.h.h.l, RdL EPlace y2 w1.h.h.t, RdN NPeer y3 w1.h.peers, RdL EByte y4 w1.d.safe, RdL EByte y5 w1.d.wait, RdN NClient y6 w1.c, RdN NMail y7 w1.mail, RdN NHap y8 l1, LibP Tryz.prog] (fun (X : SlV × SlV × SlV × SlV × SlV × SlV × SlV × SlV) => .tuple #[.agg ⟨[X.1.val (b7 w1 l1).1.h.h.l.length, X.2.1.val (b7 w1 l1).1.h.h.t.length, .int .i64 (b7 w1 l1).1.h.version, X.2.2.1.val (b7 w1 l1).1.h.peers.length, X.2.2.2.1.val (b7 w1 l1).1.d.safe.length, X.2.2.2.2.1.val (b7 w1 l1).1.d.wait.length, .bool (b7 w1 l1).1.up, X.2.2.2.2.2.1.val (b7 w1 l1).1.c.length, X.2.2.2.2.2.2.1.val (b7 w1 l1).1.mail.length]⟩, X.2.2.2.2.2.2.2.val (b7 w1 l1).2.1.length, .int .i64 (b7 w1 l1).2.2]) (fun X => [RdL EStep X.1 (b7 w1 l1).1.h.h.l, RdL EPlace X.2.1 (b7 w1 l1).1.h.h.t, RdN NPeer X.2.2.1 (b7 w1 l1).1.h.peers, RdL EByte X.2.2.2.1 (b7 w1 l1).1.d.safe, RdL EByte X.2.2.2.2.1 (b7 w1 l1).1.d.wait, RdN NClient X.2.2.2.2.2.1 (b7 w1 l1).1.c, RdN NMail X.2.2.2.2.2.2.1 (b7 w1 l1).1.mail, RdL EInt X.2.2.2.2.2.2.2 (b7 w1 l1).2.1]) := by
 refine bj aZ Tryz.func33 rfl Tryz.ntmps33 Tryz.results33 rfl inferInstance (fun _ => inferInstance) fun C => ?_
 refine Pc EStep y1 w1.h.h.l 88 fun hlen1 => ?_
 refine Pc EPlace y2 w1.h.h.t 24 fun hlen2 => ?_
 refine Pn NPeer y3 w1.h.peers 40 fun hlen3 => ?_
 refine Pc EByte y4 w1.d.safe 1 fun hlen4 => ?_
 refine Pc EByte y5 w1.d.wait 1 fun hlen5 => ?_
 refine Pn NClient y6 w1.c 128 fun hlen6 => ?_
 refine Pn NMail y7 w1.mail 280 fun hlen7 => ?_
 refine Pn NHap y8 l1 72 fun hlen8 => ?_
 refine Tx ?_
 refine Bx fun g1 => ?_
 refine Al fun g2 => ?_
 refine Tx ?_
 refine Cl (fR y1 y2 y3 y4 y5 y6 y7 w1) fun _ => ?_
 refine Tx ?_
 refine Cd (b := ((aW w1) != 0)) (fun hc1 => ?_) fun hc1 => ?_
 ·have hc1p := bne_iff_ne.1 hc1
  refine Tx ?_
  refine Fc EStep ?_
  refine Fc EPlace ?_
  refine cS (F := RdN NPeer ⟨none, 0⟩ ([] : List Peer)) [] (.nil _) (fun M w _ => RdN.nil _ M w) ?_
  refine Fc EByte ?_
  refine cS (F := RdN NClient ⟨none, 0⟩ ([] : List Client)) [] (.nil _) (fun M w _ => RdN.nil _ M w) ?_
  refine cS (F := RdN NMail ⟨none, 0⟩ ([] : List Mail)) [] (.nil _) (fun M w _ => RdN.nil _ M w) ?_
  refine Fc EInt ?_
  refine ai ?_; simp only [b7, hc1, Cf]; exact Re ⟨(⟨none, 0⟩ : SlV), (⟨none, 0⟩ : SlV), (⟨none, 0⟩ : SlV), (⟨none, 0⟩ : SlV), (⟨none, 0⟩ : SlV), (⟨none, 0⟩ : SlV), (⟨none, 0⟩ : SlV), (⟨none, 0⟩ : SlV)⟩ (Va (Vt (Vt Vn)))
 ·have hc1p := ae hc1
  refine Tx ?_
  refine Cd (b := decide ((l1.length : Int) > 100)) (fun hc2 => ?_) fun hc2 => ?_
  ·have hc2p := of_decide_eq_true hc2
   refine Tx ?_
   refine Fc EStep ?_
   refine Fc EPlace ?_
   refine cS (F := RdN NPeer ⟨none, 0⟩ ([] : List Peer)) [] (.nil _) (fun M w _ => RdN.nil _ M w) ?_
   refine Fc EByte ?_
   refine cS (F := RdN NClient ⟨none, 0⟩ ([] : List Client)) [] (.nil _) (fun M w _ => RdN.nil _ M w) ?_
   refine cS (F := RdN NMail ⟨none, 0⟩ ([] : List Mail)) [] (.nil _) (fun M w _ => RdN.nil _ M w) ?_
   refine Fc EInt ?_
   refine ai ?_; simp only [b7, hc1, hc2, Cf]; exact Re ⟨(⟨none, 0⟩ : SlV), (⟨none, 0⟩ : SlV), (⟨none, 0⟩ : SlV), (⟨none, 0⟩ : SlV), (⟨none, 0⟩ : SlV), (⟨none, 0⟩ : SlV), (⟨none, 0⟩ : SlV), (⟨none, 0⟩ : SlV)⟩ (Va (Vt (Vt Vn)))
  ·have hc2p := of_decide_eq_false hc2
   refine Tx ?_
   refine Cg (gP y1 y2 y3 y4 y5 y6 y7 w1) fun x1 => ?_
   refine rw_le (ay NClient.E 61 x1.2.2.2.2.2.1 x1.2.2.2.2.2.2.1 (zipG x1.2.2.2.2.2.2.2.1 0 w1.c) Uo) ?_
   refine aI (F := RdN NClient x1.2.2.2.2.2.1 w1.c) [RdG NClient x1.2.2.2.2.2.1 x1.2.2.2.2.2.2.2.1 w1.c, am NClient x1.2.2.2.2.2.2.2.1 w1.c] Sm (fun M w h => RdN.ofG NClient (h _ (.head _)) (h _ (.tail _ (.head _)))) ?_
   refine Tx ?_
   (repeat refine ao ?_); refine Lp [2,4,5,6,25,26] [true, false] (fun (i_ : List Int × SlV × Option Nat × Nat × Wld × SlV × SlV × SlV × SlV × SlV × SlV × SlV) => match i_ with | ⟨said1, x2, x2b, n1, w2, x3, x4, x5, x6, x7, x8, x9⟩ => (⟨[(8, .v (x2.val said1.length)), (27, .v (.int .i64 (n1 : Int)))], [⟨g1, 39, [x3.val w2.h.h.l.length, x4.val w2.h.h.t.length, .int .i64 w2.h.version, x5.val w2.h.peers.length, x6.val w2.d.safe.length, x7.val w2.d.wait.length, .bool w2.up, x8.val w2.c.length, x9.val w2.mail.length]⟩], [ownL EInt 42 x2 x2b said1], [RdL EStep x3 w2.h.h.l, RdL EPlace x4 w2.h.h.t, RdN NPeer x5 w2.h.peers, RdL EByte x6 w2.d.safe, RdL EByte x7 w2.d.wait, RdN NClient x8 w2.c, RdN NMail x9 w2.mail], (n1 ≤ l1.length) ∧ (said1.length ≤ n1) ∧ (aW w2 = 0) ∧ (en (l1.drop n1) said1 w2) = (b7 w1 l1), l1.length - n1⟩ : Ls)) ⟨[], ⟨none, 0⟩, none, 0, w1, x1.1, x1.2.1, x1.2.2.1, x1.2.2.2.1, x1.2.2.2.2.1, x1.2.2.2.2.2.1, x1.2.2.2.2.2.2.2.2⟩ (Sc (Sc (Sc (Sc (Sc (Sc Sn)))))) (.keep (.drop (.nil))) ⟨Nat.zero_le _, (by first | exact Nat.le_refl _ | exact Nat.zero_le _ | omega), (ae (by assumption)), (by simp only [b7, hc1, hc2, Cf] : (b7 w1 l1) = (en l1 [] w1)).symm⟩ (Le.trans (eO EInt 42) Le4) ?_
   rintro ⟨said1, x2, x2b, n1, w2, x3, x4, x5, x6, x7, x8, x9⟩ ⟨hkn1, hsaid1, hinv, hf1⟩
   simp only [List.cons_append, List.nil_append]
   refine Tx ?_
   refine Cd (b := decide ((n1 : Int) < (l1.length : Int))) (fun hc3 => ?_) fun hc3 => ?_
   ·have hlt0 : n1 < l1.length := Int.ofNat_lt.1 (of_decide_eq_true hc3)
    refine Tx ?_
    refine fj NHap (X := y8) (l := l1) Mm fun (γ1 : Nat → SlV) => ?_
    refine rw_q rfl rfl rfl (dw NHap γ1 n1 rfl rfl Zf rfl Zf rfl rfl rfl Mm rfl Zf (fun _ => by first | assumption | omega)) ?_
    refine rw_q rfl rfl rfl (q_is (v' := .agg ⟨[.int .i64 (gt l1 n1).kind, .int .i64 (gt l1 n1).who, .int .i64 (gt l1 n1).n, .int .i64 (gt l1 n1).node, .int .i64 (gt l1 n1).parent, .int .i64 (gt l1 n1).name, (γ1 n1).val (gt l1 n1).roots.length]⟩) (fP NHap γ1 rfl rfl Zf rfl rfl Mm (fun _ => by first | assumption | omega)) rfl) ?_
    refine aI (F := RdL EInt (γ1 n1) (gt l1 n1).roots) [am NHap γ1 l1] Sm (fun M w h => (allF1 h) n1 Zc _ (.head _)) ?_
    refine Al fun g3 => ?_
    refine Tx ?_
    refine Cg (gP x3 x4 x5 x6 x7 x8 x9 w2) fun x10 => ?_
    refine Al fun g4 => ?_
    refine Tx ?_
    refine aV (jk g4 x10.1 x10.2.1 x10.2.2.1 x10.2.2.2.1 x10.2.2.2.2.1 x10.2.2.2.2.2.1 x10.2.2.2.2.2.2.1 x10.2.2.2.2.2.2.2.1 x10.2.2.2.2.2.2.2.2 w2 (γ1 n1) (gt l1 n1) (jj (by first | assumption | exact hinv | exact ae hc1)).1 (jj (by first | assumption | exact hinv | exact ae hc1)).2.1 (jj (by first | assumption | exact hinv | exact ae hc1)).2.2) .sq (.inl ⟨_, rfl⟩) (ac rfl) rfl rfl rfl Kr rfl rfl Sm Tk Tk ?_
    intro x11
    refine rw_le (ay NClient.E 61 x11.2.2.2.2.2.1 x11.2.2.2.2.2.2.1 (zipG x11.2.2.2.2.2.2.2.1 0 (ax w2 (gt l1 n1)).2.c) Uo) ?_
    refine aI (F := RdN NClient x11.2.2.2.2.2.1 (ax w2 (gt l1 n1)).2.c) [RdG NClient x11.2.2.2.2.2.1 x11.2.2.2.2.2.2.2.1 (ax w2 (gt l1 n1)).2.c, am NClient x11.2.2.2.2.2.2.2.1 (ax w2 (gt l1 n1)).2.c] Sm (fun M w h => RdN.ofG NClient (h _ (.head _)) (h _ (.tail _ (.head _)))) ?_
    refine Tx ?_
    refine Cd (b := ((ax w2 (gt l1 n1)).1 == 0)) (fun hc4 => ?_) fun hc4 => ?_
    ·have hc4p := eq_of_beq hc4
     refine Tx ?_
     refine bB EInt [(ax w2 (gt l1 n1)).1] .sq (ac rfl) rfl rfl rfl rfl rfl rfl rfl rfl rfl rfl rfl rfl rfl rfl rfl fun x12 x12b => ?_
     refine b5 EInt said1 [(ax w2 (gt l1 n1)).1] (b := x2b) .sq (fun _ _ => .inl ⟨_, rfl⟩) (ac rfl) rfl rfl rfl rfl rfl rfl rfl (fun _ _ => Uo) rfl rfl rfl rfl rfl rfl rfl (c6 (e := 42) (b := x12b) Mm) (by show (said1.length + 1) * 8 ≤ 140737488355328; (try simp only [List.length_append, List.length_cons, List.length_nil]); omega) fun x13 x13b => ?_
     refine Tx ?_
     refine rw_q rfl rfl rfl (q_add rfl rfl Zf rfl Zf Zo) ?_
     refine Tx ?_
     refine ⟨⟨(said1 ++ [(ax w2 (gt l1 n1)).1]), x13, x13b, (n1 + 1), (ax w2 (gt l1 n1)).2, x11.1, x11.2.1, x11.2.2.1, x11.2.2.2.1, x11.2.2.2.2.1, x11.2.2.2.2.2.1, x11.2.2.2.2.2.2.2.2⟩, ⟨hlt0, Zl, (by first | exact hinv | exact mU hinv (eq_of_beq (by assumption))), (by rw [← hf1, aE hlt0]; simp only [en, hc4, Cf] : (b7 w1 l1) = (en (l1.drop (n1 + 1)) (said1 ++ [(ax w2 (gt l1 n1)).1]) (ax w2 (gt l1 n1)).2)).symm⟩, (by simp only []; omega), Le4⟩
    ·have hc4p := ne_of_beq_false hc4
     refine Tx ?_
     refine bB EInt [(ax w2 (gt l1 n1)).1] .sq (ac rfl) rfl rfl rfl rfl rfl rfl rfl rfl rfl rfl rfl rfl rfl rfl rfl fun x14 x14b => ?_
     refine b5 EInt said1 [(ax w2 (gt l1 n1)).1] (b := x2b) .sq (fun _ _ => .inl ⟨_, rfl⟩) (ac rfl) rfl rfl rfl rfl rfl rfl rfl (fun _ _ => Uo) rfl rfl rfl rfl rfl rfl rfl (c6 (e := 42) (b := x14b) Mm) (by show (said1.length + 1) * 8 ≤ 140737488355328; (try simp only [List.length_append, List.length_cons, List.length_nil]); omega) fun x15 x15b => ?_
     refine Tx ?_
     refine rw_q rfl rfl rfl (q_add rfl rfl Zf rfl Zf Zo) ?_
     refine Tx ?_
     refine ⟨⟨(said1 ++ [(ax w2 (gt l1 n1)).1]), x15, x15b, (n1 + 1), w2, x3, x4, x5, x6, x7, x8, x9⟩, ⟨hlt0, Zl, (by first | exact hinv | exact mU hinv (eq_of_beq (by assumption))), (by rw [← hf1, aE hlt0]; simp only [en, hc4, Cf] : (b7 w1 l1) = (en (l1.drop (n1 + 1)) (said1 ++ [(ax w2 (gt l1 n1)).1]) w2)).symm⟩, (by simp only []; omega), Le4⟩
   ·have hge0 : l1.length ≤ n1 := by have := of_decide_eq_false hc3; omega
    refine Tx ?_
    refine cw_le (ay EInt 42 x2 x2b said1 Uo) ?_
    refine ai ?_; rw [show (b7 w1 l1) = (w2, said1, 0) by rw [← hf1, List.drop_of_length_le hge0]; simp only [en, Cf]]; exact Re ⟨x3, x4, x5, x6, x7, x8, x9, x2⟩ (Va (Vt (Vt Vn)))
end Go.Proofs.YtpkaloknohpleaaGreatDoor

namespace Go.Proofs.YtpkaloknohpleaaGreatDoor
open Go Go.Proofs.YtpkaloknohpleaaGreatDoor.Fw Go.Proofs
theorem New_ok : aW bV = 0 := by decide +kernel
theorem qJ {w : Wld} (h : aW w = 0) : w.c.length = 3 := by
 obtain ⟨l, h⟩ := (d8 w).1 h
 exact h.three
theorem vw {w : Wld} {x : Happening} (h : (cE w x).2 = 0) : aW w = 0 ∧ (ax w x).1 = 0 ∧ cE w x = ((ax w x).2, 0) := by
 unfold cE at h ⊢
 cases h1 : (aW w != 0) with
 | true => rw [h1, cond_true] at h; simp only at h; rw [h] at h1; cases h1
 | false =>
  rw [h1, cond_false] at h
  rw [cond_false]
  cases h2 : ((ax w x).1 != 0) with
  | true => rw [h2, cond_true] at h; simp only at h; rw [h] at h2; cases h2
  | false => exact ⟨ae h1, ae h2, rfl⟩
end Go.Proofs.YtpkaloknohpleaaGreatDoor

set_option maxHeartbeats 2000000
namespace Go.Proofs.YtpkaloknohpleaaGreatDoor
open Go Go.Proofs.YtpkaloknohpleaaGreatDoor.Fw Go.Proofs
attribute [local irreducible] RdL RdN VarP LibP RW CW
def cy  : List Rec → (List Op) → ((List Op) × Int)
 | [], out1 => (out1, 0)
 | pn1 :: rn1, out1 => (bif (pn1.kind == 1) then (cy rn1 (out1 ++ [pn1.o])) else (cy rn1 out1))
def aw (w1 : Wld) : (List Op) × Int :=
 (bif ((aW w1) != 0) then (([] : List Op), (aW w1)) else (cy (al w1.d).2.1 []))
theorem fU (y1 : SlV) (y2 : SlV) (y3 : SlV) (y4 : SlV) (y5 : SlV) (y6 : SlV) (y7 : SlV) (w1 : Wld) : Does Tryz.prog 8 [.agg ⟨[y1.val w1.h.h.l.length, y2.val w1.h.h.t.length, .int .i64 w1.h.version, y3.val w1.h.peers.length, y4.val w1.d.safe.length, y5.val w1.d.wait.length, .bool w1.up, y6.val w1.c.length, y7.val w1.mail.length]⟩] [RdL EStep y1 w1.h.h.l, RdL EPlace y2 w1.h.h.t, RdN NPeer y3 w1.h.peers, RdL EByte y4 w1.d.safe, RdL EByte y5 w1.d.wait, RdN NClient y6 w1.c, RdN NMail y7 w1.mail, LibP Tryz.prog] (fun (X : SlV) => .tuple #[X.val (aw w1).1.length, .int .i64 (aw w1).2]) (fun X => [RdL EOp X (aw w1).1]) := by
 refine bj aZ Tryz.func8 rfl Tryz.ntmps8 Tryz.results8 rfl inferInstance (fun _ => inferInstance) fun C => ?_
 refine Pc EStep y1 w1.h.h.l 88 fun hlen1 => ?_
 refine Pc EPlace y2 w1.h.h.t 24 fun hlen2 => ?_
 refine Pn NPeer y3 w1.h.peers 40 fun hlen3 => ?_
 refine Pc EByte y4 w1.d.safe 1 fun hlen4 => ?_
 refine Pc EByte y5 w1.d.wait 1 fun hlen5 => ?_
 refine Pn NClient y6 w1.c 128 fun hlen6 => ?_
 refine Pn NMail y7 w1.mail 280 fun hlen7 => ?_
 refine Tx ?_
 refine Bx fun g1 => ?_
 refine Tx ?_
 refine Cl (fR y1 y2 y3 y4 y5 y6 y7 w1) fun _ => ?_
 refine Tx ?_
 refine Cd (b := ((aW w1) != 0)) (fun hc1 => ?_) fun hc1 => ?_
 ·have hc1p := bne_iff_ne.1 hc1
  refine Tx ?_
  refine Fc EOp ?_
  refine ai ?_; simp only [aw, hc1, Cf]; exact Re (⟨none, 0⟩ : SlV) (Vt (Vt Vn))
 ·have hc1p := ae hc1
  refine Tx ?_
  refine Cl (eP y4 y5 w1.d) fun x1 => ?_
  refine Tx ?_
  refine Al fun g2 => ?_
  refine Tx ?_
  refine Pn NRec x1.2.2 (al w1.d).2.1 104 fun hlen8 => ?_
  (repeat refine ao ?_); refine Lp [2,3,23,24] [true, true] (fun (i_ : List Op × SlV × Option Nat × Nat) => match i_ with | ⟨out1, x2, x2b, n1⟩ => (⟨[(8, .v (x2.val out1.length)), (25, .v (.int .i64 (n1 : Int)))], [], [ownL EOp 49 x2 x2b out1], [], (n1 ≤ (al w1.d).2.1.length) ∧ (out1.length ≤ n1) ∧ (cy ((al w1.d).2.1.drop n1) out1) = (aw w1), (al w1.d).2.1.length - n1⟩ : Ls)) ⟨[], ⟨none, 0⟩, none, 0⟩ (Sc (Sc (Sc (Sc Sn)))) (.keep (.keep (.nil))) ⟨Nat.zero_le _, (by first | exact Nat.le_refl _ | exact Nat.zero_le _ | omega), (by simp only [aw, hc1, Cf] : (aw w1) = (cy (al w1.d).2.1 [])).symm⟩ (Le.trans (eO EOp 49) Le4) ?_
  rintro ⟨out1, x2, x2b, n1⟩ ⟨hkn1, hout1, hf1⟩
  simp only [List.cons_append, List.nil_append]
  refine Tx ?_
  refine Cd (b := decide ((n1 : Int) < ((al w1.d).2.1.length : Int))) (fun hc2 => ?_) fun hc2 => ?_
  ·have hlt0 : n1 < (al w1.d).2.1.length := Int.ofNat_lt.1 (of_decide_eq_true hc2)
   refine Tx ?_
   refine fj NRec (X := x1.2.2) (l := (al w1.d).2.1) Mm fun (γ1 : Nat → SlV) => ?_
   refine rw_q rfl rfl rfl (dw NRec γ1 n1 rfl rfl Zf rfl Zf rfl rfl rfl Mm rfl Zf (fun _ => by first | assumption | omega)) ?_
   refine rw_q rfl rfl rfl (q_is (v' := .agg ⟨[.int .i64 (gt (al w1.d).2.1 n1).kind, .int .i64 (gt (al w1.d).2.1 n1).who, .int .i64 (gt (al w1.d).2.1 n1).life, (γ1 n1).val (gt (al w1.d).2.1 n1).roots.length, .int .i64 (gt (al w1.d).2.1 n1).o.time, .int .i64 (gt (al w1.d).2.1 n1).o.who, .int .i64 (gt (al w1.d).2.1 n1).o.node, .int .i64 (gt (al w1.d).2.1 n1).o.parent, .int .i64 (gt (al w1.d).2.1 n1).o.name, .int .i64 (gt (al w1.d).2.1 n1).o.life, .int .i64 (gt (al w1.d).2.1 n1).o.seq]⟩) (fP NRec γ1 rfl rfl Zf rfl rfl Mm (fun _ => by first | assumption | omega)) rfl) ?_
   refine aI (F := RdL EInt (γ1 n1) (gt (al w1.d).2.1 n1).roots) [am NRec γ1 (al w1.d).2.1] Sm (fun M w h => (allF1 h) n1 Zc _ (.head _)) ?_
   refine Al fun g3 => ?_
   refine Tx ?_
   refine Cd (b := ((gt (al w1.d).2.1 n1).kind == 1)) (fun hc3 => ?_) fun hc3 => ?_
   ·have hc3p := eq_of_beq hc3
    refine Tx ?_
    refine bB EOp [(gt (al w1.d).2.1 n1).o] .sq (ac rfl) rfl rfl rfl rfl rfl rfl rfl rfl rfl rfl rfl rfl rfl rfl rfl fun x3 x3b => ?_
    refine b5 EOp out1 [(gt (al w1.d).2.1 n1).o] (b := x2b) .sq (fun _ _ => .inl ⟨_, rfl⟩) (ac rfl) rfl rfl rfl rfl rfl rfl rfl (fun _ _ => Uo) rfl rfl rfl rfl rfl rfl rfl (c6 (e := 49) (b := x3b) Mm) (by show (out1.length + 1) * 56 ≤ 140737488355328; (try simp only [List.length_append, List.length_cons, List.length_nil]); omega) fun x4 x4b => ?_
    refine Tx ?_
    refine rw_q rfl rfl rfl (q_add rfl rfl Zf rfl Zf Zo) ?_
    refine Tx ?_
    refine ⟨⟨(out1 ++ [(gt (al w1.d).2.1 n1).o]), x4, x4b, (n1 + 1)⟩, ⟨hlt0, Zl, (by rw [← hf1, aE hlt0]; simp only [cy, hc3, Cf] : (aw w1) = (cy ((al w1.d).2.1.drop (n1 + 1)) (out1 ++ [(gt (al w1.d).2.1 n1).o]))).symm⟩, (by simp only []; omega), Le4⟩
   ·have hc3p := ne_of_beq_false hc3
    refine Tx ?_
    refine rw_q rfl rfl rfl (q_add rfl rfl Zf rfl Zf Zo) ?_
    refine Tx ?_
    refine ⟨⟨out1, x2, x2b, (n1 + 1)⟩, ⟨hlt0, Zl, (by rw [← hf1, aE hlt0]; simp only [cy, hc3, Cf] : (aw w1) = (cy ((al w1.d).2.1.drop (n1 + 1)) out1)).symm⟩, (by simp only []; omega), Le4⟩
  ·have hge0 : (al w1.d).2.1.length ≤ n1 := by have := of_decide_eq_false hc2; omega
   refine Tx ?_
   refine cw_le (ay EOp 49 x2 x2b out1 Uo) ?_
   refine ai ?_; rw [show (aw w1) = (out1, 0) by rw [← hf1, List.drop_of_length_le hge0]; simp only [cy, Cf]]; exact Re x2 (Vt (Vt Vn))
def dU (w1 : Wld) (version1 : Int) (who1 : Int) : View × Int :=
 (bif ((aW w1) != 0) then ((⟨[], [], []⟩ : View), (aW w1)) else (bif (decide (version1 < 0) || decide (version1 > ((al w1.d).2.1.length : Int))) then ((⟨[], [], []⟩ : View), 5) else (bif ((aq ((al w1.d).2.1.take version1.toNat)).2 != 0) then ((⟨[], [], []⟩ : View), (aq ((al w1.d).2.1.take version1.toNat)).2) else (bif (decide (who1 < 0) || decide (who1 ≥ ((aq ((al w1.d).2.1.take version1.toNat)).1.peers.length : Int))) then ((⟨[], [], []⟩ : View), 5) else ((bW (aq ((al w1.d).2.1.take version1.toNat)).1.h.t (gt (aq ((al w1.d).2.1.take version1.toNat)).1.peers who1.toNat).roots).1, (bW (aq ((al w1.d).2.1.take version1.toNat)).1.h.t (gt (aq ((al w1.d).2.1.take version1.toNat)).1.peers who1.toNat).roots).2)))))
theorem ia (y1 : SlV) (y2 : SlV) (y3 : SlV) (y4 : SlV) (y5 : SlV) (y6 : SlV) (y7 : SlV) (w1 : Wld) (version1 : Int) (who1 : Int) : Does Tryz.prog 15 [.agg ⟨[y1.val w1.h.h.l.length, y2.val w1.h.h.t.length, .int .i64 w1.h.version, y3.val w1.h.peers.length, y4.val w1.d.safe.length, y5.val w1.d.wait.length, .bool w1.up, y6.val w1.c.length, y7.val w1.mail.length]⟩, .int .i64 version1, .int .i64 who1] [RdL EStep y1 w1.h.h.l, RdL EPlace y2 w1.h.h.t, RdN NPeer y3 w1.h.peers, RdL EByte y4 w1.d.safe, RdL EByte y5 w1.d.wait, RdN NClient y6 w1.c, RdN NMail y7 w1.mail, LibP Tryz.prog] (fun (X : SlV × SlV × SlV) => .tuple #[.agg ⟨[X.1.val (dU w1 version1 who1).1.roots.length, X.2.1.val (dU w1 version1 who1).1.known.length, X.2.2.val (dU w1 version1 who1).1.way.length]⟩, .int .i64 (dU w1 version1 who1).2]) (fun X => [RdL EInt X.1 (dU w1 version1 who1).1.roots, RdL EPlace X.2.1 (dU w1 version1 who1).1.known, RdL EPlace X.2.2 (dU w1 version1 who1).1.way]) := by
 refine bj aZ Tryz.func15 rfl Tryz.ntmps15 Tryz.results15 rfl inferInstance (fun _ => inferInstance) fun C => ?_
 refine Pc EStep y1 w1.h.h.l 88 fun hlen1 => ?_
 refine Pc EPlace y2 w1.h.h.t 24 fun hlen2 => ?_
 refine Pn NPeer y3 w1.h.peers 40 fun hlen3 => ?_
 refine Pc EByte y4 w1.d.safe 1 fun hlen4 => ?_
 refine Pc EByte y5 w1.d.wait 1 fun hlen5 => ?_
 refine Pn NClient y6 w1.c 128 fun hlen6 => ?_
 refine Pn NMail y7 w1.mail 280 fun hlen7 => ?_
 refine Tx ?_
 refine Bx fun g1 => ?_
 refine Al fun g2 => ?_
 refine Tx ?_
 refine Cl (fR y1 y2 y3 y4 y5 y6 y7 w1) fun _ => ?_
 refine Tx ?_
 refine Cd (b := ((aW w1) != 0)) (fun hc1 => ?_) fun hc1 => ?_
 ·have hc1p := bne_iff_ne.1 hc1
  refine Tx ?_
  refine Fc EInt ?_
  refine Fc EPlace ?_
  refine ai ?_; simp only [dU, hc1, Cf]; exact Re ⟨(⟨none, 0⟩ : SlV), (⟨none, 0⟩ : SlV), (⟨none, 0⟩ : SlV)⟩ (Va (Vt Vn))
 ·have hc1p := ae hc1
  refine Tx ?_
  refine Cl (eP y4 y5 w1.d) fun x1 => ?_
  refine Tx ?_
  refine Al fun g3 => ?_
  refine Tx ?_
  refine Cd (b := (decide (version1 < 0) || decide (version1 > ((al w1.d).2.1.length : Int)))) (fun hc2 => ?_) fun hc2 => ?_
  ·refine Tx ?_
   refine Fc EInt ?_
   refine Fc EPlace ?_
   refine ai ?_; simp only [dU, hc1, hc2, Cf]; exact Re ⟨(⟨none, 0⟩ : SlV), (⟨none, 0⟩ : SlV), (⟨none, 0⟩ : SlV)⟩ (Va (Vt Vn))
  ·have hvr := hc2
   simp only [Bool.or_eq_false_iff, decide_eq_false_iff_not] at hvr
   refine Tx ?_
   refine rw_q rfl rfl rfl (pm NRec version1.toNat rfl rfl Zf rfl Zf rfl rfl Mm Zo Zo) ?_
   refine aI (F := RdN NRec x1.2.2 ((al w1.d).2.1.take version1.toNat)) [RdN NRec x1.2.2 (al w1.d).2.1] Sm (fun M w h => (allF1 h).take _) ?_
   refine Cl (fx x1.2.2 ((al w1.d).2.1.take version1.toNat)) fun x2 => ?_
   generalize hS1 : (aq ((al w1.d).2.1.take version1.toNat)) = S1
   refine Tx ?_
   refine Al fun g4 => ?_
   refine Tx ?_
   refine Cd (b := (S1.2 != 0)) (fun hc3 => ?_) fun hc3 => ?_
   ·have hc3p := bne_iff_ne.1 hc3
    refine Tx ?_
    refine Fc EInt ?_
    refine Fc EPlace ?_
    refine ai ?_; simp only [dU, hc1, hc2, hS1, hc3, Cf]; exact Re ⟨(⟨none, 0⟩ : SlV), (⟨none, 0⟩ : SlV), (⟨none, 0⟩ : SlV)⟩ (Va (Vt Vn))
   ·have hc3p := ae hc3
    refine Tx ?_
    refine Cd (b := (decide (who1 < 0) || decide (who1 ≥ (S1.1.peers.length : Int)))) (fun hc4 => ?_) fun hc4 => ?_
    ·refine Tx ?_
     refine Fc EInt ?_
     refine Fc EPlace ?_
     refine ai ?_; simp only [dU, hc1, hc2, hS1, hc3, hc4, Cf]; exact Re ⟨(⟨none, 0⟩ : SlV), (⟨none, 0⟩ : SlV), (⟨none, 0⟩ : SlV)⟩ (Va (Vt Vn))
    ·have hwr := hc4
     simp only [Bool.or_eq_false_iff, decide_eq_false_iff_not] at hwr
     refine Tx ?_
     (repeat refine ao ?_); refine au (fun j => match j with | 12 => some [g2] | _ => some []) ?_
     refine Rb 0 rfl Qp ?_
     refine Rb 1 rfl Qp ?_
     refine Rb 2 rfl (q_ldP rfl rfl Zf rfl Mm rfl) ?_
     refine Rb 3 rfl Qp ?_
     refine Rb 4 rfl Q1 ?_
     refine Rb 5 rfl Qp ?_
     refine fj NPeer (X := x2.2.2) (l := S1.1.peers) Mm fun (γ1 : Nat → SlV) => ?_
     refine Rb 6 rfl (dw NPeer γ1 who1.toNat rfl rfl Zf rfl Zf rfl rfl rfl Mm rfl Zo (fun _ => by first | assumption | omega)) ?_
     refine Rb 7 rfl (q_fae rfl rfl Zf rfl rfl) ?_
     refine Rb 8 rfl (kH NPeer γ1 (v := (γ1 who1.toNat).val (gt S1.1.peers who1.toNat).roots.length) rfl rfl Zf rfl rfl Mm (fun _ => by first | assumption | omega) rfl) ?_
     refine aI (F := RdL EInt (γ1 who1.toNat) (gt S1.1.peers who1.toNat).roots) [am NPeer γ1 S1.1.peers] Sm (fun M w h => (allF1 h) who1.toNat Zc _ (.head _)) ?_
     refine ap 9 Kr ?_
     refine cJ (gE x2.2.1 S1.1.h.t (γ1 who1.toNat) (gt S1.1.peers who1.toNat).roots) (.an rfl rfl) (ac rfl) rfl rfl rfl Kr rfl rfl Sm ?_
     intro x3
     generalize hS2 : (bW S1.1.h.t (gt S1.1.peers who1.toNat).roots) = S2
     refine Ra 10 rfl Qp ?_
     refine Ra 11 rfl Qp ?_
     refine ap 12 Kr ?_
     refine cY (.an rfl rfl) (.inr (by simp)) (ac rfl) rfl rfl rfl rfl rfl rfl rfl rfl rfl Ub rfl ?_
     refine Ra 13 rfl Qp ?_
     refine bn Kr ?_
     (repeat refine ao ?_)
     refine ai ?_; simp only [dU, hc1, hc2, hS1, hc3, hc4, hS2, Cf]; exact Re ⟨x3.1, x3.2.1, x3.2.2⟩ (Va (Vt Vn))
def fk (e1 : Int) : Bool :=
 (e1 != 0)
theorem jU (e1 : Int) : Does Tryz.prog 35 [.int .i64 e1] [] (fun (_ : Unit) => .bool (fk e1)) (fun _ => []) := by
 refine bj aZ Tryz.func35 rfl Tryz.ntmps35 Tryz.results35 rfl inferInstance (fun _ => inferInstance) fun C => ?_
 refine Tx ?_
 refine ai ?_; simp only [fk, Cf]; exact Re () (Vt Vn)
def eA  : Bool :=
 (((((((((((b7 bV [(⟨6, 0, 0, 0, 0, 0, ([] : List Int)⟩ : Happening), (⟨5, 0, 0, 0, 0, 0, [0]⟩ : Happening), (⟨1, 0, 0, 3, 0, 0, ([] : List Int)⟩ : Happening), (⟨7, 0, 0, 0, 0, 0, ([] : List Int)⟩ : Happening), (⟨10, 0, 0, 0, 0, 0, ([] : List Int)⟩ : Happening)]).2.2 == 0) && ((aw (b7 bV [(⟨6, 0, 0, 0, 0, 0, ([] : List Int)⟩ : Happening), (⟨5, 0, 0, 0, 0, 0, [0]⟩ : Happening), (⟨1, 0, 0, 3, 0, 0, ([] : List Int)⟩ : Happening), (⟨7, 0, 0, 0, 0, 0, ([] : List Int)⟩ : Happening), (⟨10, 0, 0, 0, 0, 0, ([] : List Int)⟩ : Happening)]).1).2 == 0)) && ((dU (b7 bV [(⟨6, 0, 0, 0, 0, 0, ([] : List Int)⟩ : Happening), (⟨5, 0, 0, 0, 0, 0, [0]⟩ : Happening), (⟨1, 0, 0, 3, 0, 0, ([] : List Int)⟩ : Happening), (⟨7, 0, 0, 0, 0, 0, ([] : List Int)⟩ : Happening), (⟨10, 0, 0, 0, 0, 0, ([] : List Int)⟩ : Happening)]).1 2 0).2 == 0)) && ((dU (b7 bV [(⟨6, 0, 0, 0, 0, 0, ([] : List Int)⟩ : Happening), (⟨5, 0, 0, 0, 0, 0, [0]⟩ : Happening), (⟨1, 0, 0, 3, 0, 0, ([] : List Int)⟩ : Happening), (⟨7, 0, 0, 0, 0, 0, ([] : List Int)⟩ : Happening), (⟨10, 0, 0, 0, 0, 0, ([] : List Int)⟩ : Happening)]).1 3 0).2 == 0)) && ((dU (b7 bV [(⟨6, 0, 0, 0, 0, 0, ([] : List Int)⟩ : Happening), (⟨5, 0, 0, 0, 0, 0, [0]⟩ : Happening), (⟨1, 0, 0, 3, 0, 0, ([] : List Int)⟩ : Happening), (⟨7, 0, 0, 0, 0, 0, ([] : List Int)⟩ : Happening), (⟨10, 0, 0, 0, 0, 0, ([] : List Int)⟩ : Happening)]).1 4 0).2 == 5)) && (!(d4 (b7 bV [(⟨6, 0, 0, 0, 0, 0, ([] : List Int)⟩ : Happening), (⟨5, 0, 0, 0, 0, 0, [0]⟩ : Happening), (⟨1, 0, 0, 3, 0, 0, ([] : List Int)⟩ : Happening), (⟨7, 0, 0, 0, 0, 0, ([] : List Int)⟩ : Happening), (⟨10, 0, 0, 0, 0, 0, ([] : List Int)⟩ : Happening)]).2.1 fk))) && (((aw (b7 bV [(⟨6, 0, 0, 0, 0, 0, ([] : List Int)⟩ : Happening), (⟨5, 0, 0, 0, 0, 0, [0]⟩ : Happening), (⟨1, 0, 0, 3, 0, 0, ([] : List Int)⟩ : Happening), (⟨7, 0, 0, 0, 0, 0, ([] : List Int)⟩ : Happening), (⟨10, 0, 0, 0, 0, 0, ([] : List Int)⟩ : Happening)]).1).1.length : Int) == 1)) && ((gt (aw (b7 bV [(⟨6, 0, 0, 0, 0, 0, ([] : List Int)⟩ : Happening), (⟨5, 0, 0, 0, 0, 0, [0]⟩ : Happening), (⟨1, 0, 0, 3, 0, 0, ([] : List Int)⟩ : Happening), (⟨7, 0, 0, 0, 0, 0, ([] : List Int)⟩ : Happening), (⟨10, 0, 0, 0, 0, 0, ([] : List Int)⟩ : Happening)]).1).1 0).node == 3)) && (((dU (b7 bV [(⟨6, 0, 0, 0, 0, 0, ([] : List Int)⟩ : Happening), (⟨5, 0, 0, 0, 0, 0, [0]⟩ : Happening), (⟨1, 0, 0, 3, 0, 0, ([] : List Int)⟩ : Happening), (⟨7, 0, 0, 0, 0, 0, ([] : List Int)⟩ : Happening), (⟨10, 0, 0, 0, 0, 0, ([] : List Int)⟩ : Happening)]).1 2 0).1.known.length : Int) == 0)) && (((dU (b7 bV [(⟨6, 0, 0, 0, 0, 0, ([] : List Int)⟩ : Happening), (⟨5, 0, 0, 0, 0, 0, [0]⟩ : Happening), (⟨1, 0, 0, 3, 0, 0, ([] : List Int)⟩ : Happening), (⟨7, 0, 0, 0, 0, 0, ([] : List Int)⟩ : Happening), (⟨10, 0, 0, 0, 0, 0, ([] : List Int)⟩ : Happening)]).1 3 0).1.known.length : Int) == 1))
theorem fv  : Does Tryz.prog 13 [] [LibP Tryz.prog] (fun (_ : Unit) => .bool eA) (fun _ => []) := by
 refine bj aZ Tryz.func13 rfl Tryz.ntmps13 Tryz.results13 rfl inferInstance (fun _ => inferInstance) fun C => ?_
 refine Tx ?_
 refine Cl (i8 ) fun x1 => ?_
 refine Rp rfl rfl rfl rfl ?_
 refine bB EInt [0] .sq (ac rfl) rfl rfl rfl rfl rfl rfl rfl rfl rfl rfl rfl rfl rfl rfl rfl fun x2 x2b => ?_
 refine Tx ?_
 refine Fr EInt ?_
 refine rw_le (ay EInt 3 x2 x2b [0] Uo) ?_
 refine bB NHap.E [((⟨none, 0⟩ : SlV), (⟨6, 0, 0, 0, 0, 0, ([] : List Int)⟩ : Happening)), (x2, (⟨5, 0, 0, 0, 0, 0, [0]⟩ : Happening)), ((⟨none, 0⟩ : SlV), (⟨1, 0, 0, 3, 0, 0, ([] : List Int)⟩ : Happening)), ((⟨none, 0⟩ : SlV), (⟨7, 0, 0, 0, 0, 0, ([] : List Int)⟩ : Happening)), ((⟨none, 0⟩ : SlV), (⟨10, 0, 0, 0, 0, 0, ([] : List Int)⟩ : Happening))] .sq (ac rfl) rfl rfl rfl rfl rfl rfl rfl rfl rfl rfl rfl rfl rfl (sD [.agg ⟨[.int .i64 6, .int .i64 0, .int .i64 0, .int .i64 0, .int .i64 0, .int .i64 0, .slice none 0 0]⟩, .agg ⟨[.int .i64 5, .int .i64 0, .int .i64 0, .int .i64 0, .int .i64 0, .int .i64 0, x2.val [0].length]⟩, .agg ⟨[.int .i64 1, .int .i64 0, .int .i64 0, .int .i64 3, .int .i64 0, .int .i64 0, .slice none 0 0]⟩, .agg ⟨[.int .i64 7, .int .i64 0, .int .i64 0, .int .i64 0, .int .i64 0, .int .i64 0, .slice none 0 0]⟩, .agg ⟨[.int .i64 10, .int .i64 0, .int .i64 0, .int .i64 0, .int .i64 0, .int .i64 0, .slice none 0 0]⟩] rfl (by intro v hv; simp only [List.mem_cons, List.not_mem_nil, or_false] at hv; rcases hv with rfl | rfl | rfl | rfl | rfl <;> rfl) rfl rfl) rfl fun x3 x3b => ?_
 refine rw_le (ay NHap.E 68 x3 x3b [((⟨none, 0⟩ : SlV), (⟨6, 0, 0, 0, 0, 0, ([] : List Int)⟩ : Happening)), (x2, (⟨5, 0, 0, 0, 0, 0, [0]⟩ : Happening)), ((⟨none, 0⟩ : SlV), (⟨1, 0, 0, 3, 0, 0, ([] : List Int)⟩ : Happening)), ((⟨none, 0⟩ : SlV), (⟨7, 0, 0, 0, 0, 0, ([] : List Int)⟩ : Happening)), ((⟨none, 0⟩ : SlV), (⟨10, 0, 0, 0, 0, 0, ([] : List Int)⟩ : Happening))] Uo) ?_
 refine aI (F := RdN NHap x3 [(⟨6, 0, 0, 0, 0, 0, ([] : List Int)⟩ : Happening), (⟨5, 0, 0, 0, 0, 0, [0]⟩ : Happening), (⟨1, 0, 0, 3, 0, 0, ([] : List Int)⟩ : Happening), (⟨7, 0, 0, 0, 0, 0, ([] : List Int)⟩ : Happening), (⟨10, 0, 0, 0, 0, 0, ([] : List Int)⟩ : Happening)]) [RdL NHap.E x3 [((⟨none, 0⟩ : SlV), (⟨6, 0, 0, 0, 0, 0, ([] : List Int)⟩ : Happening)), (x2, (⟨5, 0, 0, 0, 0, 0, [0]⟩ : Happening)), ((⟨none, 0⟩ : SlV), (⟨1, 0, 0, 3, 0, 0, ([] : List Int)⟩ : Happening)), ((⟨none, 0⟩ : SlV), (⟨7, 0, 0, 0, 0, 0, ([] : List Int)⟩ : Happening)), ((⟨none, 0⟩ : SlV), (⟨10, 0, 0, 0, 0, 0, ([] : List Int)⟩ : Happening))], RdL EInt (⟨none, 0⟩ : SlV) ([] : List Int), RdL EInt x2 [0], RdL EInt (⟨none, 0⟩ : SlV) ([] : List Int), RdL EInt (⟨none, 0⟩ : SlV) ([] : List Int), RdL EInt (⟨none, 0⟩ : SlV) ([] : List Int)] Sm (fun M w h => RdN.of NHap (hs := [((⟨none, 0⟩ : SlV), (⟨6, 0, 0, 0, 0, 0, ([] : List Int)⟩ : Happening)), (x2, (⟨5, 0, 0, 0, 0, 0, [0]⟩ : Happening)), ((⟨none, 0⟩ : SlV), (⟨1, 0, 0, 3, 0, 0, ([] : List Int)⟩ : Happening)), ((⟨none, 0⟩ : SlV), (⟨7, 0, 0, 0, 0, 0, ([] : List Int)⟩ : Happening)), ((⟨none, 0⟩ : SlV), (⟨10, 0, 0, 0, 0, 0, ([] : List Int)⟩ : Happening))]) rfl (h _ (.head _)) (aY (da Sm h) (aY (da Sm h) (aY (da Sm h) (aY (da Sm h) (aY (da Sm h) (fun p hp => by cases hp))))))) ?_
 refine Cl (oz x1.1 x1.2.1 x1.2.2.1 x1.2.2.2.1 x1.2.2.2.2.1 x1.2.2.2.2.2.1 x1.2.2.2.2.2.2 bV x3 [(⟨6, 0, 0, 0, 0, 0, ([] : List Int)⟩ : Happening), (⟨5, 0, 0, 0, 0, 0, [0]⟩ : Happening), (⟨1, 0, 0, 3, 0, 0, ([] : List Int)⟩ : Happening), (⟨7, 0, 0, 0, 0, 0, ([] : List Int)⟩ : Happening), (⟨10, 0, 0, 0, 0, 0, ([] : List Int)⟩ : Happening)]) fun x4 => ?_
 generalize hS1 : (b7 bV [(⟨6, 0, 0, 0, 0, 0, ([] : List Int)⟩ : Happening), (⟨5, 0, 0, 0, 0, 0, [0]⟩ : Happening), (⟨1, 0, 0, 3, 0, 0, ([] : List Int)⟩ : Happening), (⟨7, 0, 0, 0, 0, 0, ([] : List Int)⟩ : Happening), (⟨10, 0, 0, 0, 0, 0, ([] : List Int)⟩ : Happening)]) = S1
 refine Tx ?_
 refine Al fun g1 => ?_
 refine Tx ?_
 refine Cl (fU x4.1 x4.2.1 x4.2.2.1 x4.2.2.2.1 x4.2.2.2.2.1 x4.2.2.2.2.2.1 x4.2.2.2.2.2.2.1 S1.1) fun x5 => ?_
 refine Tx ?_
 refine Cl (ia x4.1 x4.2.1 x4.2.2.1 x4.2.2.2.1 x4.2.2.2.2.1 x4.2.2.2.2.2.1 x4.2.2.2.2.2.2.1 S1.1 2 0) fun x6 => ?_
 refine Tx ?_
 refine Al fun g2 => ?_
 refine Tx ?_
 refine Cl (ia x4.1 x4.2.1 x4.2.2.1 x4.2.2.2.1 x4.2.2.2.2.1 x4.2.2.2.2.2.1 x4.2.2.2.2.2.2.1 S1.1 3 0) fun x7 => ?_
 refine Tx ?_
 refine Al fun g3 => ?_
 refine Tx ?_
 refine Cl (ia x4.1 x4.2.1 x4.2.2.1 x4.2.2.2.1 x4.2.2.2.2.1 x4.2.2.2.2.2.1 x4.2.2.2.2.2.2.1 S1.1 4 0) fun x8 => ?_
 refine Tx ?_
 refine Al fun g4 => ?_
 refine Tx ?_
 refine dv (fun hG_ => gJ x4.2.2.2.2.2.2.2 S1.2.1 _ _ _ fk Kr (fun a0_ => jU a0_)) Zf .sq (aG rfl rfl rfl) rfl rfl rfl Kr rfl Bt Sm ?_
 refine Tx ?_
 refine rw_qg (aG rfl rfl rfl) rfl rfl (q_idx EOp 0 rfl rfl Bt rfl Bt rfl rfl rfl Mm rfl (by intro h; first | omega | rfl | (simp at h; omega)) (by first | (intro _; first | assumption | omega) | (intro h; simp at h; omega))) ?_
 refine rw_qg (aG rfl rfl rfl) rfl rfl (q_fae rfl rfl Bt rfl rfl) ?_
 refine rw_qg (aG rfl rfl rfl) rfl rfl (q_le1 EOp rfl rfl Bt rfl rfl Mm (by first | (intro _; first | assumption | omega) | (intro h; simp at h; omega)) rfl) ?_
 refine Tx ?_
 refine ai ?_; simp only [eA, hS1, Cb, Cf]; exact Re () (Vt Vn)
def bT (ok1 : Wld → Bool) : List Happening → Wld → (Wld × Bool)
 | [], w1 => (w1, true)
 | pn1 :: rn1, w1 => (bif ((cE w1 pn1).2 == 0) then (bif (!(ok1 (cE w1 pn1).1)) then ((cE w1 pn1).1, false) else (bT ok1 rn1 (cE w1 pn1).1)) else (bT ok1 rn1 w1))
def aN (l1 : List Happening) (ok1 : Wld → Bool) : Wld × Bool :=
 (bT ok1 (l1.take (if 80 < (l1.length : Int) then 80 else (l1.length : Int)).toNat) bV)
theorem gj (y1 : SlV) (l1 : List Happening) (f1 : Nat) (caps1 : List Value) (pre1 : List Pred) [StabL pre1] (ok1 : Wld → Bool) (hfb1 : tab.fnb f1 = true) (hfn1 : ∀ (z0a_ : SlV) (z0b_ : SlV) (z0c_ : SlV) (z0d_ : SlV) (z0e_ : SlV) (z0f_ : SlV) (z0g_ : SlV) (a0_ : Wld), Does Tryz.prog f1 ([.agg ⟨[z0a_.val a0_.h.h.l.length, z0b_.val a0_.h.h.t.length, .int .i64 a0_.h.version, z0c_.val a0_.h.peers.length, z0d_.val a0_.d.safe.length, z0e_.val a0_.d.wait.length, .bool a0_.up, z0f_.val a0_.c.length, z0g_.val a0_.mail.length]⟩] ++ caps1) (RdL EStep z0a_ a0_.h.h.l :: RdL EPlace z0b_ a0_.h.h.t :: RdN NPeer z0c_ a0_.h.peers :: RdL EByte z0d_ a0_.d.safe :: RdL EByte z0e_ a0_.d.wait :: RdN NClient z0f_ a0_.c :: RdN NMail z0g_ a0_.mail :: pre1) (fun (_ : Unit) => .bool (ok1 a0_)) (fun _ => [])) : Does Tryz.prog 6 [y1.val l1.length, .func (.func f1) #[] ⟨caps1⟩] (RdN NHap y1 l1 :: LibP Tryz.prog :: pre1) (fun (X : SlV × SlV × SlV × SlV × SlV × SlV × SlV) => .tuple #[.agg ⟨[X.1.val (aN l1 ok1).1.h.h.l.length, X.2.1.val (aN l1 ok1).1.h.h.t.length, .int .i64 (aN l1 ok1).1.h.version, X.2.2.1.val (aN l1 ok1).1.h.peers.length, X.2.2.2.1.val (aN l1 ok1).1.d.safe.length, X.2.2.2.2.1.val (aN l1 ok1).1.d.wait.length, .bool (aN l1 ok1).1.up, X.2.2.2.2.2.1.val (aN l1 ok1).1.c.length, X.2.2.2.2.2.2.val (aN l1 ok1).1.mail.length]⟩, .bool (aN l1 ok1).2]) (fun X => [RdL EStep X.1 (aN l1 ok1).1.h.h.l, RdL EPlace X.2.1 (aN l1 ok1).1.h.h.t, RdN NPeer X.2.2.1 (aN l1 ok1).1.h.peers, RdL EByte X.2.2.2.1 (aN l1 ok1).1.d.safe, RdL EByte X.2.2.2.2.1 (aN l1 ok1).1.d.wait, RdN NClient X.2.2.2.2.2.1 (aN l1 ok1).1.c, RdN NMail X.2.2.2.2.2.2 (aN l1 ok1).1.mail]) := by
 refine bj aZ Tryz.func6 rfl Tryz.ntmps6 Tryz.results6 rfl inferInstance (fun _ => inferInstance) fun C => ?_
 refine dP (φ := l1.length * 72 ≤ 140737488355328) [RdN NHap y1 l1] Sf (fun M w h => (allF1 h).len) fun hlen1 => ?_
 refine Tx ?_
 refine Al fun g1 => ?_
 refine Tx ?_
 refine cJ (i8 ) .sq (ac rfl) rfl rfl rfl Kr rfl rfl Sf ?_
 intro x1
 refine Al fun g2 => ?_
 refine Tx ?_
 refine rw_q rfl rfl rfl (q_min rfl rfl Zf rfl Zf) ?_
 refine rw_q rfl rfl rfl (pm NHap (if 80 < (l1.length : Int) then 80 else (l1.length : Int)).toNat rfl rfl Zf rfl Zf rfl rfl Mm Zo Zo) ?_
 refine aI (F := RdN NHap y1 (l1.take (if 80 < (l1.length : Int) then 80 else (l1.length : Int)).toNat)) [RdN NHap y1 l1] Sf (fun M w h => (allF1 h).take _) ?_
 refine Tx ?_
 refine dP (φ := (l1.take (if 80 < (l1.length : Int) then 80 else (l1.length : Int)).toNat).length * 72 ≤ 140737488355328) [RdN NHap y1 (l1.take (if 80 < (l1.length : Int) then 80 else (l1.length : Int)).toNat)] Sf (fun M w h => (allF1 h).len) fun hlen2 => ?_
 (repeat refine ao ?_); refine Lp [1,4,5,6,16,17] [false, true] (fun (i_ : Nat × Wld × SlV × SlV × SlV × SlV × SlV × SlV × SlV) => match i_ with | ⟨n1, w1, x2, x3, x4, x5, x6, x7, x8⟩ => (⟨[(18, .v (.int .i64 (n1 : Int)))], [⟨g2, 39, [x2.val w1.h.h.l.length, x3.val w1.h.h.t.length, .int .i64 w1.h.version, x4.val w1.h.peers.length, x5.val w1.d.safe.length, x6.val w1.d.wait.length, .bool w1.up, x7.val w1.c.length, x8.val w1.mail.length]⟩], [], [RdL EStep x2 w1.h.h.l, RdL EPlace x3 w1.h.h.t, RdN NPeer x4 w1.h.peers, RdL EByte x5 w1.d.safe, RdL EByte x6 w1.d.wait, RdN NClient x7 w1.c, RdN NMail x8 w1.mail], (n1 ≤ (l1.take (if 80 < (l1.length : Int) then 80 else (l1.length : Int)).toNat).length) ∧ (bT ok1 ((l1.take (if 80 < (l1.length : Int) then 80 else (l1.length : Int)).toNat).drop n1) w1) = (aN l1 ok1), (l1.take (if 80 < (l1.length : Int) then 80 else (l1.length : Int)).toNat).length - n1⟩ : Ls)) ⟨0, bV, x1.1, x1.2.1, x1.2.2.1, x1.2.2.2.1, x1.2.2.2.2.1, x1.2.2.2.2.2.1, x1.2.2.2.2.2.2⟩ (Sc (Sc (Sc (Sc (Sc (Sc Sn)))))) (.drop (.keep (.nil))) ⟨Nat.zero_le _, (by simp only [aN, Cf] : (aN l1 ok1) = (bT ok1 (l1.take (if 80 < (l1.length : Int) then 80 else (l1.length : Int)).toNat) bV)).symm⟩ Le5 ?_
 rintro ⟨n1, w1, x2, x3, x4, x5, x6, x7, x8⟩ ⟨hkn1, hf1⟩
 simp only [List.cons_append, List.nil_append]
 refine Tx ?_
 refine Cd (b := decide ((n1 : Int) < ((l1.take (if 80 < (l1.length : Int) then 80 else (l1.length : Int)).toNat).length : Int))) (fun hc1 => ?_) fun hc1 => ?_
 ·have hlt0 : n1 < (l1.take (if 80 < (l1.length : Int) then 80 else (l1.length : Int)).toNat).length := Int.ofNat_lt.1 (of_decide_eq_true hc1)
  refine Tx ?_
  refine fj NHap (X := y1) (l := (l1.take (if 80 < (l1.length : Int) then 80 else (l1.length : Int)).toNat)) Mm fun (γ1 : Nat → SlV) => ?_
  refine rw_q rfl rfl rfl (dw NHap γ1 n1 rfl rfl Zf rfl Zf rfl rfl rfl Mm rfl Zf (fun _ => by first | assumption | omega)) ?_
  refine rw_q rfl rfl rfl (q_is (v' := .agg ⟨[.int .i64 (gt (l1.take (if 80 < (l1.length : Int) then 80 else (l1.length : Int)).toNat) n1).kind, .int .i64 (gt (l1.take (if 80 < (l1.length : Int) then 80 else (l1.length : Int)).toNat) n1).who, .int .i64 (gt (l1.take (if 80 < (l1.length : Int) then 80 else (l1.length : Int)).toNat) n1).n, .int .i64 (gt (l1.take (if 80 < (l1.length : Int) then 80 else (l1.length : Int)).toNat) n1).node, .int .i64 (gt (l1.take (if 80 < (l1.length : Int) then 80 else (l1.length : Int)).toNat) n1).parent, .int .i64 (gt (l1.take (if 80 < (l1.length : Int) then 80 else (l1.length : Int)).toNat) n1).name, (γ1 n1).val (gt (l1.take (if 80 < (l1.length : Int) then 80 else (l1.length : Int)).toNat) n1).roots.length]⟩) (fP NHap γ1 rfl rfl Zf rfl rfl Mm (fun _ => by first | assumption | omega)) rfl) ?_
  refine aI (F := RdL EInt (γ1 n1) (gt (l1.take (if 80 < (l1.length : Int) then 80 else (l1.length : Int)).toNat) n1).roots) [am NHap γ1 (l1.take (if 80 < (l1.length : Int) then 80 else (l1.length : Int)).toNat)] Sf (fun M w h => (allF1 h) n1 Zc _ (.head _)) ?_
  refine Al fun g3 => ?_
  refine Tx ?_
  refine cJ (lL x2 x3 x4 x5 x6 x7 x8 w1 (γ1 n1) (gt (l1.take (if 80 < (l1.length : Int) then 80 else (l1.length : Int)).toNat) n1)) .sq (ac rfl) rfl rfl rfl Kr rfl rfl Sf ?_
  intro x9
  generalize hS1 : (cE w1 (gt (l1.take (if 80 < (l1.length : Int) then 80 else (l1.length : Int)).toNat) n1)) = S1
  refine Tx ?_
  refine Al fun g4 => ?_
  refine Tx ?_
  refine Cd (b := (S1.2 == 0)) (fun hc2 => ?_) fun hc2 => ?_
  ·have hc2p := eq_of_beq hc2
   refine Tx ?_
   refine gg (hfn1 x9.1 x9.2.1 x9.2.2.1 x9.2.2.2.1 x9.2.2.2.2.1 x9.2.2.2.2.2.1 x9.2.2.2.2.2.2 S1.1) .sq (ac rfl) rfl rfl rfl rfl rfl (by assumption) rfl rfl rfl Sf ?_
   intro _
   refine Tx ?_
   refine Cd (b := (!(ok1 S1.1))) (fun hc3 => ?_) fun hc3 => ?_
   ·refine Tx ?_
    have hr1 : (aN l1 ok1) = (S1.1, false) := by rw [← hf1, aE hlt0]; simp only [bT, hS1, hc2, hc3, Cf]
    refine ai ?_
    rw [hr1]
    exact ⟨⟨x9.1, x9.2.1, x9.2.2.1, x9.2.2.2.1, x9.2.2.2.2.1, x9.2.2.2.2.2.1, x9.2.2.2.2.2.2⟩, _, (.cons (.agg rfl rfl Mm rfl) (.cons (.tmp rfl) .nil)), rfl, Sf, .nil _, .nil _⟩
   ·refine Tx ?_
    refine rw_q rfl rfl rfl (q_add rfl rfl Zf rfl Zf Zo) ?_
    refine Tx ?_
    refine ⟨⟨(n1 + 1), S1.1, x9.1, x9.2.1, x9.2.2.1, x9.2.2.2.1, x9.2.2.2.2.1, x9.2.2.2.2.2.1, x9.2.2.2.2.2.2⟩, ⟨hlt0, (by rw [← hf1, aE hlt0]; simp only [bT, hS1, hc2, hc3, Cf] : (aN l1 ok1) = (bT ok1 ((l1.take (if 80 < (l1.length : Int) then 80 else (l1.length : Int)).toNat).drop (n1 + 1)) S1.1)).symm⟩, (by simp only []; omega), Le5⟩
  ·have hc2p := ne_of_beq_false hc2
   refine Tx ?_
   refine rw_q rfl rfl rfl (q_add rfl rfl Zf rfl Zf Zo) ?_
   refine Tx ?_
   refine ⟨⟨(n1 + 1), w1, x2, x3, x4, x5, x6, x7, x8⟩, ⟨hlt0, (by rw [← hf1, aE hlt0]; simp only [bT, hS1, hc2, Cf] : (aN l1 ok1) = (bT ok1 ((l1.take (if 80 < (l1.length : Int) then 80 else (l1.length : Int)).toNat).drop (n1 + 1)) w1)).symm⟩, (by simp only []; omega), Le5⟩
 ·have hge0 : (l1.take (if 80 < (l1.length : Int) then 80 else (l1.length : Int)).toNat).length ≤ n1 := by have := of_decide_eq_false hc1; omega
  refine Tx ?_
  have hr2 : (aN l1 ok1) = (w1, true) := by rw [← hf1, List.drop_of_length_le hge0]; simp only [bT, Cf]
  refine ai ?_
  rw [hr2]
  exact ⟨⟨x2, x3, x4, x5, x6, x7, x8⟩, _, (.cons (.agg rfl rfl Mm rfl) (.cons (.tmp rfl) .nil)), rfl, Sf, .nil _, .nil _⟩
end Go.Proofs.YtpkaloknohpleaaGreatDoor

namespace Go.Proofs.YtpkaloknohpleaaGreatDoor
open Go Go.Proofs.YtpkaloknohpleaaGreatDoor.Fw Go.Proofs
theorem nz : eA = true := by decide +kernel
theorem New_W : IsW bV [] := by
 obtain ⟨l, h⟩ := (d8 _).1 New_ok
 exact ⟨h.three, h.mail, (fun _ h => by cases h), by simp, mD (l := []) (fun _ h => by cases h) (by simp), fun _ => ⟨rfl, rfl⟩, (fun hd => by cases hd), h.cli⟩
theorem jf (ok : Wld → Bool) (I : Wld → List Rec → Prop) (step : ∀ w l x w' l', IsW w l → I w l → Hap w l x w' l' → I w' l') (hok : ∀ w l, IsW w l → I w l → ok w = true) :
  ∀ (r : List Happening) (w : Wld) (l : List Rec), IsW w l → I w l → (bT ok r w).2 = true
 | [], w, l, _, _ => rfl
 | x :: r, w, l, h, hI => by
  rw [bT]
  cases h1 : ((cE w x).2 == 0) with
  | false => exact jf ok I step hok r w l h hI
  | true =>
   obtain ⟨b1, b2, b3⟩ := vw (eq_of_beq h1)
   obtain ⟨l', hp⟩ := mv h b2
   have hw' := hp.keeps h
   have hI' := step _ _ _ _ _ h hI hp
   rw [b3]
   simp only [hok _ _ hw' hI', Bool.not_true, cond_true, cond_false]
   exact jf ok I step hok r _ l' hw' hI'
theorem nH {ok : Wld → Bool} (I : Wld → List Rec → Prop) (h0 : I bV []) (step : ∀ w l x w' l', IsW w l → I w l → Hap w l x w' l' → I w' l') (hok : ∀ w l, IsW w l → I w l → ok w = true) (l : List Happening) :
  (aN l ok).2 = true := jf ok I step hok _ _ _ New_W h0
theorem kl : ∀ (a b : List Rec) (h : Hub), (bE (a ++ b) h.h.l h.h.t h.version h.peers).2 = 0 → (bE a h.h.l h.h.t h.version h.peers).2 = 0
 | [], b, h, _ => rfl
 | q :: a, b, h, h0 => by
  rw [List.cons_append, bE] at h0
  rw [bE]
  have he : (⟨⟨h.h.l, h.h.t⟩, h.version, h.peers⟩ : Hub) = h := rfl
  simp only [he] at h0 ⊢
  cases h1 : ((aJ h q).2 != 0) with
  | true => rw [h1, cond_true] at h0; simp only at h0; rw [h0] at h1; cases h1
  | false =>
   rw [h1, cond_false] at h0
   rw [cond_false]
   exact kl a b (aJ h q).1 h0
theorem pN {l : List Rec} (h : (aq l).2 = 0) (n : Nat) : (aq (l.take n)).2 = 0 := by
 have hr := oe h
 have h1 : (bE (l.take n ++ l.drop n) b8.h.l b8.h.t b8.version b8.peers).2 = 0 := by rw [List.take_append_drop]; exact hr.2.1
 have h2 := kl (l.take n) (l.drop n) b8 h1
 unfold aq
 have : decide (((l.take n).length : Int) > 60) = false := by
  have h60 := hr.1
  simp only [List.length_take, decide_eq_false_iff_not]; omega
 rw [this, cond_false]
 exact h2
def LogOk (l : List Rec) : Prop := (aq l).2 = 0
theorem Hap.log {w w' : Wld} {l l' : List Rec} {x : Happening} (h : IsW w l) (hp : Hap w l x w' l') (hl : LogOk l) : LogOk l' := by
 have key : ∀ r, w.up = true → (aJ w.h r).2 = 0 → LogOk (l ++ [r]) := fun r hu h0 => by
  have h2 := nh h0
  have h3 := h.hub.2 hu
  have := iP (h.up hu).2 h0 (by have := h.sixty; omega)
  unfold LogOk; rw [this]
 cases hp with
 | got _ _ _ _ _ hu h0 => exact key _ hu h0
 | began _ _ hu h0 _ => exact key _ hu h0
 | roots _ _ hu h0 => exact key _ hu h0
 | hear _ _ _ _ _ _ => exact hl
 | late _ _ _ _ _ _ _ => exact hl
 | lose _ _ => exact hl
 | crash _ _ => exact hl
 | boot _ _ _ => exact hl
 | move _ _ _ => exact hl
 | again _ _ _ => exact hl
 | shown _ _ _ _ _ => exact hl
theorem Hap.grows {w w' : Wld} {l l' : List Rec} {x : Happening} (hp : Hap w l x w' l') : l' = l ∨ ∃ r, l' = l ++ [r] ∧ w.up = true ∧ (aJ w.h r).2 = 0 ∧ w'.h = (aJ w.h r).1 := by
 cases hp with
 | got _ _ _ _ _ hu h0 => exact .inr ⟨_, rfl, hu, h0, rfl⟩
 | began _ _ hu h0 _ => exact .inr ⟨_, rfl, hu, h0, rfl⟩
 | roots _ _ hu h0 => exact .inr ⟨_, rfl, hu, h0, rfl⟩
 | hear _ _ _ _ _ _ => exact .inl rfl
 | late _ _ _ _ _ _ _ => exact .inl rfl
 | lose _ _ => exact .inl rfl
 | crash _ _ => exact .inl rfl
 | boot _ _ _ => exact .inl rfl
 | move _ _ _ => exact .inl rfl
 | again _ _ _ => exact .inl rfl
 | shown _ _ _ _ _ => exact .inl rfl
theorem iq {w : Wld} {l : List Rec} (h : IsW w l) {j : Nat} (hj : j < 3) (c : Client) (k : Nat) : gt (w.c.set j c) k = if k = j then c else gt w.c k := by
 by_cases hk : k = j
 ·subst hk; rw [if_pos rfl]; simp [gt, List.getD_eq_getElem?_getD, h.three, hj]
 ·rw [if_neg hk]; simp [gt, List.getD_eq_getElem?_getD, List.getElem?_set_ne (Ne.symm hk)]
theorem k7 {l : List Mail} {x : Happening} {m : Mail} (h : m ∈ nQ l x) : m ∈ l := by
 unfold nQ at h
 cases hx : (x.kind == 8) with
 | true => rw [hx] at h; exact h
 | false =>
  rw [hx, cond_false] at h
  rcases List.mem_append.1 h with h | h
  ·exact List.mem_of_mem_take h
  ·exact List.mem_of_mem_drop h
theorem ir {l : List Mail} {p m : Mail} (h : m ∈ posted l p) : m ∈ l ∨ m = p := by
 unfold posted at h
 split at h
 ·rcases List.mem_append.1 h with h | h
  ·exact .inl h
  ·exact .inr (List.mem_singleton.1 h)
 ·exact .inl h
end Go.Proofs.YtpkaloknohpleaaGreatDoor

namespace Go.Proofs.YtpkaloknohpleaaGreatDoor
open Go Go.Proofs.YtpkaloknohpleaaGreatDoor.Fw Go.Proofs Go.Proofs.YtpkaloknohpleaaGreatDoor Go.RowKit
theorem rt : "*" ++ "errors.errorString" = "*errors.errorString" := by decide
theorem s8 (u : TypeId) (h : Tryz.prog.typeName? 3 u = some "*errors.errorString") : u = 249 :=
 typeName_ptr_named (nm := "errors.errorString") (by rw [rt]; kernel_rfl) (by kernel_rfl) (by decide) u (by rw [rt]; exact h)
theorem vV {W : World} (h : laidMetH Tryz.prog Rows.storyTreeRow.laid W) (hsh : W.ShapedOpen Tryz.prog) : LibP Tryz.prog (fun _ => False) W := by
 rw [MakeChecks.laidMetH_plain _ _ _ (by kernel_rfl)] at h
 have e1 : (Rows.laid_internal_strconv_uint64pow10 : DataW Unit) = Lib.tabData .u64 Lib.pow10Tab := by kernel_rfl
 have h2 : laidMet Tryz.prog [("internal/strconv.uint64pow10", Rows.laid_internal_strconv_uint64pow10), ("unicode/utf8.acceptRanges", Rows.laid_unicode_utf8_acceptRanges), ("strconv.ErrRange", Rows.laid_strconv_ErrRange), ("strconv.ErrSyntax", Rows.laid_strconv_ErrSyntax), ("unicode/utf8.first", Rows.laid_unicode_utf8_first)] W := (laidMet.tail (laidMet.tail h))
 have h4 := laidMet.tail (laidMet.tail h2)
 have h5 := laidMet.tail h4
 rw [e1] at h2
 refine vU ⟨?_, ?_, ?_, ?_⟩
 ·obtain ⟨m, hm⟩ := cell_of_shapedOpen_int (g := 0) (zero := #[.int .i64 0]) (t := 3) hsh (of_decide_eq_true (by kernel_rfl)) (by kernel_rfl) rfl (by kernel_rfl) (by kernel_rfl) Tryz.underlying3
  exact ⟨0, m, by kernel_rfl, hm⟩
 ·exact Lib.tabIs_of_head (g := 3) (by kernel_rfl) (by kernel_rfl) Tryz.underlying253 Tryz.underlying233 (by kernel_rfl) (by kernel_rfl) h2
 ·obtain ⟨a, s, hv, _⟩ := laid_sentinel h5 (g := 1) (ti := 172) (tp := 249) (te := 251) (ts := 9) (by kernel_rfl) (by kernel_rfl) qM s8 Tryz.underlying249 Tryz.underlying251 rfl rfl und_9 (by kernel_rfl) (by kernel_rfl)
  exact ⟨_, _, hv⟩
 ·obtain ⟨a, s, hv, _⟩ := laid_sentinel h4 (g := 2) (ti := 172) (tp := 249) (te := 251) (ts := 9) (by kernel_rfl) (by kernel_rfl) qM s8 Tryz.underlying249 Tryz.underlying251 rfl rfl und_9 (by kernel_rfl) (by kernel_rfl)
  exact ⟨_, _, hv⟩
section
variable {H : Type} {enc : TypeId × Value → H}
theorem wrapped {a : Assume} {C : Checked} {os : Os} {f : FuncId} {fn : Func} {s : ChangeSpec} {conds : List PathCond} {apart fresh handsOn again : Bool} {laid : List (String × DataW Unit)}
  (own : ownKnob C.prog.godebug = none) (started : os.Started) (noInit : C.prog.inits.idxOf? f = none) (hfn : C.prog.funcs[f]? = some fn)
  (witness : ∃ (w : World) (tape : Tape) (i : Input), w.os = os ∧ (w.forCall tape i).Shaped C.prog ∧ i.vars = [] ∧ Input.okWide C.prog (w.forCall tape i) .any w.heap.size f i ∧
   ((s.pre enc C.prog fn conds apart (w.forCall tape i).memory i.args ∧ laidMetH C.prog laid (w.forCall tape i).memory) ∧ sizedMet enc C.prog fn (OpenSpec.ofChange s) apart (w.forCall tape i).memory i.args) ∧ a.holds C.prog (lone (Frame.enter C.prog f i.args .normal) [] (w.forCall tape i)))
  (contract : ∀ (W : World) (base : Nat) (args : Array Value) (ds gs : List (DataW H)) (before : List MemPlace),
   (∀ (j : Nat) t v, fn.params[j]? = some t → args[j]? = some v → Value.okWide C.prog W .any base t v) →
   DataW.Whole enc C.prog fn.params.toList s.vars apart W args.toList ds gs before →
   conds.all (PathCond.test C.prog ⟨fn.params.toList, ds, s.plain.varTypes C.prog, gs⟩) = true →
   (DataW.weightsEach C.prog (fn.params.toList ++ s.plain.varTypes C.prog) (ds ++ gs)).all (· ≤ reachBytes) = true → laidMetH C.prog laid W → W.ShapedOpen C.prog →
   Calls C.prog f args W fun e W' => ∃ v, e = .returned v ∧ s.post enc C.prog fn apart fresh handsOn again W args v W') :
  ReturnsInHanded a C os f .any (fun w args => (s.pre enc C.prog fn conds apart w args ∧ laidMetH C.prog laid w) ∧ sizedMet enc C.prog fn (OpenSpec.ofChange s) apart w args) (s.post enc C.prog fn apart fresh handsOn again) := by
 refine returnsInHanded_of_calls own started noInit witness ?_
 intro w tape i _ hsh _ hok hpre hholds
 obtain ⟨_, _, _, fn', hfn', _, _, _, _, hval⟩ := hok
 have e : fn' = fn := Option.some.inj (hfn'.symm.trans hfn)
 subst e
 obtain ⟨⟨⟨ds, gs, before, hw, hc⟩, hx⟩, hz⟩ := hpre
 have hw' := DataW.Whole.of_heap (w' := w.forCall tape i) (by rfl) hw
 refine (contract (w.forCall tape i) w.heap.size i.args ds gs before hval hw' hc (hz.weights hw) (hx.of_heap (by rfl)) hsh).mono fun e W' ⟨v, he, hp⟩ => ?_
 subst he
 exact ChangeSpec.post_blind hp
end
end Go.Proofs.YtpkaloknohpleaaGreatDoor

namespace Go.Proofs.YtpkaloknohpleaaGreatDoor
open Go Go.Proofs.YtpkaloknohpleaaGreatDoor.Fw Go.Proofs
theorem k5 : Opens Tryz.prog 3 (fun (a : Int) (s : Unit) => [.int .i64 a]) (fun (a : Int) (s : Unit) => []) :=
 tv Tryz.underlying3
theorem lE : Tryz.prog.cellsOf 3 = 1 := by kernel_rfl
theorem wa : Tryz.prog.bytesOf 3 = 8 := by kernel_rfl
theorem tu : Opens Tryz.prog 57 (fun (a : List Int) (s : SlV) => [s.val a.length]) (fun (a : List Int) (s : SlV) => [RdL EInt s a]) :=
 oB EInt (fun _ => rfl) rfl Tryz.underlying57 Tryz.underlying3 lE wa
theorem uN : Tryz.prog.cellsOf 57 = 1 := by kernel_rfl
theorem rX : Tryz.prog.cellsOf 68 = 7 := by kernel_rfl
theorem uQ : Tryz.prog.bytesOf 68 = 72 := by kernel_rfl
theorem tr : Opens Tryz.prog 68 (fun (a : Happening) (s : SlV) => [.int .i64 a.kind, .int .i64 a.who, .int .i64 a.n, .int .i64 a.node, .int .i64 a.parent, .int .i64 a.name, s.val a.roots.length]) (fun (a : Happening) (s : SlV) => [RdL EInt s a.roots]) :=
 (qc Tryz.underlying68 rX (fW k5 rfl rfl lE (fW k5 rfl rfl lE (fW k5 rfl rfl lE (fW k5 rfl rfl lE (fW k5 rfl rfl lE (fW k5 rfl rfl lE (fW tu rfl rfl uN su)))))))).map (fun (a : Happening) (s : SlV) => [.int .i64 a.kind, .int .i64 a.who, .int .i64 a.n, .int .i64 a.node, .int .i64 a.parent, .int .i64 a.name, s.val a.roots.length]) (fun (a : Happening) (s : SlV) => [RdL EInt s a.roots]) (fun a => (⟨a.1, a.2.1, a.2.2.1, a.2.2.2.1, a.2.2.2.2.1, a.2.2.2.2.2.1, a.2.2.2.2.2.2.1⟩ : Happening)) (fun s => s.2.2.2.2.2.2.1) (fun _ _ => rfl) (fun _ _ => rfl)
theorem opens_t22 : Opens Tryz.prog 22 (fun (a : List Happening) (s : SlV) => [s.val a.length]) (fun (a : List Happening) (s : SlV) => [RdN NHap s a]) :=
 qd NHap Tryz.underlying22 tr rX rfl uQ
end Go.Proofs.YtpkaloknohpleaaGreatDoor
