/- Part of this claim. No condition. -/
import Derived.Test.YtkjccbdeaflekaaGreatDoorK10
import Derived.Test.YtkjccbdeaflekaaGreatDoorK7
import Derived.Test.YtkjccbdeaflekaaGreatDoorK8
import Derived.Test.YtkjccbdeaflekaaGreatDoorK4
import Derived.Test.YtkjccbdeaflekaaGreatDoorK6
set_option linter.unusedVariables false
set_option linter.unusedSimpArgs false
set_option maxHeartbeats 2000000
namespace Go.Proofs.YtkjccbdeaflekaaGreatDoor
open Go Go.Proofs.YtkjccbdeaflekaaGreatDoor.Fw Go.Proofs
attribute [local irreducible] RdL RdN VarP LibP RW CW
def aA (w1 : Wld) (x1 : Happening) : Int × Wld :=
 (bif (decide (x1.who < 0) || decide (x1.who ≥ (w1.c.length : Int))) then (5, w1) else (bif (x1.kind == 1) then (bif ((cd (gt w1.c x1.who.toNat) x1.who x1.node x1.parent x1.name).2.2 != 0) then ((cd (gt w1.c x1.who.toNat) x1.who x1.node x1.parent x1.name).2.2, w1) else (0, (cU (⟨w1.h, w1.d, w1.up, (w1.c.set x1.who.toNat (cd (gt w1.c x1.who.toNat) x1.who x1.node x1.parent x1.name).1), w1.mail⟩ : Wld) (⟨1, x1.who, 0, 0, 0, 0, 0, (cd (gt w1.c x1.who.toNat) x1.who x1.node x1.parent x1.name).2.1, (⟨[], [], []⟩ : View), (⟨[], [], [], []⟩ : Delta)⟩ : Mail)))) else (bif (x1.kind == 2) then (bif (decide (x1.n < 0) || decide (x1.n ≥ ((gt w1.c x1.who.toNat).pending.length : Int))) then (5, w1) else (0, (cU w1 (⟨1, x1.who, 0, 0, 0, 0, 0, (gt (gt w1.c x1.who.toNat).pending x1.n.toNat), (⟨[], [], []⟩ : View), (⟨[], [], [], []⟩ : Delta)⟩ : Mail)))) else (bif (!w1.up) then (7, w1) else (bif (x1.kind == 6) then ((bT w1 x1.who).1, (bT w1 x1.who).2) else (bif (x1.kind == 5) then ((bf w1 (⟨3, x1.who, 0, x1.roots, (⟨0, 0, 0, 0, 0, 0, 0⟩ : Op)⟩ : Rec)).1, (bf w1 (⟨3, x1.who, 0, x1.roots, (⟨0, 0, 0, 0, 0, 0, 0⟩ : Op)⟩ : Rec)).2) else ((dk w1 x1).1, (dk w1 x1).2)))))))
theorem dE (c1 : Nat) (y1 : SlV) (y2 : SlV) (y3 : SlV) (y4 : SlV) (y5 : SlV) (y6 : SlV) (y6b : Option Nat) (γ1 : Nat → SlV × SlV × SlV × SlV) (y7 : SlV) (w1 : Wld) (y8 : SlV) (x1 : Happening) (hk : c8 w1.h = 0) (hc : w1.c.length = 3) (hv : w1.up = true → w1.h.version ≤ ((am w1.d).2.1.length : Int)) : DoesG Tryz.prog 88 [.pointer (some ⟨c1, 0, none⟩), .agg ⟨cA y8 x1⟩] [RdL EStep y1 w1.h.h.l, RdL EPlace y2 w1.h.h.t, RdN NPeer y3 w1.h.peers, RdL EByte y4 w1.d.safe, RdL EByte y5 w1.d.wait, FactsG NClient γ1 w1.c, RdN NMail y7 w1.mail, RdL EInt y8 x1.roots, LibP Tryz.prog] ⟨[⟨c1, 37, [y1.val w1.h.h.l.length, y2.val w1.h.h.t.length, .int .i64 w1.h.version, y3.val w1.h.peers.length, y4.val w1.d.safe.length, y5.val w1.d.wait.length, .bool w1.up, y6.val w1.c.length, y7.val w1.mail.length]⟩], [ownL NClient.E 63 y6 y6b (zipG γ1 0 w1.c)]⟩ (fun (X : SlV × SlV × SlV × SlV × SlV × SlV × Option Nat × (Nat → SlV × SlV × SlV × SlV) × SlV) => .int .i64 (aA w1 x1).1) (fun X => [RdL EStep X.1 (aA w1 x1).2.h.h.l, RdL EPlace X.2.1 (aA w1 x1).2.h.h.t, RdN NPeer X.2.2.1 (aA w1 x1).2.h.peers, RdL EByte X.2.2.2.1 (aA w1 x1).2.d.safe, RdL EByte X.2.2.2.2.1 (aA w1 x1).2.d.wait, FactsG NClient X.2.2.2.2.2.2.2.1 (aA w1 x1).2.c, RdN NMail X.2.2.2.2.2.2.2.2 (aA w1 x1).2.mail]) (fun X => ⟨[⟨c1, 37, [X.1.val (aA w1 x1).2.h.h.l.length, X.2.1.val (aA w1 x1).2.h.h.t.length, .int .i64 (aA w1 x1).2.h.version, X.2.2.1.val (aA w1 x1).2.h.peers.length, X.2.2.2.1.val (aA w1 x1).2.d.safe.length, X.2.2.2.2.1.val (aA w1 x1).2.d.wait.length, .bool (aA w1 x1).2.up, X.2.2.2.2.2.1.val (aA w1 x1).2.c.length, X.2.2.2.2.2.2.2.2.val (aA w1 x1).2.mail.length]⟩], [ownL NClient.E 63 X.2.2.2.2.2.1 X.2.2.2.2.2.2.1 (zipG X.2.2.2.2.2.2.2.1 0 (aA w1 x1).2.c)]⟩) := by
 refine Dq aK Tryz.func88 Tryz.ntmps88 Tryz.results88 fun C => ?_
 refine Pc EInt y8 x1.roots 8 fun hlen1 => ?_
 refine BxT fun g1 => ?_
 refine Tx ?_
 (repeat refine aD ?_); refine ap (fun _ => some []) ?_
 refine Dx (.range 13) ?_
 refine Re0 ?_
 have hf := Ri (aA.eq_1 w1 x1)
 refine Ch hf (fun hc1 hf => ?_) fun hc1 hf => ?_
 ·refine Rx ?_; exact Re ⟨y1, y2, y3, y4, y5, y6, y6b, γ1, y7⟩ Rv
 ·have hwr := hc1
  simp only [Bool.or_eq_false_iff, decide_eq_false_iff_not] at hwr
  refine Tx ?_
  (repeat refine aD ?_); refine ap (fun j => match j with | 9 => none | _ => some []) ?_
  refine Dx (.range 6) ?_
  refine Oq NClient.E y6 (zipG γ1 0 w1.c) (Fa 6 [8]) (fm NClient γ1 x1.who.toNat rfl rfl Zf rfl Zf rfl rfl rfl (.head _) rfl Zo Za) ?_
  refine Oq NClient.E y6 (zipG γ1 0 w1.c) (Fa 7 [8]) (q_is (v' := .agg ⟨cC (γ1 x1.who.toNat).1 (γ1 x1.who.toNat).2.1 (γ1 x1.who.toNat).2.2.1 (γ1 x1.who.toNat).2.2.2 (gt w1.c x1.who.toNat)⟩) (fY NClient γ1 rfl rfl Zf rfl rfl (.head _) Za) rfl) ?_
  refine Fg NClient γ1 w1.c x1.who.toNat 0 ?_
  refine Fg NClient γ1 w1.c x1.who.toNat 1 ?_
  refine Fg NClient γ1 w1.c x1.who.toNat 2 ?_
  refine Fg NClient γ1 w1.c x1.who.toNat 3 ?_
  refine Rn 8 ?_
  refine cw (.an rfl rfl) (al rfl) rfl rfl rfl rfl fun g2 => ?_
  refine Rn 9 ?_
  refine Wa ?_
  refine Re0 ?_
  refine Ce hf (fun hc2 hc2p hf => ?_) fun hc2 hc2p hf => ?_
  ·refine Ck (nu (γ1 x1.who.toNat).1 (γ1 x1.who.toNat).2.1 (γ1 x1.who.toNat).2.2.1 (γ1 x1.who.toNat).2.2.2 (gt w1.c x1.who.toNat) x1.who x1.node x1.parent x1.name) fun x2 => ?_
   generalize hS1 : (cd (gt w1.c x1.who.toNat) x1.who x1.node x1.parent x1.name) = S1
   try rw [hS1] at hf
   refine AlT fun g3 => ?_
   refine AlT fun g4 => ?_
   refine Cn hf (fun hc3 hc3p hf => ?_) fun hc3 hc3p hf => ?_
   ·refine Rx ?_; exact Re ⟨y1, y2, y3, y4, y5, y6, y6b, γ1, y7⟩ Rv
   ·refine Tx ?_
    (repeat refine aD ?_); refine ap (fun j => match j with | 8 => none | _ => some []) ?_
    refine Dx (.range 7) ?_
    refine Oq NClient.E y6 (zipG γ1 0 w1.c) (Fa 7 []) (fm NClient γ1 x1.who.toNat rfl rfl Zf rfl Zf rfl rfl rfl (.head _) rfl Zo Za) ?_
    refine Rn 8 ?_
    refine Wn NClient γ1 w1.c x1.who.toNat 0 (x2.1, x2.2.1, x2.2.2.1, x2.2.2.2) S1.1 y6b ?_
    refine Fu NClient γ1 w1.c x1.who.toNat (x2.1, x2.2.1, x2.2.2.1, x2.2.2.2) S1.1 ?_
    have hv1 : y6.val w1.c.length = y6.val (w1.c.set x1.who.toNat S1.1).length := congrArg (SlV.val y6) List.length_set.symm
    (try simp only [cB, cC, cW]); try rw [hv1]
    refine Re0 ?_
    refine Tx ?_
    refine Fr EInt ?_
    refine Fr EPlace ?_
    refine Cm (gn c1 y1 y2 y3 y4 y5 y6 y6b (updG γ1 x1.who.toNat (x2.1, x2.2.1, x2.2.2.1, x2.2.2.2)) y7 (⟨w1.h, w1.d, w1.up, (w1.c.set x1.who.toNat S1.1), w1.mail⟩ : Wld) Z0 Z0 Z0 Z0 Z0 Z0 Z0 (⟨1, x1.who, 0, 0, 0, 0, 0, S1.2.1, (⟨[], [], []⟩ : View), (⟨[], [], [], []⟩ : Delta)⟩ : Mail)) fun x3 => ?_
    generalize hS2 : (cU (⟨w1.h, w1.d, w1.up, (w1.c.set x1.who.toNat S1.1), w1.mail⟩ : Wld) (⟨1, x1.who, 0, 0, 0, 0, 0, S1.2.1, (⟨[], [], []⟩ : View), (⟨[], [], [], []⟩ : Delta)⟩ : Mail)) = S2
    try rw [hS2] at hf
    refine Rx ?_; exact Re ⟨x3.1, x3.2.1, x3.2.2.1, x3.2.2.2.1, x3.2.2.2.2.1, x3.2.2.2.2.2.1, x3.2.2.2.2.2.2.1, x3.2.2.2.2.2.2.2.1, x3.2.2.2.2.2.2.2.2⟩ Rv
  ·refine Ce hf (fun hc4 hc4p hf => ?_) fun hc4 hc4p hf => ?_
   ·refine Ch hf (fun hc5 hf => ?_) fun hc5 hf => ?_
    ·refine Rx ?_; exact Re ⟨y1, y2, y3, y4, y5, y6, y6b, γ1, y7⟩ Rv
    ·have hnr := hc5
     simp only [Bool.or_eq_false_iff, decide_eq_false_iff_not] at hnr
     refine Tx ?_
     (repeat refine aD ?_); refine ap (fun j => match j with | 10 => none | _ => some []) ?_
     refine Dx (.range 7) ?_
     refine Rb 7 rfl (Xi EOp x1.n.toNat) ?_
     refine Rb 8 rfl (Xa EOp) ?_
     refine Ra 9 rfl Qp ?_
     refine Rn 10 ?_
     refine Fr EInt ?_
     refine Fr EPlace ?_
     refine pG (gn c1 y1 y2 y3 y4 y5 y6 y6b γ1 y7 w1 Z0 Z0 Z0 Z0 Z0 Z0 Z0 (⟨1, x1.who, 0, 0, 0, 0, 0, (gt (gt w1.c x1.who.toNat).pending x1.n.toNat), (⟨[], [], []⟩ : View), (⟨[], [], [], []⟩ : Delta)⟩ : Mail)) (.lo _ rfl rfl) (.inr fun _ h => h) (al rfl) rfl rfl rfl Kr rfl rfl Sm Tk Tk ?_
     intro x4
     generalize hS3 : (cU w1 (⟨1, x1.who, 0, 0, 0, 0, 0, (gt (gt w1.c x1.who.toNat).pending x1.n.toNat), (⟨[], [], []⟩ : View), (⟨[], [], [], []⟩ : Delta)⟩ : Mail)) = S3
     try rw [hS3] at hf
     refine Re0 ?_
     refine Rx ?_; exact Re ⟨x4.1, x4.2.1, x4.2.2.1, x4.2.2.2.1, x4.2.2.2.2.1, x4.2.2.2.2.2.1, x4.2.2.2.2.2.2.1, x4.2.2.2.2.2.2.2.1, x4.2.2.2.2.2.2.2.2⟩ Rv
   ·refine Ch hf (fun hc6 hf => ?_) fun hc6 hf => ?_
    ·refine Rx ?_; exact Re ⟨y1, y2, y3, y4, y5, y6, y6b, γ1, y7⟩ Rv
    ·have hup : w1.up = true := (by simpa using hc6)
     refine Ce hf (fun hc7 hc7p hf => ?_) fun hc7 hc7p hf => ?_
     ·refine Cm (nn c1 y1 y2 y3 y4 y5 y6 y6b γ1 y7 w1 x1.who Zc Zc Zc) fun x5 => ?_
      refine Rx ?_; exact Re ⟨x5.1, x5.2.1, x5.2.2.1, x5.2.2.2.1, x5.2.2.2.2.1, x5.2.2.2.2.2.1, x5.2.2.2.2.2.2.1, x5.2.2.2.2.2.2.2.1, x5.2.2.2.2.2.2.2.2⟩ Rv
     ·refine Ce hf (fun hc8 hc8p hf => ?_) fun hc8 hc8p hf => ?_
      ·refine Cm (hZ c1 y1 y2 y3 y4 y5 y6 y6b γ1 y7 w1 y8 (⟨3, x1.who, 0, x1.roots, (⟨0, 0, 0, 0, 0, 0, 0⟩ : Op)⟩ : Rec)) fun x6 => ?_
       generalize hS4 : (bf w1 (⟨3, x1.who, 0, x1.roots, (⟨0, 0, 0, 0, 0, 0, 0⟩ : Op)⟩ : Rec)) = S4
       try rw [hS4] at hf
       refine Rx ?_; exact Re ⟨x6.1, x6.2.1, x6.2.2.1, x6.2.2.2.1, x6.2.2.2.2.1, x6.2.2.2.2.2.1, x6.2.2.2.2.2.2.1, x6.2.2.2.2.2.2.2.1, x6.2.2.2.2.2.2.2.2⟩ Rv
      ·refine Cm (nJ c1 y1 y2 y3 y4 y5 y6 y6b γ1 y7 w1 y8 x1 (hv (by assumption))) fun x7 => ?_
       refine Rx ?_; exact Re ⟨x7.1, x7.2.1, x7.2.2.1, x7.2.2.2.1, x7.2.2.2.2.1, x7.2.2.2.2.2.1, x7.2.2.2.2.2.2.1, x7.2.2.2.2.2.2.2.1, x7.2.2.2.2.2.2.2.2⟩ Rv
def aw (w1 : Wld) (x1 : Happening) : Int × Wld :=
 (bif (x1.kind == 7) then ((bE w1 x1).1, (bE w1 x1).2) else (bif (x1.kind == 8) then ((bE w1 x1).1, (bE w1 x1).2) else (bif (x1.kind == 9) then (bif ((az w1.mail x1.n false).2.2 == 0) then ((az w1.mail x1.n false).2.2, (⟨w1.h, w1.d, w1.up, w1.c, (az w1.mail x1.n false).1⟩ : Wld)) else ((az w1.mail x1.n false).2.2, w1)) else (bif (x1.kind == 10) then ((bS w1 x1).1, (bS w1 x1).2) else (bif (x1.kind == 11) then ((bS w1 x1).1, (bS w1 x1).2) else (bif (x1.kind == 1) then ((aA w1 x1).1, (aA w1 x1).2) else (bif (x1.kind == 2) then ((aA w1 x1).1, (aA w1 x1).2) else (bif (x1.kind == 3) then ((aA w1 x1).1, (aA w1 x1).2) else (bif (x1.kind == 4) then ((aA w1 x1).1, (aA w1 x1).2) else (bif (x1.kind == 5) then ((aA w1 x1).1, (aA w1 x1).2) else (bif (x1.kind == 6) then ((aA w1 x1).1, (aA w1 x1).2) else (4, w1))))))))))))
theorem jt (c1 : Nat) (y1 : SlV) (y2 : SlV) (y3 : SlV) (y4 : SlV) (y5 : SlV) (y6 : SlV) (y6b : Option Nat) (γ1 : Nat → SlV × SlV × SlV × SlV) (y7 : SlV) (w1 : Wld) (y8 : SlV) (x1 : Happening) (hk : c8 w1.h = 0) (hc : w1.c.length = 3) (hv : w1.up = true → w1.h.version ≤ ((am w1.d).2.1.length : Int)) : DoesG Tryz.prog 32 [.pointer (some ⟨c1, 0, none⟩), .agg ⟨cA y8 x1⟩] [RdL EStep y1 w1.h.h.l, RdL EPlace y2 w1.h.h.t, RdN NPeer y3 w1.h.peers, RdL EByte y4 w1.d.safe, RdL EByte y5 w1.d.wait, FactsG NClient γ1 w1.c, RdN NMail y7 w1.mail, RdL EInt y8 x1.roots, LibP Tryz.prog] ⟨[⟨c1, 37, cW y1 y2 y3 y4 y5 y6 y7 w1⟩], [ownL NClient.E 63 y6 y6b (zipG γ1 0 w1.c)]⟩ (fun (X : SlV × SlV × SlV × SlV × SlV × SlV × Option Nat × (Nat → SlV × SlV × SlV × SlV) × SlV) => .int .i64 (aw w1 x1).1) (fun X => [RdL EStep X.1 (aw w1 x1).2.h.h.l, RdL EPlace X.2.1 (aw w1 x1).2.h.h.t, RdN NPeer X.2.2.1 (aw w1 x1).2.h.peers, RdL EByte X.2.2.2.1 (aw w1 x1).2.d.safe, RdL EByte X.2.2.2.2.1 (aw w1 x1).2.d.wait, FactsG NClient X.2.2.2.2.2.2.2.1 (aw w1 x1).2.c, RdN NMail X.2.2.2.2.2.2.2.2 (aw w1 x1).2.mail]) (fun X => ⟨[⟨c1, 37, cW X.1 X.2.1 X.2.2.1 X.2.2.2.1 X.2.2.2.2.1 X.2.2.2.2.2.1 X.2.2.2.2.2.2.2.2 (aw w1 x1).2⟩], [ownL NClient.E 63 X.2.2.2.2.2.1 X.2.2.2.2.2.2.1 (zipG X.2.2.2.2.2.2.2.1 0 (aw w1 x1).2.c)]⟩) := by
 refine Dq aK Tryz.func32 Tryz.ntmps32 Tryz.results32 fun C => ?_
 refine Pc EInt y8 x1.roots 8 fun hlen1 => ?_
 refine BxT fun g1 => ?_
 have hf := Ri (aw.eq_1 w1 x1)
 refine Ce hf (fun hc1 hc1p hf => ?_) fun hc1 hc1p hf => ?_
 ·refine Cd' (fun hc2 => ?_) fun hc2 => ?_
  ·refine Cm (kI c1 y1 y2 y3 y4 y5 y6 y6b γ1 y7 w1 y8 x1 Zc) fun x2 => ?_
   refine Rx ?_; exact Re ⟨x2.1, x2.2.1, x2.2.2.1, x2.2.2.2.1, x2.2.2.2.2.1, x2.2.2.2.2.2.1, x2.2.2.2.2.2.2.1, x2.2.2.2.2.2.2.2.1, x2.2.2.2.2.2.2.2.2⟩ Rv
  ·exact Bool.noConfusion (hc2.symm.trans hc1)
 ·refine Ce hf (fun hc3 hc3p hf => ?_) fun hc3 hc3p hf => ?_
  ·refine Cm (kI c1 y1 y2 y3 y4 y5 y6 y6b γ1 y7 w1 y8 x1 Zc) fun x3 => ?_
   refine Rx ?_; exact Re ⟨x3.1, x3.2.1, x3.2.2.1, x3.2.2.2.1, x3.2.2.2.2.1, x3.2.2.2.2.2.1, x3.2.2.2.2.2.2.1, x3.2.2.2.2.2.2.2.1, x3.2.2.2.2.2.2.2.2⟩ Rv
  ·refine Ce hf (fun hc4 hc4p hf => ?_) fun hc4 hc4p hf => ?_
   ·(repeat refine aD ?_)
    refine pV [0, 4] [true, true] (fun (x4 : SlV) => [(5, .v (x4.val (az w1.mail x1.n false).1.length)), (7, .v (.int .i64 (az w1.mail x1.n false).2.2))]) (fun (x4 : SlV) => []) (fun (x4 : SlV) => [ownL NClient.E 63 y6 y6b (zipG γ1 0 w1.c)]) (fun (x4 : SlV) => [RdN NMail x4 (az w1.mail x1.n false).1]) (fun _ => True) (.cons rfl (.cons rfl (.nil _))) (.keep (.keep (.nil))) ?_ ?_
    ·refine ap (fun j => match j with | 13 => none | _ => some []) ?_
     refine Dx (.range 6) ?_
     refine Rw 6 11 ?_ ?_
     ·refine Ck (ip y7 w1.mail x1.n false) fun x5 => ?_
      refine Dx [7,8,9] ?_
      refine ra_p (Fa 10 [11,12,13]) rfl rfl rfl Xv ?_
      refine Rn 11 ?_
      refine cw (.an rfl rfl) (al rfl) rfl rfl rfl rfl fun g2 => ?_
      refine Ra 12 rfl Qp ?_
      refine Rn 13 ?_
      refine Wa ?_
      refine Ra 14 rfl Qp ?_
      refine Re0 ?_
      refine ⟨x5.1, trivial, Le4⟩
     ·refine cw (.an rfl rfl) (al rfl) rfl rfl rfl rfl fun g3 => ?_
      refine Rn 6 ?_
      refine Ck (ip y7 w1.mail x1.n false) fun x6 => ?_
      refine Dx [7,8,9] ?_
      refine ra_p (Fa 10 [12,13]) rfl rfl rfl Xv ?_
      refine Ra 12 rfl Qp ?_
      refine Rn 13 ?_
      refine Wa ?_
      refine Ra 14 rfl Qp ?_
      refine Re0 ?_
      refine ⟨x6.1, trivial, Le4⟩
    ·rintro x4 -
     simp only [Lc]
     refine Ce hf (fun hc5 hc5p hf => ?_) fun hc5 hc5p hf => ?_
     ·refine Rx ?_; exact Re ⟨y1, y2, y3, y4, y5, y6, y6b, γ1, x4⟩ Rv
     ·refine Rx ?_; exact Re ⟨y1, y2, y3, y4, y5, y6, y6b, γ1, y7⟩ Rv
   ·refine Ce hf (fun hc6 hc6p hf => ?_) fun hc6 hc6p hf => ?_
    ·refine Cd' (fun hc7 => ?_) fun hc7 => ?_
     ·refine Cm (km c1 y1 y2 y3 y4 y5 y6 y6b γ1 y7 w1 y8 x1) fun x7 => ?_
      refine Rx ?_; exact Re ⟨x7.1, x7.2.1, x7.2.2.1, x7.2.2.2.1, x7.2.2.2.2.1, x7.2.2.2.2.2.1, x7.2.2.2.2.2.2.1, x7.2.2.2.2.2.2.2.1, x7.2.2.2.2.2.2.2.2⟩ Rv
     ·exact Bool.noConfusion (hc7.symm.trans hc6)
    ·refine Ce hf (fun hc8 hc8p hf => ?_) fun hc8 hc8p hf => ?_
     ·refine Cm (km c1 y1 y2 y3 y4 y5 y6 y6b γ1 y7 w1 y8 x1) fun x8 => ?_
      refine Rx ?_; exact Re ⟨x8.1, x8.2.1, x8.2.2.1, x8.2.2.2.1, x8.2.2.2.2.1, x8.2.2.2.2.2.1, x8.2.2.2.2.2.2.1, x8.2.2.2.2.2.2.2.1, x8.2.2.2.2.2.2.2.2⟩ Rv
     ·refine Ce hf (fun hc9 hc9p hf => ?_) fun hc9 hc9p hf => ?_
      ·refine Cd' (fun hc10 => ?_) fun hc10 => ?_
       ·refine Cm (dE c1 y1 y2 y3 y4 y5 y6 y6b γ1 y7 w1 y8 x1 Zc Zc Zc) fun x9 => ?_
        refine Rx ?_; exact Re ⟨x9.1, x9.2.1, x9.2.2.1, x9.2.2.2.1, x9.2.2.2.2.1, x9.2.2.2.2.2.1, x9.2.2.2.2.2.2.1, x9.2.2.2.2.2.2.2.1, x9.2.2.2.2.2.2.2.2⟩ Rv
       ·exact Bool.noConfusion (hc10.symm.trans hc9)
      ·refine Ce hf (fun hc11 hc11p hf => ?_) fun hc11 hc11p hf => ?_
       ·refine Cd' (fun hc12 => ?_) fun hc12 => ?_
        ·refine Cm (dE c1 y1 y2 y3 y4 y5 y6 y6b γ1 y7 w1 y8 x1 Zc Zc Zc) fun x10 => ?_
         refine Rx ?_; exact Re ⟨x10.1, x10.2.1, x10.2.2.1, x10.2.2.2.1, x10.2.2.2.2.1, x10.2.2.2.2.2.1, x10.2.2.2.2.2.2.1, x10.2.2.2.2.2.2.2.1, x10.2.2.2.2.2.2.2.2⟩ Rv
        ·exact Bool.noConfusion (hc12.symm.trans hc11)
       ·refine Ce hf (fun hc13 hc13p hf => ?_) fun hc13 hc13p hf => ?_
        ·refine Cd' (fun hc14 => ?_) fun hc14 => ?_
         ·refine Cm (dE c1 y1 y2 y3 y4 y5 y6 y6b γ1 y7 w1 y8 x1 Zc Zc Zc) fun x11 => ?_
          refine Rx ?_; exact Re ⟨x11.1, x11.2.1, x11.2.2.1, x11.2.2.2.1, x11.2.2.2.2.1, x11.2.2.2.2.2.1, x11.2.2.2.2.2.2.1, x11.2.2.2.2.2.2.2.1, x11.2.2.2.2.2.2.2.2⟩ Rv
         ·exact Bool.noConfusion (hc14.symm.trans hc13)
        ·refine Ce hf (fun hc15 hc15p hf => ?_) fun hc15 hc15p hf => ?_
         ·refine Cd' (fun hc16 => ?_) fun hc16 => ?_
          ·refine Cm (dE c1 y1 y2 y3 y4 y5 y6 y6b γ1 y7 w1 y8 x1 Zc Zc Zc) fun x12 => ?_
           refine Rx ?_; exact Re ⟨x12.1, x12.2.1, x12.2.2.1, x12.2.2.2.1, x12.2.2.2.2.1, x12.2.2.2.2.2.1, x12.2.2.2.2.2.2.1, x12.2.2.2.2.2.2.2.1, x12.2.2.2.2.2.2.2.2⟩ Rv
          ·exact Bool.noConfusion (hc16.symm.trans hc15)
         ·refine Ce hf (fun hc17 hc17p hf => ?_) fun hc17 hc17p hf => ?_
          ·refine Cd' (fun hc18 => ?_) fun hc18 => ?_
           ·refine Cm (dE c1 y1 y2 y3 y4 y5 y6 y6b γ1 y7 w1 y8 x1 Zc Zc Zc) fun x13 => ?_
            refine Rx ?_; exact Re ⟨x13.1, x13.2.1, x13.2.2.1, x13.2.2.2.1, x13.2.2.2.2.1, x13.2.2.2.2.2.1, x13.2.2.2.2.2.2.1, x13.2.2.2.2.2.2.2.1, x13.2.2.2.2.2.2.2.2⟩ Rv
           ·exact Bool.noConfusion (hc18.symm.trans hc17)
          ·refine Ce hf (fun hc19 hc19p hf => ?_) fun hc19 hc19p hf => ?_
           ·refine Cm (dE c1 y1 y2 y3 y4 y5 y6 y6b γ1 y7 w1 y8 x1 Zc Zc Zc) fun x14 => ?_
            refine Rx ?_; exact Re ⟨x14.1, x14.2.1, x14.2.2.1, x14.2.2.2.1, x14.2.2.2.2.1, x14.2.2.2.2.2.1, x14.2.2.2.2.2.2.1, x14.2.2.2.2.2.2.2.1, x14.2.2.2.2.2.2.2.2⟩ Rv
           ·refine Rx ?_; exact Re ⟨y1, y2, y3, y4, y5, y6, y6b, γ1, y7⟩ Rv
end Go.Proofs.YtkjccbdeaflekaaGreatDoor

namespace Go.Proofs.YtkjccbdeaflekaaGreatDoor
open Go Go.Proofs.YtkjccbdeaflekaaGreatDoor.Fw Go.Proofs
def aX (l : List Rec) : Str := l.flatMap (fun r => jB r ++ [10])
theorem fx : aX [] = [] := rfl
theorem ix (r : Rec) (l : List Rec) : aX (r :: l) = jB r ++ 10 :: aX l := by simp [aX]
theorem fy (a b : List Rec) : aX (a ++ b) = aX a ++ aX b := by simp [aX]
theorem qt (l : List Rec) : l.length ≤ (aX l).length := by
 induction l with
 | nil => simp
 | cons r l ih => rw [ix]; simp only [List.length_append, List.length_cons]; omega
theorem wL (r : Rec) : (10 : UInt8) ∉ wordOf r := by
 unfold wordOf
 cases (r.kind == 1) <;> cases (r.kind == 2) <;> simp
theorem uL : ∀ (l : List Int), (10 : UInt8) ∉ glue 32 (l.map Lib.itoa)
 | [] => by simp [glue]
 | n :: l => by
  have h1 : (10 : UInt8) ∉ Lib.itoa n := uH (by decide)
  have h2 := uL l
  simp only [glue, List.map_cons, List.flatMap_cons, List.mem_append, List.mem_cons] at h2 ⊢
  intro h
  rcases h with (h | h) | h
  ·exact absurd h (by decide)
  ·exact h1 h
  ·exact h2 h
theorem pr_nl (r : Rec) : (10 : UInt8) ∉ jB r := by
 intro h
 rcases List.mem_append.1 h with h | h
 ·exact wL r h
 ·exact uL _ h
abbrev AllR (l : List Rec) : Prop := ∀ r ∈ l, aH r = 0
theorem tw {r : Rec} (hr : aH r = 0) (s0 : Str) (most : Int) (f : Nat) (t : Str) (acc : List Rec) (h : (acc.length : Int) ≠ most) :
  bD s0 most (f + 1) (jB r ++ 10 :: t) acc = bD s0 most f t (acc ++ [r]) := by
 have h1 : ((jB r ++ 10 :: t) != ([] : Str)) = true := by simp
 have h2 : ((acc.length : Int) == most) = false := by simpa using h
 rw [bD]
 simp only [h1, pY t (pr_nl r), rX hr, h2, cond_true, cond_false, Bool.not_true, bne_self_eq_false]
theorem pf (s0 : Str) (most : Int) (t : Str) : ∀ (l acc : List Rec) (f : Nat), AllR l → ((acc.length + l.length : Nat) : Int) ≤ most →
  bD s0 most (f + l.length) (aX l ++ t) acc = bD s0 most f t (acc ++ l)
 | [], acc, f, _, _ => by simp [fx]
 | r :: l, acc, f, hl, hm => by
  simp only [List.length_cons] at hm
  have e : f + (r :: l).length = (f + l.length) + 1 := by simp only [List.length_cons]; omega
  rw [e, ix, List.append_assoc, List.cons_append, tw (hl r (.head _)) s0 most _ _ _ (by omega),
   pf s0 most t l (acc ++ [r]) f (fun x hx => hl x (.tail _ hx)) (by simp only [List.length_append, List.length_cons, List.length_nil]; omega)]
  simp
theorem uC (s0 : Str) (most : Int) (f : Nat) {t : Str} (ht : (10 : UInt8) ∉ t) (acc : List Rec) :
  bD s0 most (f + 1) t acc = (acc, (s0.length : Int) - (t.length : Int), if t = [] then 0 else 8) := by
 rw [bD]
 by_cases h : t = []
 ·subst h
  simp
 ·have h1 : (t != ([] : Str)) = true := by simpa using h
  simp only [h1, rN ht, cond_true, Bool.not_false, if_neg h]
theorem sx (most : Int) {l : List Rec} (hl : AllR l) {t : Str} (ht : (10 : UInt8) ∉ t) (hm : (l.length : Int) ≤ most) :
  ax (aX l ++ t) most = (l, ((aX l).length : Int), if t = [] then 0 else 8) := by
 have hlen := qt l
 have e : (aX l ++ t).length + 1 = ((aX l).length - l.length + t.length + 1) + l.length := by simp only [List.length_append]; omega
 unfold ax
 rw [e, pf _ _ _ _ _ _ hl (by simpa using hm), uC _ _ _ ht]
 simp only [List.nil_append, List.length_append]
 congr 2
 omega
theorem oc (most : Int) {l : List Rec} (hl : AllR l) (hm : (l.length : Int) ≤ most) :
  ax (aX l) most = (l, ((aX l).length : Int), 0) := by
 have := sx most hl (t := []) (by simp) hm
 simpa using this
theorem kj {a : List Rec} {w : Str} (ha : AllR a) (hn : a.length ≤ 60) (hl : (aX a).length + w.length ≤ 60000) : cY ⟨aX a, w⟩ = 0 := by
 unfold cY
 have h : (decide (((aX a).length : Int) > 60000) || decide ((w.length : Int) > (60000 - ((aX a).length : Int)))) = false := by
  simp only [Bool.or_eq_false_iff, decide_eq_false_iff_not]; omega
 simp only [h, cond_false, oc 60 ha (by omega)]
theorem pT {a b : List Rec} {t : Str} (ha : AllR a) (hb : AllR b) (hn : a.length + b.length ≤ 60) (ht : (10 : UInt8) ∉ t) (hl : (aX a).length + (aX b ++ t).length ≤ 60000) :
  am ⟨aX a, aX b ++ t⟩ = (⟨aX (a ++ b), []⟩, a ++ b, 0) := by
 unfold am
 have h2 : (aX b ++ t).take (aX b).length = aX b := by simp
 simp only [kj ha (by omega) hl, oc 60 ha (by omega), sx (60 - (a.length : Int)) hb ht (by omega), bne_self_eq_false, cond_false, Int.toNat_natCast, h2, List.flatten_cons, List.flatten_nil, List.append_nil, fy]
theorem iP : ∀ {l : List Rec}, AllR l → (aX l).length ≤ 160 * l.length
 | [], _ => by simp [fx]
 | r :: l, h => by
  have h1 := ln (h r (.head _))
  have h2 := iP (fun x hx => h x (.tail r hx))
  rw [ix]
  simp only [List.length_append, List.length_cons]
  omega
theorem vW {a : List Rec} {q : Rec} (ha : AllR a) (hq : aH q = 0) (hn : a.length < 60) : dT ⟨aX a, []⟩ q = (⟨aX a, aX [q]⟩, 0) := by
 have h1 := iP ha
 have h2 := ln hq
 have h3 : cY ⟨aX a, []⟩ = 0 := kj ha (by omega) (by simp only [List.length_nil]; omega)
 unfold dT
 have h4 : decide ((((jB q).length : Int) + 1) > ((60000 - ((aX a).length : Int)) - (([] : List UInt8).length : Int))) = false := by
  simp only [List.length_nil, decide_eq_false_iff_not]; omega
 simp only [h3, sY, if_pos hq, bne_self_eq_false, cond_false, h4]
 simp [aX]
theorem u0 {a b : List Rec} (ha : AllR a) (hb : AllR b) (hn : a.length + b.length ≤ 60) : fb ⟨aX a, aX b⟩ = (⟨aX (a ++ b), []⟩, 0) := by
 have h1 := iP ha
 have h2 := iP hb
 have hab : AllR (a ++ b) := fun x hx => (List.mem_append.1 hx).elim (ha x) (hb x)
 have h3 : cY ⟨aX a, aX b⟩ = 0 := kj ha (by omega) (by omega)
 have h4 : cY ⟨aX (a ++ b), []⟩ = 0 := kj hab (by rw [List.length_append]; omega) (by rw [fy, List.length_append, List.length_nil]; omega)
 unfold fb
 simp only [List.flatten_cons, List.flatten_nil, List.append_nil, ← fy, h3, h4, bne_self_eq_false, cond_false]
theorem q7 {c : UInt8} : ∀ {s : Str}, (cutc c s).2.2 = true → s = (cutc c s).1 ++ c :: (cutc c s).2.1
 | [], h => by simp [cutc] at h
 | b :: r, h => by
  rw [cutc] at h ⊢
  cases hb : (b == c) with
  | true => rw [cond_true, eq_of_beq hb]; rfl
  | false =>
   rw [hb, cond_false] at h
   rw [cond_false]
   simp only [List.cons_append]
   rw [← q7 h]
theorem mc (s0 : Str) (most : Int) : ∀ (f : Nat) (s : Str) (acc : List Rec), s.length < f → (acc.length : Int) ≤ most → ∃ m t, s = aX m ++ t ∧ AllR m ∧ ((acc ++ m).length : Int) ≤ most ∧
  (bD s0 most f s acc).1 = acc ++ m ∧ (bD s0 most f s acc).2.1 = (s0.length : Int) - (t.length : Int) ∧ ((bD s0 most f s acc).2.2 = 0 → t = [])
 | 0, s, acc, hf, _ => absurd hf (Nat.not_lt_zero _)
 | f + 1, s, acc, hf, ha => by
  rw [bD]
  cases h1 : (s != ([] : Str)) with
  | false =>
   have hs : s = [] := by simpa using h1
   subst hs
   exact ⟨[], [], rfl, (fun _ h => by cases h), by simpa using ha, by simp, by simp, fun _ => rfl⟩
  | true =>
   simp only [cond_true]
   cases h2 : (!(cutc 10 s).2.2) with
   | true => simp only [cond_true]; exact ⟨[], s, by simp [fx], (fun _ h => by cases h), by simpa using ha, by simp, rfl, fun h => absurd h (by decide)⟩
   | false =>
    have h2 : (cutc 10 s).2.2 = true := by simpa using h2
    simp only [cond_false]
    cases h3 : ((bs (cutc 10 s).1).2 != 0) with
    | true => simp only [cond_true]; exact ⟨[], s, by simp [fx], (fun _ h => by cases h), by simpa using ha, by simp, rfl, fun h => by rw [h] at h3; cases h3⟩
    | false =>
     simp only [cond_false]
     cases h4 : ((acc.length : Int) == most) with
     | true => simp only [cond_true]; exact ⟨[], s, by simp [fx], (fun _ h => by cases h), by simpa using ha, by simp, rfl, fun h => absurd h (by decide)⟩
     | false =>
      have h4 := beq_eq_false_iff_ne.1 h4
      simp only [cond_false]
      have hp := vY (s := (cutc 10 s).1) (x := (bs (cutc 10 s).1).1) (Prod.ext rfl (ai h3))
      have hlt := pX 10 s h2
      obtain ⟨m, t, g1, g2, g3, g4, g5, g6⟩ := mc s0 most f (cutc 10 s).2.1 (acc ++ [(bs (cutc 10 s).1).1]) (by omega) (by simp only [List.length_append, List.length_cons, List.length_nil]; omega)
      refine ⟨(bs (cutc 10 s).1).1 :: m, t, ?_, ?_, ?_, ?_, g5, g6⟩
      ·have hj := q7 h2
       rw [ix, hp.2, List.append_assoc, List.cons_append, ← g1]
       exact hj
      ·intro x hx
       rcases List.mem_cons.1 hx with rfl | hx
       ·exact hp.1
       ·exact g2 x hx
      ·simpa using g3
      ·rw [g4]; simp
theorem pe (s : Str) {most : Int} (h : 0 ≤ most) : ∃ m t, s = aX m ++ t ∧ AllR m ∧ (m.length : Int) ≤ most ∧ (ax s most).1 = m ∧ (ax s most).2.1 = ((aX m).length : Int) ∧ ((ax s most).2.2 = 0 → t = []) := by
 obtain ⟨m, t, g1, g2, g3, g4, g5, g6⟩ := mc s most (s.length + 1) s [] (by omega) (by simpa using h)
 refine ⟨m, t, g1, g2, by simpa using g3, (by rw [List.nil_append] at g4; exact g4), ?_, g6⟩
 have : (ax s most).2.1 = (s.length : Int) - (t.length : Int) := g5
 rw [this, g1, List.length_append]; omega
theorem oT {d : Disk} (h : cY d = 0) : ∃ l, AllR l ∧ l.length ≤ 60 ∧ d.safe = aX l := by
 unfold cY at h
 cases h1 : (decide ((d.safe.length : Int) > 60000) || decide ((d.wait.length : Int) > (60000 - (d.safe.length : Int)))) with
 | true => rw [h1] at h; cases h
 | false =>
  rw [h1, cond_false] at h
  obtain ⟨m, t, g1, g2, g3, g4, g5, g6⟩ := pe d.safe (most := 60) (by decide)
  refine ⟨m, g2, by omega, ?_⟩
  rw [g1, g6 h, List.append_nil]
theorem rV {d : Disk} (h : (am d).2.2 = 0) : ∃ l, AllR l ∧ l.length ≤ 60 ∧ am d = (⟨aX l, []⟩, l, 0) ∧ (d.wait = [] → d = ⟨aX l, []⟩) := by
 unfold am at h ⊢
 cases h1 : (cY d != 0) with
 | true => rw [h1, cond_true] at h; simp only at h; rw [h] at h1; cases h1
 | false =>
  obtain ⟨l, a1, a2, a3⟩ := oT (ai h1)
  have e1 : ax d.safe 60 = (l, ((aX l).length : Int), 0) := by rw [a3]; exact oc 60 a1 (by omega)
  obtain ⟨m, t, g1, g2, g3, g4, g5, g6⟩ := pe d.wait (most := 60 - (l.length : Int)) (by omega)
  have hall : AllR (l ++ m) := fun x hx => (List.mem_append.1 hx).elim (a1 x) (g2 x)
  refine ⟨l ++ m, hall, by rw [List.length_append]; omega, ?_, fun hw => ?_⟩
  ·simp only [cond_false, e1, g4, g5, Int.toNat_natCast]
   have e2 : d.wait.take (aX m).length = aX m := by rw [g1, List.take_left]
   rw [e2, a3, fy]
   simp
  ·have hm : aX m = [] := by
    have := congrArg List.length g1
    rw [hw] at this
    simp only [List.length_nil, List.length_append] at this
    exact List.eq_nil_of_length_eq_zero (by omega)
   obtain ⟨s, w⟩ := d
   simp only at a3 hw
   rw [a3, hw, fy, hm, List.append_nil]
theorem mW {l : List Rec} (ha : AllR l) (hn : l.length ≤ 60) : am ⟨aX l, []⟩ = (⟨aX l, []⟩, l, 0) := by
 have := pT (a := l) (b := []) (t := []) ha (fun _ h => by cases h) (by simpa using hn) (by simp) (by have := iP ha; simp only [fx, List.nil_append, List.length_nil]; omega)
 simpa [fx] using this
theorem wn (f : Peer → Peer → Bool) (hf : ∀ a b, f a b = true → a = b) (s2 : List Peer) : ∀ (l : List Peer) (k : Nat), l.length + k = s2.length → bw s2 f l k = true → l = s2.drop k
 | [], k, h, _ => by
  simp only [List.length_nil, Nat.zero_add] at h
  rw [h, List.drop_length]
 | r :: l, k, h, h0 => by
  simp only [List.length_cons] at h
  rw [bw] at h0
  cases h1 : (!(f r (gt s2 k))) with
  | true => rw [h1] at h0; cases h0
  | false =>
   rw [h1, cond_false] at h0
   have h1 : f r (gt s2 k) = true := by simpa using h1
   rw [bd (by omega : k < s2.length), ← hf _ _ h1, ← wn f hf s2 l (k + 1) (by omega) h0]
theorem rC {a b : Hub} (h : gA a b = true) : a = b := by
 unfold gA c7 at h
 cases h1 : ((a.peers.length : Int) != (b.peers.length : Int)) with
 | true => rw [h1] at h; simp at h
 | false =>
  rw [h1, cond_false] at h
  simp only [Bool.and_eq_true, beq_iff_eq] at h
  obtain ⟨⟨h2, h3⟩, h4⟩ := h
  have h5 := wn fK (fun x y hxy => by
   obtain ⟨x1, x2, x3⟩ := x; obtain ⟨y1, y2, y3⟩ := y
   simp only [fK, Bool.and_eq_true, beq_iff_eq, decide_eq_true_eq] at hxy
   obtain ⟨⟨rfl, rfl⟩, rfl⟩ := hxy; rfl) b.peers a.peers 0 (by simp only [bne_eq_false_iff_eq] at h1; omega) h4
  obtain ⟨a1, a2, a3⟩ := a; obtain ⟨b1, b2, b3⟩ := b
  simp only [List.drop_zero] at h2 h3 h5
  rw [(mm _ _).1 h2, h3, h5]
theorem go (w : Wld) : ∀ (l : List Client) (k : Nat), l = w.c.drop k → (cx l k = 0 ↔ ∀ i, k ≤ i → i < w.c.length → bm (gt w.c i) (i : Int) = 0)
 | [], k, h => by
  have : w.c.length ≤ k := by have := congrArg List.length h; simp at this; omega
  exact ⟨fun _ i h1 h2 => by omega, fun _ => rfl⟩
 | c :: l, k, h => by
  have hk : k < w.c.length := by
   rcases Nat.lt_or_ge k w.c.length with h' | h'
   ·exact h'
   ·rw [List.drop_of_length_le h'] at h; cases h
  rw [bd hk] at h
  obtain ⟨rfl, h'⟩ := List.cons.inj h
  rw [cx]
  cases h1 : (bm (gt w.c k) (k : Int) != 0) with
  | true =>
   rw [cond_true]
   refine ⟨fun h2 => (by rw [h2] at h1; cases h1), fun h2 => h2 k (Nat.le_refl _) hk⟩
  | false =>
   rw [cond_false, go w l (k + 1) h']
   constructor
   ·intro h2 i hi hl
    by_cases hik : i = k
    ·rw [hik]; exact ai h1
    ·exact h2 i (by omega) hl
   ·intro h2 i hi hl
    exact h2 i (by omega) hl
structure IsW (w : Wld) (l : List Rec) : Prop where
 three : w.c.length = 3
 mail : bJ w.mail = 0
 all : AllR l
 sixty : l.length ≤ 60
 recd : am w.d = (⟨aX l, []⟩, l, 0)
 up : w.up = true → w.d = ⟨aX l, []⟩ ∧ aq l = (w.h, 0)
 down : w.up = false → w.h = bH
 cli : ∀ k, k < 3 → bm (gt w.c k) (k : Int) = 0
theorem pm : aq [] = (bH, 0) := rfl
theorem cj (w : Wld) : aR w = 0 ↔ ∃ l, IsW w l := by
 constructor
 ·intro h
  unfold aR at h
  rw [fk (by decide)] at h
  obtain ⟨h1, h⟩ := h
  have h1 : w.c.length = 3 := by simp only [bne_eq_false_iff_eq] at h1; omega
  cases h2 : (bJ w.mail != 0) with
  | true => rw [h2, cond_true] at h; rw [h] at h2; cases h2
  | false =>
  rw [h2, cond_false] at h
  cases h3 : ((am w.d).2.2 != 0) with
  | true => rw [h3, cond_true] at h; rw [h] at h3; cases h3
  | false =>
  rw [h3, cond_false, fk (by decide)] at h
  obtain ⟨h4, h⟩ := h
  obtain ⟨l, a1, a2, a3, a4⟩ := rV (ai h3)
  have key : ∀ r, (bif ((aq r).2 != 0) then (aq r).2 else (bif (!(gA (aq r).1 w.h)) then 4 else cx w.c 0)) = 0 → aq r = (w.h, 0) ∧ ∀ k, k < 3 → bm (gt w.c k) (k : Int) = 0 := by
   intro r hr
   cases h5 : ((aq r).2 != 0) with
   | true => rw [h5, cond_true] at hr; rw [hr] at h5; cases h5
   | false =>
    rw [h5, cond_false, fk (by decide)] at hr
    obtain ⟨h6, h7⟩ := hr
    refine ⟨Prod.ext (rC (by simpa using h6)) (ai h5), fun k hk => ?_⟩
    exact (go w w.c 0 rfl).1 h7 k (Nat.zero_le _) (by omega)
  refine ⟨l, ?_⟩
  rw [a3] at h
  cases hu : w.up with
  | false =>
   rw [hu] at h
   obtain ⟨b1, b2⟩ := key [] h
   rw [pm] at b1
   exact ⟨h1, ai h2, a1, a2, a3, fun hu2 => (by rw [hu] at hu2; cases hu2), fun _ => (congrArg Prod.fst b1).symm, b2⟩
  | true =>
   rw [hu] at h h4
   obtain ⟨b1, b2⟩ := key l h
   have hw : w.d.wait = [] := List.eq_nil_of_length_eq_zero (by simpa using h4)
   exact ⟨h1, ai h2, a1, a2, a3, fun _ => ⟨a4 hw, b1⟩, fun hu2 => (by rw [hu] at hu2; cases hu2), b2⟩
 ·rintro ⟨l, h⟩
  unfold aR
  have e1 : ((w.c.length : Int) != 3) = false := by rw [h.three]; rfl
  have e2 : (bJ w.mail != 0) = false := by rw [h.mail]; rfl
  have e3 : ((am w.d).2.2 != 0) = false := by rw [h.recd]; rfl
  have e4 : cx w.c 0 = 0 := (go w w.c 0 rfl).2 fun i _ hi => h.cli i (by rw [h.three] at hi; exact hi)
  rw [e1, e2, e3, cond_false, cond_false, cond_false, h.recd]
  cases hu : w.up with
  | false =>
   have e5 : gA (aq []).1 w.h = true := by rw [pm, h.down hu]; exact mh _
   simp only [Bool.false_and, cond_false, Bool.not_false, cond_true, e5, e4, Bool.not_true]
   rfl
  | true =>
   obtain ⟨f1, f2⟩ := h.up hu
   have e5 : w.d.wait = [] := by rw [f1]
   simp only [e5, f2, mh, e4]
   rfl
theorem IsW.hub {w : Wld} {l : List Rec} (h : IsW w l) : IsHub w.h ∧ (w.up = true → w.h.version = (l.length : Int)) := by
 cases hu : w.up with
 | false => rw [h.down hu]; exact ⟨lu, fun h => by cases h⟩
 | true =>
  have h1 := (h.up hu).2
  have h2 := lz (l := l) (by rw [h1])
  rw [h1] at h2
  exact ⟨h2.1, fun _ => h2.2.1⟩
theorem iG {w : Wld} (h : aR w = 0) : c8 w.h = 0 ∧ w.c.length = 3 ∧ (w.up = true → w.h.version ≤ ((am w.d).2.1.length : Int)) := by
 obtain ⟨l, h⟩ := (cj w).1 h
 have h1 := h.hub
 refine ⟨(eU _).2 h1.1, h.three, fun hu => ?_⟩
 rw [h1.2 hu, h.recd]; exact Int.le_refl _
theorem lL : ∀ (l : List Rec) (r : Rec) (h g : Hub), bj l h.h.l h.h.t h.version h.peers = (g, 0) → (aB g r).2 = 0 →
  bj (l ++ [r]) h.h.l h.h.t h.version h.peers = ((aB g r).1, 0)
 | [], r, h, g, h0, h1 => by
  rw [bj] at h0
  have he : (⟨⟨h.h.l, h.h.t⟩, h.version, h.peers⟩ : Hub) = h := rfl
  have hg : h = g := congrArg Prod.fst h0
  subst hg
  rw [List.nil_append, bj]
  simp only [he, h1, bne_self_eq_false, cond_false, bj]
 | q :: l, r, h, g, h0, h1 => by
  rw [bj] at h0
  rw [List.cons_append, bj]
  have he : (⟨⟨h.h.l, h.h.t⟩, h.version, h.peers⟩ : Hub) = h := rfl
  simp only [he] at h0 ⊢
  cases h2 : ((aB h q).2 != 0) with
  | true =>
   rw [h2, cond_true] at h0
   have h3 : (aB h q).2 = 0 := congrArg Prod.snd h0
   rw [h3] at h2; cases h2
  | false =>
   rw [h2, cond_false] at h0
   rw [cond_false]
   exact lL l r (aB h q).1 g h0 h1
theorem iZ {l : List Rec} {r : Rec} {g : Hub} (h0 : aq l = (g, 0)) (h1 : (aB g r).2 = 0) (hn : l.length < 60) : aq (l ++ [r]) = ((aB g r).1, 0) := by
 have hr := oD (l := l) (by rw [h0])
 have e1 : aq l = bj l bH.h.l bH.h.t bH.version bH.peers := hr.2.2
 unfold aq
 have : decide (((l ++ [r]).length : Int) > 60) = false := by simp only [List.length_append, List.length_cons, List.length_nil, decide_eq_false_iff_not]; omega
 rw [this, cond_false]
 exact lL l r bH g (e1.symm.trans h0) h1
theorem ny {h : Hub} {r : Rec} (h0 : (aB h r).2 = 0) : h.version ≠ 60 := by
 intro hv
 have hn := lq h0
 unfold aB at h0
 have e1 : (aH r != 0) = false := by rw [hn]; rfl
 have e2 : (h.version == 60) = true := by rw [hv]; rfl
 rw [e1, cond_false, e2, cond_true] at h0
 cases h0
theorem pp {w : Wld} {l : List Rec} (h : IsW w l) (hu : w.up = true) (r : Rec) : bf w r = if (aB w.h r).2 = 0 then (0, ⟨(aB w.h r).1, ⟨aX (l ++ [r]), []⟩, w.up, w.c, w.mail⟩) else ((aB w.h r).2, w) := by
 obtain ⟨f1, f2⟩ := h.up hu
 have hh := h.hub
 unfold bf
 rw [xr hh.1]
 by_cases h0 : (aB w.h r).2 = 0
 ·have hv := ny h0
  have hv2 := hh.2 hu
  have hs := h.sixty
  have hq := lq h0
  have hq1 : AllR [r] := fun x hx => by rw [List.mem_singleton] at hx; subst hx; exact hq
  rw [if_pos h0, f1, vW h.all hq (by omega)]
  simp only [h0, u0 h.all hq1 (by simp only [List.length_cons, List.length_nil]; omega), bne_self_eq_false, cond_false]
 ·rw [if_neg h0]
  have : ((aB w.h r).2 != 0) = true := by simpa using h0
  rw [this, cond_true]
theorem rk {w : Wld} {l : List Rec} (h : IsW w l) (hu : w.up = true) {r : Rec} (h0 : (aB w.h r).2 = 0) : IsW ⟨(aB w.h r).1, ⟨aX (l ++ [r]), []⟩, w.up, w.c, w.mail⟩ (l ++ [r]) := by
 obtain ⟨f1, f2⟩ := h.up hu
 have hh := h.hub
 have hv := ny h0
 have hv2 := hh.2 hu
 have hs := h.sixty
 have hq := lq h0
 have hall : AllR (l ++ [r]) := fun x hx => (List.mem_append.1 hx).elim (h.all x) fun hx => by rw [List.mem_singleton] at hx; subst hx; exact hq
 have hl : (l ++ [r]).length ≤ 60 := by simp only [List.length_append, List.length_cons, List.length_nil]; omega
 exact ⟨h.three, h.mail, hall, hl, mW hall hl, fun _ => ⟨rfl, iZ f2 h0 (by omega)⟩, fun hd => (by simp only at hd; rw [hu] at hd; cases hd), h.cli⟩
theorem xq (l : List Mail) (m : Mail) : fH l m = bif bJ l != 0 then ([], bJ l) else bif bI m != 0 then ([], bI m) else bif decide ((l.length : Int) < 30) then (l ++ [m], 0) else (l, 0) := by
 unfold fH fG gq gp
 rw [l5]
def posted (l : List Mail) (m : Mail) : List Mail := if bI m = 0 ∧ l.length < 30 then l ++ [m] else l
theorem pL {w : Wld} {l : List Rec} (h : IsW w l) (m : Mail) : cU w m = ⟨w.h, w.d, w.up, w.c, posted w.mail m⟩ := by
 unfold cU posted
 rw [xq, h.mail, bne_self_eq_false, cond_false]
 by_cases h1 : bI m = 0
 ·rw [h1, bne_self_eq_false, cond_false]
  by_cases h2 : w.mail.length < 30
  ·have : decide ((w.mail.length : Int) < 30) = true := by simp only [decide_eq_true_eq]; omega
   rw [this, if_pos ⟨rfl, h2⟩]; rfl
  ·have : decide ((w.mail.length : Int) < 30) = false := by simp only [decide_eq_false_iff_not]; omega
   rw [this, if_neg (fun h => h2 h.2)]; rfl
 ·have : (bI m != 0) = true := by simpa using h1
  rw [this, cond_true, if_neg (fun h => h1 h.1)]
  have : (bI m == 0) = false := by simpa using h1
  simp only [this, cond_false]
theorem nW {l : List Mail} (h : bJ l = 0) (m : Mail) : bJ (posted l m) = 0 := by
 unfold posted
 split
 ·rename_i h1
  obtain ⟨h2, h3⟩ := (cL l).1 h
  refine (cL _).2 ⟨by simp only [List.length_append, List.length_cons, List.length_nil]; omega, fun x hx => ?_⟩
  rcases List.mem_append.1 hx with hx | hx
  ·exact h3 x hx
  ·rw [List.mem_singleton] at hx; subst hx; exact h1.1
 ·exact h
theorem IsW.withMail {w : Wld} {l : List Rec} (h : IsW w l) {q : List Mail} (hq : bJ q = 0) : IsW ⟨w.h, w.d, w.up, w.c, q⟩ l :=
 ⟨h.three, hq, h.all, h.sixty, h.recd, h.up, h.down, h.cli⟩
theorem IsW.withCli {w : Wld} {l : List Rec} (h : IsW w l) {k : Nat} {c : Client} (hk : k < 3) (hc : bm c (k : Int) = 0) : IsW ⟨w.h, w.d, w.up, w.c.set k c, w.mail⟩ l :=
 ⟨by simp only [List.length_set]; exact h.three, h.mail, h.all, h.sixty, h.recd, h.up, h.down, fun j hj => by
  by_cases hjk : j = k
  ·subst hjk
   have : gt (w.c.set j c) j = c := by simp [gt, List.getD_eq_getElem?_getD, h.three, hj]
   simp only [this]; exact hc
  ·have : gt (w.c.set k c) j = gt w.c j := by simp [gt, List.getD_eq_getElem?_getD, List.getElem?_set_ne (Ne.symm hjk)]
   simp only [this]; exact h.cli j hj⟩
theorem xp {l : List Mail} {k : Int} {t : Bool} (h0 : (az l k t).2.2 = 0) : bJ (az l k t).1 = 0 := by
 obtain ⟨h1, h2, h3, h4⟩ := jP h0
 obtain ⟨h5, h6⟩ := (cL l).1 h1
 rw [h4]
 cases t with
 | true => exact h1
 | false =>
  refine (cL _).2 ⟨?_, fun x hx => ?_⟩
  ·simp only [cond_false, List.length_append, List.length_take, List.length_drop]; omega
  ·rcases List.mem_append.1 hx with hx | hx
   ·exact h6 x (List.mem_of_mem_take hx)
   ·exact h6 x (List.mem_of_mem_drop hx)
theorem v6 {c : Client} {me : Int} {m : Mail} (h : (aC c me m).2 = 0) : bm (aC c me m).1 me = 0 := by
 obtain ⟨hc, hs, _, _, h1⟩ := mD h
 rcases h1 with h1 | ⟨v, hv, hst, h1⟩
 ·rw [h1]; exact (bA _ _).2 hc
 ·rw [h1]; exact (bA _ _).2 (qP hc hs hst hv).1
theorem li {life time : Int} {k : Nat} (hk : k < 3) (h : (ca life time).2 = 0) : bm (ca life time).1 (k : Int) = 0 ∧ (ca life time).1 = ⟨life, time, 0, [], 0, ⟨[], [], []⟩⟩ := by
 unfold ca at h ⊢
 cases h1 : (((decide (life < 1) || decide (life > 50)) || decide (time < 0)) || decide (time > 10000)) with
 | true => rw [h1] at h; cases h
 | false =>
  simp only [Bool.or_eq_false_iff, decide_eq_false_iff_not] at h1
  rw [cond_false]
  refine ⟨(bA _ _).2 ⟨by omega, by simp only; omega, by simp, (cy (⟨[], [], []⟩ : View)).1 (by decide), fun h => by simp only at h; omega, fun _ => rfl, by simp, fun i hi => by simp at hi⟩, rfl⟩
abbrev opRec (o : Op) : Rec := ⟨1, 0, 0, [], o⟩
abbrev fD (w : Wld) (who : Int) : Rec := ⟨2, who, (gt w.h.peers who.toNat).life + 1, [], ⟨0, 0, 0, 0, 0, 0, 0⟩⟩
abbrev f7 (who : Int) (roots : List Int) : Rec := ⟨3, who, 0, roots, ⟨0, 0, 0, 0, 0, 0, 0⟩⟩
abbrev fA (who : Int) (o : Op) : Mail := ⟨1, who, 0, 0, 0, 0, 0, o, ⟨[], [], []⟩, ⟨[], [], [], []⟩⟩
def kV (l : List Mail) (x : Happening) : List Mail := bif x.kind == 8 then l else l.take x.n.toNat ++ l.drop (x.n + 1).toNat
structure Shown (w : Wld) (l : List Rec) (x : Happening) (m : Mail) : Prop where
 sees : (aV w.h x.who).2 = 0
 life : (gt w.h.peers x.who.toNat).life ≠ 0
 case : m = ⟨2, x.who, (gt w.h.peers x.who.toNat).life, (gt w.h.peers x.who.toNat).seq, cZ w.h, w.h.version, 0, ⟨0, 0, 0, 0, 0, 0, 0⟩, (aV w.h x.who).1, ⟨[], [], [], []⟩⟩ ∨
  (0 ≤ x.n ∧ x.n < w.h.version ∧ ∃ g : Hub, aq (l.take x.n.toNat) = (g, 0) ∧ (gt g.peers x.who.toNat).life = (gt w.h.peers x.who.toNat).life ∧ (gt g.peers x.who.toNat).roots = (gt w.h.peers x.who.toNat).roots ∧ (aV g x.who).2 = 0 ∧
   (du (aV g x.who).1 (aV w.h x.who).1).2 = 0 ∧
   m = ⟨3, x.who, (gt w.h.peers x.who.toNat).life, (gt w.h.peers x.who.toNat).seq, cZ w.h, w.h.version, x.n, ⟨0, 0, 0, 0, 0, 0, 0⟩, ⟨[], [], []⟩, (du (aV g x.who).1 (aV w.h x.who).1).1⟩)
inductive Hap (w : Wld) (l : List Rec) (x : Happening) : Wld → List Rec → Prop
 | hear (hx : x.kind = 7 ∨ x.kind = 8) (hn : 0 ≤ x.n ∧ x.n < (w.mail.length : Int)) (m : Mail) (hm : m = gt w.mail x.n.toNat) (hk : m.kind ≠ 1) (hh : (aC (gt w.c m.who.toNat) m.who m).2 = 0) :
   Hap w l x ⟨w.h, w.d, w.up, w.c.set m.who.toNat (aC (gt w.c m.who.toNat) m.who m).1, kV w.mail x⟩ l
 | got (hx : x.kind = 7 ∨ x.kind = 8) (hn : 0 ≤ x.n ∧ x.n < (w.mail.length : Int)) (m : Mail) (hm : m = gt w.mail x.n.toNat) (hk : m.kind = 1) (hu : w.up = true) (h0 : (aB w.h (opRec m.o)).2 = 0) :
   Hap w l x ⟨(aB w.h (opRec m.o)).1, ⟨aX (l ++ [opRec m.o]), []⟩, w.up, w.c, kV w.mail x⟩ (l ++ [opRec m.o])
 | late (hx : x.kind = 7 ∨ x.kind = 8) (hn : 0 ≤ x.n ∧ x.n < (w.mail.length : Int)) (m : Mail) (hm : m = gt w.mail x.n.toNat) (hk : m.kind = 1) (hu : w.up = true) (h0 : (aB w.h (opRec m.o)).2 ≠ 0) :
   Hap w l x ⟨w.h, w.d, w.up, w.c, kV w.mail x⟩ l
 | lose (hx : x.kind = 9) (hn : 0 ≤ x.n ∧ x.n < (w.mail.length : Int)) : Hap w l x ⟨w.h, w.d, w.up, w.c, w.mail.take x.n.toNat ++ w.mail.drop (x.n + 1).toNat⟩ l
 | crash (hx : x.kind = 10) (hu : w.up = true) : Hap w l x ⟨bH, w.d, false, w.c, w.mail⟩ l
 | boot (hx : x.kind = 11) (hu : w.up = false) (h0 : (aq l).2 = 0) : Hap w l x ⟨(aq l).1, ⟨aX l, []⟩, true, w.c, w.mail⟩ l
 | move (hx : x.kind = 1) (hw : 0 ≤ x.who ∧ x.who < 3) (h0 : (cd (gt w.c x.who.toNat) x.who x.node x.parent x.name).2.2 = 0) :
   Hap w l x ⟨w.h, w.d, w.up, w.c.set x.who.toNat (cd (gt w.c x.who.toNat) x.who x.node x.parent x.name).1, posted w.mail (fA x.who (cd (gt w.c x.who.toNat) x.who x.node x.parent x.name).2.1)⟩ l
 | again (hx : x.kind = 2) (hw : 0 ≤ x.who ∧ x.who < 3) (hn : 0 ≤ x.n ∧ x.n < ((gt w.c x.who.toNat).pending.length : Int)) :
   Hap w l x ⟨w.h, w.d, w.up, w.c, posted w.mail (fA x.who (gt (gt w.c x.who.toNat).pending x.n.toNat))⟩ l
 | began (hx : x.kind = 6) (hw : 0 ≤ x.who ∧ x.who < 3) (hu : w.up = true) (h0 : (aB w.h (fD w x.who)).2 = 0) (h1 : (ca ((gt w.h.peers x.who.toNat).life + 1) (cZ (aB w.h (fD w x.who)).1)).2 = 0) :
   Hap w l x ⟨(aB w.h (fD w x.who)).1, ⟨aX (l ++ [fD w x.who]), []⟩, w.up, w.c.set x.who.toNat (ca ((gt w.h.peers x.who.toNat).life + 1) (cZ (aB w.h (fD w x.who)).1)).1, w.mail⟩ (l ++ [fD w x.who])
 | roots (hx : x.kind = 5) (hw : 0 ≤ x.who ∧ x.who < 3) (hu : w.up = true) (h0 : (aB w.h (f7 x.who x.roots)).2 = 0) :
   Hap w l x ⟨(aB w.h (f7 x.who x.roots)).1, ⟨aX (l ++ [f7 x.who x.roots]), []⟩, w.up, w.c, w.mail⟩ (l ++ [f7 x.who x.roots])
 | shown (hx : x.kind = 3 ∨ x.kind = 4) (hw : 0 ≤ x.who ∧ x.who < 3) (hu : w.up = true) (m : Mail) (hm : Shown w l x m) : Hap w l x ⟨w.h, w.d, w.up, w.c, posted w.mail m⟩ l
theorem Hap.keeps {w w' : Wld} {l l' : List Rec} {x : Happening} (h : IsW w l) (hp : Hap w l x w' l') : IsW w' l' := by
 have hleft : ∀ (_ : x.kind = 7 ∨ x.kind = 8) (_ : 0 ≤ x.n ∧ x.n < (w.mail.length : Int)), bJ (kV w.mail x) = 0 := fun _ hn => by
  obtain ⟨h5, h6⟩ := (cL _).1 h.mail
  unfold kV
  cases (x.kind == 8) with
  | true => exact h.mail
  | false =>
   refine (cL _).2 ⟨?_, fun y hy => ?_⟩
   ·simp only [cond_false, List.length_append, List.length_take, List.length_drop]; omega
   ·rcases List.mem_append.1 hy with hy | hy
    ·exact h6 y (List.mem_of_mem_take hy)
    ·exact h6 y (List.mem_of_mem_drop hy)
 cases hp with
 | hear hx hn m hm hk hh =>
  have hw : 0 ≤ m.who ∧ m.who < 3 := by rw [hm]; exact em (((cL _).1 h.mail).2 _ (eM (by omega)))
  refine (h.withCli (k := m.who.toNat) (by omega) ?_).withMail (hleft hx hn)
  rw [Int.toNat_of_nonneg hw.1]; exact v6 hh
 | got hx hn m hm hk hu h0 => exact rk (h.withMail (hleft hx hn)) hu h0
 | late hx hn m hm hk hu h0 => exact h.withMail (hleft hx hn)
 | lose hx hn =>
  obtain ⟨h5, h6⟩ := (cL _).1 h.mail
  refine h.withMail ((cL _).2 ⟨?_, fun y hy => ?_⟩)
  ·simp only [List.length_append, List.length_take, List.length_drop]; omega
  ·rcases List.mem_append.1 hy with hy | hy
   ·exact h6 y (List.mem_of_mem_take hy)
   ·exact h6 y (List.mem_of_mem_drop hy)
 | crash hx hu => exact ⟨h.three, h.mail, h.all, h.sixty, h.recd, fun hu => (by cases hu), fun _ => rfl, h.cli⟩
 | boot hx hu h0 => exact ⟨h.three, h.mail, h.all, h.sixty, mW h.all h.sixty, fun _ => ⟨rfl, Prod.ext rfl h0⟩, fun hu => (by cases hu), h.cli⟩
 | move hx hw h0 =>
  obtain ⟨a1, a2, a3, a4, a5, a6, a7⟩ := lA h0
  refine (h.withCli (k := x.who.toNat) (by omega) ?_).withMail (nW h.mail _)
  rw [a7, Int.toNat_of_nonneg hw.1]
  exact (bA _ _).2 (qJ a1 a2 a3 a4 a5 a6)
 | again hx hw hn => exact h.withMail (nW h.mail _)
 | began hx hw hu h0 h1 => exact (rk h hu h0).withCli (k := x.who.toNat) (by omega) (li (by omega) h1).1
 | roots hx hw hu h0 => exact rk h hu h0
 | shown hx hw hu m hm => exact h.withMail (nW h.mail m)
theorem sA {w : Wld} {l : List Rec} {x : Happening} (h : IsW w l) (hx : x.kind = 7 ∨ x.kind = 8) (h0 : (bE w x).1 = 0) : ∃ l', Hap w l x (bE w x).2 l' := by
 unfold bE at h0 ⊢
 cases h1 : ((az w.mail x.n (x.kind == 8)).2.2 != 0) with
 | true => rw [h1, cond_true] at h0; simp only at h0; rw [h0] at h1; cases h1
 | false =>
 obtain ⟨_, t2, t3, t4⟩ := jP (ai h1)
 rw [h1, cond_false] at h0
 rw [cond_false]
 rw [t4] at h0 ⊢
 cases h2 : ((gt w.mail x.n.toNat).kind != 1) with
 | true =>
  simp only [h2, cond_true] at h0 ⊢
  cases h3 : ((aC (gt w.c (gt w.mail x.n.toNat).who.toNat) (gt w.mail x.n.toNat).who (gt w.mail x.n.toNat)).2 == 0) with
  | false => rw [h3, cond_false] at h0; simp only at h0; rw [h0] at h3; cases h3
  | true => exact ⟨l, .hear hx ⟨t2, t3⟩ _ rfl (bne_iff_ne.1 h2) (eq_of_beq h3)⟩
 | false =>
  simp only [h2, cond_false] at h0 ⊢
  cases hu : w.up with
  | false => rw [hu] at h0; cases h0
  | true =>
   simp only [Bool.not_true, cond_false]
   have hT : bJ (bif x.kind == 8 then w.mail else w.mail.take x.n.toNat ++ w.mail.drop (x.n + 1).toNat) = 0 := by
    have := xp (ai h1); rwa [t4] at this
   have hw := h.withMail hT
   rw [hu] at hw
   rw [pp hw rfl]
   by_cases hn : (aB w.h (opRec (gt w.mail x.n.toNat).o)).2 = 0
   ·rw [if_pos hn]
    have := Hap.got (l := l) hx ⟨t2, t3⟩ _ rfl (ai h2) hu hn
    rw [hu] at this
    exact ⟨_, this⟩
   ·rw [if_neg hn]
    have := Hap.late (l := l) hx ⟨t2, t3⟩ _ rfl (ai h2) hu hn
    rw [hu] at this
    exact ⟨_, this⟩
theorem qC {w : Wld} {l : List Rec} {x : Happening} (h : IsW w l) (hk : x.kind = 10 ∨ x.kind = 11) (h0 : (bS w x).1 = 0) : Hap w l x (bS w x).2 l := by
 unfold bS at h0 ⊢
 cases h1 : (w.up == (x.kind == 11)) with
 | true => rw [h1] at h0; cases h0
 | false =>
 rw [h1, cond_false] at h0
 rw [cond_false]
 rcases hk with hk | hk
 ·have e1 : (x.kind == 10) = true := by rw [hk]; rfl
  have e2 : (x.kind == 11) = false := by rw [hk]; rfl
  rw [e1, cond_true]
  refine .crash hk ?_
  rw [e2] at h1
  cases hu : w.up with
  | true => rfl
  | false => rw [hu] at h1; cases h1
 ·have e1 : (x.kind == 10) = false := by rw [hk]; rfl
  have e2 : (x.kind == 11) = true := by rw [hk]; rfl
  rw [e1, cond_false] at h0 ⊢
  simp only [h.recd, bne_self_eq_false, cond_false] at h0 ⊢
  cases h3 : ((aq l).2 == 0) with
  | false => rw [h3, cond_false] at h0; simp only at h0; rw [h0] at h3; cases h3
  | true =>
   refine .boot hk ?_ (eq_of_beq h3)
   rw [e2] at h1
   cases hu : w.up with
   | false => rfl
   | true => rw [hu] at h1; cases h1
theorem vv {w : Wld} {l : List Rec} {x : Happening} (h : IsW w l) (hx : x.kind = 3 ∨ x.kind = 4) (hw : 0 ≤ x.who ∧ x.who < 3) (hu : w.up = true) (h0 : (dk w x).1 = 0) : Hap w l x (dk w x).2 l := by
 unfold dk at h0 ⊢
 cases h1 : ((aV w.h x.who).2 != 0) with
 | true => rw [h1, cond_true] at h0; simp only at h0; rw [h0] at h1; cases h1
 | false =>
 rw [h1, cond_false] at h0
 rw [cond_false]
 cases h2 : ((gt w.h.peers x.who.toNat).life == 0) with
 | true => rw [h2] at h0; cases h0
 | false =>
 rw [h2, cond_false] at h0
 rw [cond_false]
 have hl := beq_eq_false_iff_ne.1 h2
 cases h3 : (x.kind == 4) with
 | false =>
  rw [cond_false]
  simp only
  rw [pL h]
  exact .shown hx hw hu _ ⟨ai h1, hl, .inl rfl⟩
 | true =>
  rw [h3, cond_true] at h0
  rw [cond_true]
  cases h4 : (decide (x.n < 0) || decide (x.n ≥ w.h.version)) with
  | true => rw [h4] at h0; cases h0
  | false =>
  rw [h4, cond_false] at h0
  rw [cond_false]
  simp only [Bool.or_eq_false_iff, decide_eq_false_iff_not] at h4
  simp only [h.recd, bne_self_eq_false, cond_false] at h0 ⊢
  cases h5 : ((aq (l.take x.n.toNat)).2 != 0) with
  | true => rw [h5, cond_true] at h0; simp only at h0; rw [h0] at h5; cases h5
  | false =>
  rw [h5, cond_false] at h0
  rw [cond_false]
  have h5 := ai h5
  generalize hG : aq (l.take x.n.toNat) = G at *
  obtain ⟨g, e⟩ := G
  simp only at h5
  subst h5
  simp only at h0 ⊢
  cases h6 : (((gt g.peers x.who.toNat).life != (gt w.h.peers x.who.toNat).life) || (!(decide ((gt g.peers x.who.toNat).roots = (gt w.h.peers x.who.toNat).roots)))) with
  | true => rw [h6] at h0; cases h0
  | false =>
  rw [h6, cond_false] at h0
  rw [cond_false]
  simp only [Bool.or_eq_false_iff, bne_eq_false_iff_eq, Bool.not_eq_false', decide_eq_true_eq] at h6
  cases h7 : ((aV g x.who).2 != 0) with
  | true => rw [h7, cond_true] at h0; simp only at h0; rw [h0] at h7; cases h7
  | false =>
  rw [h7, cond_false] at h0
  rw [cond_false]
  cases h8 : ((du (aV g x.who).1 (aV w.h x.who).1).2 != 0) with
  | true => rw [h8, cond_true] at h0; simp only at h0; rw [h0] at h8; cases h8
  | false =>
  rw [cond_false]
  simp only
  rw [pL h]
  exact .shown hx hw hu _ ⟨ai h1, hl, .inr ⟨by omega, by omega, g, hG, h6.1, h6.2, ai h7, ai h8, rfl⟩⟩
theorem qI {w : Wld} {l : List Rec} {x : Happening} (h : IsW w l) (hx : 1 ≤ x.kind ∧ x.kind ≤ 6) (h0 : (aA w x).1 = 0) : ∃ l', Hap w l x (aA w x).2 l' := by
 unfold aA at h0 ⊢
 cases h1 : (decide (x.who < 0) || decide (x.who ≥ (w.c.length : Int))) with
 | true => rw [h1] at h0; cases h0
 | false =>
 have hw : 0 ≤ x.who ∧ x.who < 3 := by
  simp only [h.three, Bool.or_eq_false_iff, decide_eq_false_iff_not] at h1; omega
 rw [h1, cond_false] at h0
 rw [cond_false]
 cases h2 : (x.kind == 1) with
 | true =>
  rw [h2, cond_true] at h0
  rw [cond_true]
  cases h3 : ((cd (gt w.c x.who.toNat) x.who x.node x.parent x.name).2.2 != 0) with
  | true => rw [h3, cond_true] at h0; simp only at h0; rw [h0] at h3; cases h3
  | false =>
   rw [cond_false]
   obtain ⟨a1, a2, a3, a4, a5, a6, a7⟩ := lA (ai h3)
   have hc : bm (cd (gt w.c x.who.toNat) x.who x.node x.parent x.name).1 ((x.who.toNat : Nat) : Int) = 0 := by
    rw [a7, Int.toNat_of_nonneg hw.1]; exact (bA _ _).2 (qJ a1 a2 a3 a4 a5 a6)
   simp only
   rw [pL (h.withCli (k := x.who.toNat) (by omega) hc)]
   exact ⟨l, .move (eq_of_beq h2) hw (ai h3)⟩
 | false =>
 rw [h2, cond_false] at h0
 rw [cond_false]
 cases h3 : (x.kind == 2) with
 | true =>
  rw [h3, cond_true] at h0
  rw [cond_true]
  cases h4 : (decide (x.n < 0) || decide (x.n ≥ ((gt w.c x.who.toNat).pending.length : Int))) with
  | true => rw [h4] at h0; cases h0
  | false =>
   simp only [Bool.or_eq_false_iff, decide_eq_false_iff_not] at h4
   rw [cond_false]
   simp only
   rw [pL h]
   exact ⟨l, .again (eq_of_beq h3) hw (by omega)⟩
 | false =>
 rw [h3, cond_false] at h0
 rw [cond_false]
 cases hu : w.up with
 | false => rw [hu] at h0; cases h0
 | true =>
 rw [hu, Bool.not_true, cond_false] at h0
 rw [Bool.not_true, cond_false]
 cases h4 : (x.kind == 6) with
 | true =>
  rw [h4, cond_true] at h0
  rw [cond_true]
  simp only at h0 ⊢
  unfold bT at h0 ⊢
  rw [pp h hu] at h0 ⊢
  by_cases hn : (aB w.h (fD w x.who)).2 = 0
  ·rw [if_pos hn] at h0 ⊢
   simp only [bne_self_eq_false, cond_false] at h0 ⊢
   cases h5 : ((ca ((gt w.h.peers x.who.toNat).life + 1) (cZ (aB w.h (fD w x.who)).1)).2 == 0) with
   | false => rw [h5, cond_false] at h0; simp only at h0; rw [h0] at h5; cases h5
   | true => exact ⟨_, .began (eq_of_beq h4) hw hu hn (eq_of_beq h5)⟩
  ·rw [if_neg hn] at h0
   have : ((aB w.h (fD w x.who)).2 != 0) = true := by simpa using hn
   simp only [this, cond_true] at h0
   exact absurd h0 hn
 | false =>
 rw [h4, cond_false] at h0
 rw [cond_false]
 cases h5 : (x.kind == 5) with
 | true =>
  rw [h5, cond_true] at h0
  rw [cond_true]
  simp only at h0 ⊢
  rw [pp h hu] at h0 ⊢
  by_cases hn : (aB w.h (f7 x.who x.roots)).2 = 0
  ·rw [if_pos hn]; exact ⟨_, .roots (eq_of_beq h5) hw hu hn⟩
  ·rw [if_neg hn] at h0; exact absurd h0 hn
 | false =>
  rw [h5, cond_false] at h0
  rw [cond_false]
  simp only [beq_eq_false_iff_ne] at h2 h3 h4 h5
  exact ⟨l, vv h (by omega) hw hu h0⟩
theorem jH {w : Wld} {l : List Rec} {x : Happening} (h : IsW w l) (h0 : (aw w x).1 = 0) : ∃ l', Hap w l x (aw w x).2 l' := by
 have hc : ∀ (_ : 1 ≤ x.kind ∧ x.kind ≤ 6) (z : Int × Wld), z = ((aA w x).1, (aA w x).2) → z.1 = 0 → ∃ l', Hap w l x z.2 l' := fun hx z hz h0 => by
  subst hz; exact qI h hx h0
 unfold aw at h0 ⊢
 cases h1 : (x.kind == 7) with
 | true => rw [h1, cond_true] at h0; rw [cond_true]; exact sA h (.inl (eq_of_beq h1)) h0
 | false =>
 rw [h1, cond_false] at h0; rw [cond_false]
 cases h2 : (x.kind == 8) with
 | true => rw [h2, cond_true] at h0; rw [cond_true]; exact sA h (.inr (eq_of_beq h2)) h0
 | false =>
 rw [h2, cond_false] at h0; rw [cond_false]
 cases h3 : (x.kind == 9) with
 | true =>
  rw [h3, cond_true] at h0
  rw [cond_true]
  cases h4 : ((az w.mail x.n false).2.2 == 0) with
  | true =>
   obtain ⟨_, t2, t3, t4⟩ := jP (eq_of_beq h4)
   rw [cond_true, t4]
   exact ⟨l, .lose (eq_of_beq h3) ⟨t2, t3⟩⟩
  | false => rw [h4, cond_false] at h0; simp only at h0; rw [h0] at h4; cases h4
 | false =>
 rw [h3, cond_false] at h0; rw [cond_false]
 cases h4 : (x.kind == 10) with
 | true => rw [h4, cond_true] at h0; rw [cond_true]; exact ⟨l, qC h (.inl (eq_of_beq h4)) h0⟩
 | false =>
 rw [h4, cond_false] at h0; rw [cond_false]
 cases h5 : (x.kind == 11) with
 | true => rw [h5, cond_true] at h0; rw [cond_true]; exact ⟨l, qC h (.inr (eq_of_beq h5)) h0⟩
 | false =>
 rw [h5, cond_false] at h0; rw [cond_false]
 cases h6 : (x.kind == 1) with
 | true => rw [h6, cond_true] at h0; rw [cond_true]; exact hc (by rw [eq_of_beq h6]; decide) _ rfl h0
 | false =>
 rw [h6, cond_false] at h0; rw [cond_false]
 cases h7 : (x.kind == 2) with
 | true => rw [h7, cond_true] at h0; rw [cond_true]; exact hc (by rw [eq_of_beq h7]; decide) _ rfl h0
 | false =>
 rw [h7, cond_false] at h0; rw [cond_false]
 cases h8 : (x.kind == 3) with
 | true => rw [h8, cond_true] at h0; rw [cond_true]; exact hc (by rw [eq_of_beq h8]; decide) _ rfl h0
 | false =>
 rw [h8, cond_false] at h0; rw [cond_false]
 cases h9 : (x.kind == 4) with
 | true => rw [h9, cond_true] at h0; rw [cond_true]; exact hc (by rw [eq_of_beq h9]; decide) _ rfl h0
 | false =>
 rw [h9, cond_false] at h0; rw [cond_false]
 cases h10 : (x.kind == 5) with
 | true => rw [h10, cond_true] at h0; rw [cond_true]; exact hc (by rw [eq_of_beq h10]; decide) _ rfl h0
 | false =>
 rw [h10, cond_false] at h0; rw [cond_false]
 cases h11 : (x.kind == 6) with
 | true => rw [h11, cond_true] at h0; rw [cond_true]; exact hc (by rw [eq_of_beq h11]; decide) _ rfl h0
 | false => rw [h11] at h0; cases h0
theorem kX {w : Wld} {x : Happening} (h : aR w = 0) (h0 : (aw w x).1 = 0) : aR (aw w x).2 = 0 := by
 obtain ⟨l, hl⟩ := (cj w).1 h
 obtain ⟨l', hp⟩ := jH hl h0
 exact (cj _).2 ⟨l', hp.keeps hl⟩
end Go.Proofs.YtkjccbdeaflekaaGreatDoor

set_option maxHeartbeats 2000000
namespace Go.Proofs.YtkjccbdeaflekaaGreatDoor
open Go Go.Proofs.YtkjccbdeaflekaaGreatDoor.Fw Go.Proofs
attribute [local irreducible] RdL RdN VarP LibP RW CW
def bV (w1 : Wld) (x1 : Happening) : Wld × Int :=
 (bif ((aR w1) != 0) then ((⟨(⟨(⟨[], []⟩ : History), 0, ([] : List Peer)⟩ : Hub), (⟨[], []⟩ : Disk), false, ([] : List Client), ([] : List Mail)⟩ : Wld), (aR w1)) else (bif ((aw w1 x1).1 != 0) then ((⟨(⟨(⟨[], []⟩ : History), 0, ([] : List Peer)⟩ : Hub), (⟨[], []⟩ : Disk), false, ([] : List Client), ([] : List Mail)⟩ : Wld), (aw w1 x1).1) else ((aw w1 x1).2, 0)))
theorem l4 (y1 : SlV) (y2 : SlV) (y3 : SlV) (y4 : SlV) (y5 : SlV) (y6 : SlV) (y7 : SlV) (w1 : Wld) (y8 : SlV) (x1 : Happening) : Does Tryz.prog 13 [.agg ⟨cW y1 y2 y3 y4 y5 y6 y7 w1⟩, .agg ⟨cA y8 x1⟩] [RdL EStep y1 w1.h.h.l, RdL EPlace y2 w1.h.h.t, RdN NPeer y3 w1.h.peers, RdL EByte y4 w1.d.safe, RdL EByte y5 w1.d.wait, RdN NClient y6 w1.c, RdN NMail y7 w1.mail, RdL EInt y8 x1.roots, LibP Tryz.prog] (fun (X : SlV × SlV × SlV × SlV × SlV × SlV × SlV) => .tuple #[.agg ⟨cW X.1 X.2.1 X.2.2.1 X.2.2.2.1 X.2.2.2.2.1 X.2.2.2.2.2.1 X.2.2.2.2.2.2 (bV w1 x1).1⟩, .int .i64 (bV w1 x1).2]) (fun X => [RdL EStep X.1 (bV w1 x1).1.h.h.l, RdL EPlace X.2.1 (bV w1 x1).1.h.h.t, RdN NPeer X.2.2.1 (bV w1 x1).1.h.peers, RdL EByte X.2.2.2.1 (bV w1 x1).1.d.safe, RdL EByte X.2.2.2.2.1 (bV w1 x1).1.d.wait, RdN NClient X.2.2.2.2.2.1 (bV w1 x1).1.c, RdN NMail X.2.2.2.2.2.2 (bV w1 x1).1.mail]) := by
 refine Dp aK Tryz.func13 Tryz.ntmps13 Tryz.results13 fun C => ?_
 refine Pc EStep y1 w1.h.h.l 88 fun hlen1 => ?_
 refine Pc EPlace y2 w1.h.h.t 24 fun hlen2 => ?_
 refine Pn NPeer y3 w1.h.peers 40 fun hlen3 => ?_
 refine Pc EByte y4 w1.d.safe 1 fun hlen4 => ?_
 refine Pc EByte y5 w1.d.wait 1 fun hlen5 => ?_
 refine Pn NClient y6 w1.c 128 fun hlen6 => ?_
 refine Pn NMail y7 w1.mail 280 fun hlen7 => ?_
 refine Pc EInt y8 x1.roots 8 fun hlen8 => ?_
 refine BxT fun g1 => ?_
 refine BxT fun g2 => ?_
 refine AlT fun g3 => ?_
 refine Ck (f4 y1 y2 y3 y4 y5 y6 y7 w1) fun _ => ?_
 have hf := Ri (bV.eq_1 w1 x1)
 refine Cn hf (fun hc1 hc1p hf => ?_) fun hc1 hc1p hf => ?_
 ·refine Tx ?_
  refine Fc EStep ?_
  refine Fc EPlace ?_
  refine Ft NPeer ?_
  refine Fc EByte ?_
  refine Ft NClient ?_
  refine Ft NMail ?_
  refine Rx ?_; exact Re ⟨Z0, Z0, Z0, Z0, Z0, Z0, Z0⟩ Rv
 ·refine Cm (ia y1 y2 y3 y4 y5 y6 y7 w1) fun x2 => ?_
  refine Cm (jt g1 x2.1 x2.2.1 x2.2.2.1 x2.2.2.2.1 x2.2.2.2.2.1 x2.2.2.2.2.2.1 x2.2.2.2.2.2.2.1 x2.2.2.2.2.2.2.2.1 x2.2.2.2.2.2.2.2.2 w1 y8 x1 (iG (by first | assumption | exact hinv | exact ai hc1)).1 (iG (by first | assumption | exact hinv | exact ai hc1)).2.1 (iG (by first | assumption | exact hinv | exact ai hc1)).2.2) fun x3 => ?_
  refine Cn hf (fun hc2 hc2p hf => ?_) fun hc2 hc2p hf => ?_
  ·refine Tx ?_
   refine Fc EStep ?_
   refine Fc EPlace ?_
   refine Ft NPeer ?_
   refine Fc EByte ?_
   refine Ft NClient ?_
   refine Ft NMail ?_
   refine Rx ?_; exact Re ⟨Z0, Z0, Z0, Z0, Z0, Z0, Z0⟩ Rv
  ·refine Tx ?_
   refine cw_le (ar NClient.E 63 x3.2.2.2.2.2.1 x3.2.2.2.2.2.2.1 (zipG x3.2.2.2.2.2.2.2.1 0 (aw w1 x1).2.c) Uo) ?_
   refine Fj NClient x3.2.2.2.2.2.1 x3.2.2.2.2.2.2.2.1 (aw w1 x1).2.c ?_
   refine Rx ?_; exact Re ⟨x3.1, x3.2.1, x3.2.2.1, x3.2.2.2.1, x3.2.2.2.2.1, x3.2.2.2.2.2.1, x3.2.2.2.2.2.2.2.2⟩ Rv
def gh  : List Happening → (List Int) → Wld → (Wld × (List Int) × Int)
 | [], said1, w2 => (w2, said1, 0)
 | pn1 :: rn1, said1, w2 => (bif ((aw w2 pn1).1 == 0) then (gh rn1 (said1 ++ [(aw w2 pn1).1]) (aw w2 pn1).2) else (gh rn1 (said1 ++ [(aw w2 pn1).1]) w2))
def cJ (w1 : Wld) (l1 : List Happening) : Wld × (List Int) × Int :=
 (bif ((aR w1) != 0) then ((⟨(⟨(⟨[], []⟩ : History), 0, ([] : List Peer)⟩ : Hub), (⟨[], []⟩ : Disk), false, ([] : List Client), ([] : List Mail)⟩ : Wld), ([] : List Int), (aR w1)) else (bif decide ((l1.length : Int) > 100) then ((⟨(⟨(⟨[], []⟩ : History), 0, ([] : List Peer)⟩ : Hub), (⟨[], []⟩ : Disk), false, ([] : List Client), ([] : List Mail)⟩ : Wld), ([] : List Int), 2) else (gh l1 [] w1)))
theorem oM (y1 : SlV) (y2 : SlV) (y3 : SlV) (y4 : SlV) (y5 : SlV) (y6 : SlV) (y7 : SlV) (w1 : Wld) (y8 : SlV) (l1 : List Happening) : Does Tryz.prog 7 [.agg ⟨cW y1 y2 y3 y4 y5 y6 y7 w1⟩, y8.val l1.length] [RdL EStep y1 w1.h.h.l, RdL EPlace y2 w1.h.h.t, RdN NPeer y3 w1.h.peers, RdL EByte y4 w1.d.safe, RdL EByte y5 w1.d.wait, RdN NClient y6 w1.c, RdN NMail y7 w1.mail, RdN NHap y8 l1, LibP Tryz.prog] (fun (X : SlV × SlV × SlV × SlV × SlV × SlV × SlV × SlV) => .tuple #[.agg ⟨cW X.1 X.2.1 X.2.2.1 X.2.2.2.1 X.2.2.2.2.1 X.2.2.2.2.2.1 X.2.2.2.2.2.2.1 (cJ w1 l1).1⟩, X.2.2.2.2.2.2.2.val (cJ w1 l1).2.1.length, .int .i64 (cJ w1 l1).2.2]) (fun X => [RdL EStep X.1 (cJ w1 l1).1.h.h.l, RdL EPlace X.2.1 (cJ w1 l1).1.h.h.t, RdN NPeer X.2.2.1 (cJ w1 l1).1.h.peers, RdL EByte X.2.2.2.1 (cJ w1 l1).1.d.safe, RdL EByte X.2.2.2.2.1 (cJ w1 l1).1.d.wait, RdN NClient X.2.2.2.2.2.1 (cJ w1 l1).1.c, RdN NMail X.2.2.2.2.2.2.1 (cJ w1 l1).1.mail, RdL EInt X.2.2.2.2.2.2.2 (cJ w1 l1).2.1]) := by
 refine Dp aK Tryz.func7 Tryz.ntmps7 Tryz.results7 fun C => ?_
 refine Pc EStep y1 w1.h.h.l 88 fun hlen1 => ?_
 refine Pc EPlace y2 w1.h.h.t 24 fun hlen2 => ?_
 refine Pn NPeer y3 w1.h.peers 40 fun hlen3 => ?_
 refine Pc EByte y4 w1.d.safe 1 fun hlen4 => ?_
 refine Pc EByte y5 w1.d.wait 1 fun hlen5 => ?_
 refine Pn NClient y6 w1.c 128 fun hlen6 => ?_
 refine Pn NMail y7 w1.mail 280 fun hlen7 => ?_
 refine Pn NHap y8 l1 72 fun hlen8 => ?_
 refine BxT fun g1 => ?_
 refine AlT fun g2 => ?_
 refine Ck (f4 y1 y2 y3 y4 y5 y6 y7 w1) fun _ => ?_
 have hf := Ri (cJ.eq_1 w1 l1)
 refine Cn hf (fun hc1 hc1p hf => ?_) fun hc1 hc1p hf => ?_
 ·refine Tx ?_
  refine Fc EStep ?_
  refine Fc EPlace ?_
  refine Ft NPeer ?_
  refine Fc EByte ?_
  refine Ft NClient ?_
  refine Ft NMail ?_
  refine Fc EInt ?_
  refine Rx ?_; exact Re ⟨Z0, Z0, Z0, Z0, Z0, Z0, Z0, Z0⟩ Rv
 ·refine Cp hf (fun hc2 hc2p hf => ?_) fun hc2 hc2p hf => ?_
  ·refine Tx ?_
   refine Fc EStep ?_
   refine Fc EPlace ?_
   refine Ft NPeer ?_
   refine Fc EByte ?_
   refine Ft NClient ?_
   refine Ft NMail ?_
   refine Fc EInt ?_
   refine Rx ?_; exact Re ⟨Z0, Z0, Z0, Z0, Z0, Z0, Z0, Z0⟩ Rv
  ·refine Cm (ia y1 y2 y3 y4 y5 y6 y7 w1) fun x1 => ?_
   refine rw_le (ar NClient.E 63 x1.2.2.2.2.2.1 x1.2.2.2.2.2.2.1 (zipG x1.2.2.2.2.2.2.2.1 0 w1.c) Uo) ?_
   refine Fk NClient x1.2.2.2.2.2.1 x1.2.2.2.2.2.2.2.1 w1.c ?_
   refine Tx ?_
   (repeat refine aD ?_); refine Lp [2,4,5,6,25,26] [true, false] (fun (i_ : List Int × SlV × Option Nat × Nat × Wld × SlV × SlV × SlV × SlV × SlV × SlV × SlV) => match i_ with | ⟨said1, x2, x2b, n1, w2, x3, x4, x5, x6, x7, x8, x9⟩ => (⟨[(8, .v (x2.val said1.length)), (27, .v (.int .i64 (n1 : Int)))], [⟨g1, 37, cW x3 x4 x5 x6 x7 x8 x9 w2⟩], [ownL EInt 40 x2 x2b said1], [RdL EStep x3 w2.h.h.l, RdL EPlace x4 w2.h.h.t, RdN NPeer x5 w2.h.peers, RdL EByte x6 w2.d.safe, RdL EByte x7 w2.d.wait, RdN NClient x8 w2.c, RdN NMail x9 w2.mail], (n1 ≤ l1.length) ∧ (said1.length ≤ n1) ∧ (aR w2 = 0) ∧ (gh (l1.drop n1) said1 w2) = (cJ w1 l1), l1.length - n1⟩ : Ls)) ⟨[], ⟨none, 0⟩, none, 0, w1, x1.1, x1.2.1, x1.2.2.1, x1.2.2.2.1, x1.2.2.2.2.1, x1.2.2.2.2.2.1, x1.2.2.2.2.2.2.2.2⟩ (Sc (Sc (Sc (Sc (Sc (Sc Sn)))))) (.keep (.drop (.nil))) ⟨Nat.zero_le _, (by first | exact Nat.le_refl _ | exact Nat.zero_le _ | omega), (ai (by assumption)), hf.symm⟩ (Le.trans (eH EInt 40) Le4) ?_
   rintro ⟨said1, x2, x2b, n1, w2, x3, x4, x5, x6, x7, x8, x9⟩ ⟨hkn1, hsaid1, hinv, hf1⟩
   simp only [Lc]
   refine Cu (fun hlt0 => ?_) fun hge0 => ?_
   ·refine Tx ?_
    refine fl NHap (X := y8) (l := l1) Mm fun (γ1 : Nat → SlV) => ?_
    refine Sq (Xn NHap n1) ?_
    refine Sq (q_is (v' := .agg ⟨cA (γ1 n1) (gt l1 n1)⟩) (fY NHap γ1 rfl rfl Zf rfl rfl Mm (fun _ => by first | assumption | omega)) rfl) ?_
    refine Fg NHap γ1 l1 n1 0 ?_
    refine AlT fun g3 => ?_
    refine Cm (ia x3 x4 x5 x6 x7 x8 x9 w2) fun x10 => ?_
    refine AlT fun g4 => ?_
    refine Cm (jt g4 x10.1 x10.2.1 x10.2.2.1 x10.2.2.2.1 x10.2.2.2.2.1 x10.2.2.2.2.2.1 x10.2.2.2.2.2.2.1 x10.2.2.2.2.2.2.2.1 x10.2.2.2.2.2.2.2.2 w2 (γ1 n1) (gt l1 n1) (iG (by first | assumption | exact hinv | exact ai hc1)).1 (iG (by first | assumption | exact hinv | exact ai hc1)).2.1 (iG (by first | assumption | exact hinv | exact ai hc1)).2.2) fun x11 => ?_
    refine rw_le (ar NClient.E 63 x11.2.2.2.2.2.1 x11.2.2.2.2.2.2.1 (zipG x11.2.2.2.2.2.2.2.1 0 (aw w2 (gt l1 n1)).2.c) Uo) ?_
    refine Fk NClient x11.2.2.2.2.2.1 x11.2.2.2.2.2.2.2.1 (aw w2 (gt l1 n1)).2.c ?_
    have hf := Ri hf1.symm
    rw [bd hlt0, gh] at hf
    refine Ce hf (fun hc4 hc4p hf => ?_) fun hc4 hc4p hf => ?_
    ·refine Bl EInt [(aw w2 (gt l1 n1)).1] fun x12 x12b => ?_
     refine Ap EInt 8 said1 [(aw w2 (gt l1 n1)).1] x2b fun x13 x13b => ?_
     refine Tt ?_
     refine ⟨⟨(said1 ++ [(aw w2 (gt l1 n1)).1]), x13, x13b, (n1 + 1), (aw w2 (gt l1 n1)).2, x11.1, x11.2.1, x11.2.2.1, x11.2.2.2.1, x11.2.2.2.2.1, x11.2.2.2.2.2.1, x11.2.2.2.2.2.2.2.2⟩, ⟨hlt0, Zl, (by first | exact hinv | exact kX hinv (eq_of_beq (by assumption))), hf.symm⟩, Oo, Le4⟩
    ·refine Bl EInt [(aw w2 (gt l1 n1)).1] fun x14 x14b => ?_
     refine Ap EInt 8 said1 [(aw w2 (gt l1 n1)).1] x2b fun x15 x15b => ?_
     refine Tt ?_
     refine ⟨⟨(said1 ++ [(aw w2 (gt l1 n1)).1]), x15, x15b, (n1 + 1), w2, x3, x4, x5, x6, x7, x8, x9⟩, ⟨hlt0, Zl, (by first | exact hinv | exact kX hinv (eq_of_beq (by assumption))), hf.symm⟩, Oo, Le4⟩
   ·refine Tx ?_
    refine cw_le (ar EInt 40 x2 x2b said1 Uo) ?_
    have hf := Ri hf1.symm
    rw [List.drop_of_length_le hge0, gh] at hf
    refine Rx ?_; exact Re ⟨x3, x4, x5, x6, x7, x8, x9, x2⟩ Rv
end Go.Proofs.YtkjccbdeaflekaaGreatDoor

namespace Go.Proofs.YtkjccbdeaflekaaGreatDoor
open Go Go.Proofs.YtkjccbdeaflekaaGreatDoor.Fw Go.Proofs
theorem tP {w : Wld} (h : aR w = 0) {k : Nat} (hk : k < 3) : (gt w.c k).pending.length ≤ 8 := by
 obtain ⟨l, h⟩ := (cj w).1 h
 exact ((bA _ _).1 (h.cli k hk)).few
theorem wC : aR bU = 0 := by decide +kernel
theorem nI {w : Wld} (h : aR w = 0) : w.c.length = 3 := by
 obtain ⟨l, h⟩ := (cj w).1 h
 exact h.three
theorem ta {w : Wld} {x : Happening} (h : (bV w x).2 = 0) : aR w = 0 ∧ (aw w x).1 = 0 ∧ bV w x = ((aw w x).2, 0) := by
 unfold bV at h ⊢
 cases h1 : (aR w != 0) with
 | true => rw [h1, cond_true] at h; simp only at h; rw [h] at h1; cases h1
 | false =>
  rw [h1, cond_false] at h
  rw [cond_false]
  cases h2 : ((aw w x).1 != 0) with
  | true => rw [h2, cond_true] at h; simp only at h; rw [h] at h2; cases h2
  | false => exact ⟨ai h1, ai h2, rfl⟩
theorem Do_ok {w : Wld} {x : Happening} (h : (bV w x).2 = 0) : aR w = 0 ∧ aR (bV w x).1 = 0 := by
 obtain ⟨h1, h2, h3⟩ := ta h
 exact ⟨h1, by rw [h3]; exact kX h1 h2⟩
end Go.Proofs.YtkjccbdeaflekaaGreatDoor

set_option maxHeartbeats 2000000
namespace Go.Proofs.YtkjccbdeaflekaaGreatDoor
open Go Go.Proofs.YtkjccbdeaflekaaGreatDoor.Fw Go.Proofs
attribute [local irreducible] RdL RdN VarP LibP RW CW
def ec  : List Rec → (List Op) → ((List Op) × Int)
 | [], out1 => (out1, 0)
 | pn1 :: rn1, out1 => (bif (pn1.kind == 1) then (ec rn1 (out1 ++ [pn1.o])) else (ec rn1 out1))
def d7 (w1 : Wld) : (List Op) × Int :=
 (bif ((aR w1) != 0) then (([] : List Op), (aR w1)) else (ec (am w1.d).2.1 []))
theorem lM (y1 : SlV) (y2 : SlV) (y3 : SlV) (y4 : SlV) (y5 : SlV) (y6 : SlV) (y7 : SlV) (w1 : Wld) : Does Tryz.prog 25 [.agg ⟨cW y1 y2 y3 y4 y5 y6 y7 w1⟩] [RdL EStep y1 w1.h.h.l, RdL EPlace y2 w1.h.h.t, RdN NPeer y3 w1.h.peers, RdL EByte y4 w1.d.safe, RdL EByte y5 w1.d.wait, RdN NClient y6 w1.c, RdN NMail y7 w1.mail, LibP Tryz.prog] (fun (X : SlV) => .tuple #[X.val (d7 w1).1.length, .int .i64 (d7 w1).2]) (fun X => [RdL EOp X (d7 w1).1]) := by
 refine Dp aK Tryz.func25 Tryz.ntmps25 Tryz.results25 fun C => ?_
 refine Pc EStep y1 w1.h.h.l 88 fun hlen1 => ?_
 refine Pc EPlace y2 w1.h.h.t 24 fun hlen2 => ?_
 refine Pn NPeer y3 w1.h.peers 40 fun hlen3 => ?_
 refine Pc EByte y4 w1.d.safe 1 fun hlen4 => ?_
 refine Pc EByte y5 w1.d.wait 1 fun hlen5 => ?_
 refine Pn NClient y6 w1.c 128 fun hlen6 => ?_
 refine Pn NMail y7 w1.mail 280 fun hlen7 => ?_
 refine BxT fun g1 => ?_
 refine Ck (f4 y1 y2 y3 y4 y5 y6 y7 w1) fun _ => ?_
 have hf := Ri (d7.eq_1 w1)
 refine Cn hf (fun hc1 hc1p hf => ?_) fun hc1 hc1p hf => ?_
 ·refine Tx ?_
  refine Fc EOp ?_
  refine Rx ?_; exact Re Z0 (Vt (Vt Vn))
 ·refine Ck (eI y4 y5 w1.d) fun x1 => ?_
  refine AlT fun g2 => ?_
  refine Tx ?_
  refine Pn NRec x1.2.2 (am w1.d).2.1 104 fun hlen8 => ?_
  (repeat refine aD ?_); refine Lp [2,3,23,24] [true, true] (fun (i_ : List Op × SlV × Option Nat × Nat) => match i_ with | ⟨out1, x2, x2b, n1⟩ => (⟨[(8, .v (x2.val out1.length)), (25, .v (.int .i64 (n1 : Int)))], [], [ownL EOp 76 x2 x2b out1], [], (n1 ≤ (am w1.d).2.1.length) ∧ (out1.length ≤ n1) ∧ (ec ((am w1.d).2.1.drop n1) out1) = (d7 w1), (am w1.d).2.1.length - n1⟩ : Ls)) ⟨[], ⟨none, 0⟩, none, 0⟩ (Sc (Sc (Sc (Sc Sn)))) (.keep (.keep (.nil))) ⟨Nat.zero_le _, (by first | exact Nat.le_refl _ | exact Nat.zero_le _ | omega), hf.symm⟩ (Le.trans (eH EOp 76) Le4) ?_
  rintro ⟨out1, x2, x2b, n1⟩ ⟨hkn1, hout1, hf1⟩
  simp only [Lc]
  refine Cu (fun hlt0 => ?_) fun hge0 => ?_
  ·refine Tx ?_
   refine fl NRec (X := x1.2.2) (l := (am w1.d).2.1) Mm fun (γ1 : Nat → SlV) => ?_
   refine Sq (Xn NRec n1) ?_
   refine Sq (q_is (v' := .agg ⟨cR (γ1 n1) (gt (am w1.d).2.1 n1)⟩) (fY NRec γ1 rfl rfl Zf rfl rfl Mm (fun _ => by first | assumption | omega)) rfl) ?_
   refine Fg NRec γ1 (am w1.d).2.1 n1 0 ?_
   refine AlT fun g3 => ?_
   have hf := Ri hf1.symm
   rw [bd hlt0, ec] at hf
   refine Ce hf (fun hc3 hc3p hf => ?_) fun hc3 hc3p hf => ?_
   ·refine Bl EOp [(gt (am w1.d).2.1 n1).o] fun x3 x3b => ?_
    refine Ap EOp 56 out1 [(gt (am w1.d).2.1 n1).o] x2b fun x4 x4b => ?_
    refine Tt ?_
    refine ⟨⟨(out1 ++ [(gt (am w1.d).2.1 n1).o]), x4, x4b, (n1 + 1)⟩, ⟨hlt0, Zl, hf.symm⟩, Oo, Le4⟩
   ·refine Tt ?_
    refine ⟨⟨out1, x2, x2b, (n1 + 1)⟩, ⟨hlt0, Zl, hf.symm⟩, Oo, Le4⟩
  ·refine Tx ?_
   refine cw_le (ar EOp 76 x2 x2b out1 Uo) ?_
   have hf := Ri hf1.symm
   rw [List.drop_of_length_le hge0, ec] at hf
   refine Rx ?_; exact Re x2 Rv
def en (w1 : Wld) (version1 : Int) (who1 : Int) : View × Int :=
 (bif ((aR w1) != 0) then ((⟨[], [], []⟩ : View), (aR w1)) else (bif (decide (version1 < 0) || decide (version1 > ((am w1.d).2.1.length : Int))) then ((⟨[], [], []⟩ : View), 5) else (bif ((aq ((am w1.d).2.1.take version1.toNat)).2 != 0) then ((⟨[], [], []⟩ : View), (aq ((am w1.d).2.1.take version1.toNat)).2) else (bif (decide (who1 < 0) || decide (who1 ≥ ((aq ((am w1.d).2.1.take version1.toNat)).1.peers.length : Int))) then ((⟨[], [], []⟩ : View), 5) else ((bR (aq ((am w1.d).2.1.take version1.toNat)).1.h.t (gt (aq ((am w1.d).2.1.take version1.toNat)).1.peers who1.toNat).roots).1, (bR (aq ((am w1.d).2.1.take version1.toNat)).1.h.t (gt (aq ((am w1.d).2.1.take version1.toNat)).1.peers who1.toNat).roots).2)))))
theorem iq (y1 : SlV) (y2 : SlV) (y3 : SlV) (y4 : SlV) (y5 : SlV) (y6 : SlV) (y7 : SlV) (w1 : Wld) (version1 : Int) (who1 : Int) : Does Tryz.prog 23 [.agg ⟨cW y1 y2 y3 y4 y5 y6 y7 w1⟩, .int .i64 version1, .int .i64 who1] [RdL EStep y1 w1.h.h.l, RdL EPlace y2 w1.h.h.t, RdN NPeer y3 w1.h.peers, RdL EByte y4 w1.d.safe, RdL EByte y5 w1.d.wait, RdN NClient y6 w1.c, RdN NMail y7 w1.mail, LibP Tryz.prog] (fun (X : SlV × SlV × SlV) => .tuple #[.agg ⟨cV X.1 X.2.1 X.2.2 (en w1 version1 who1).1⟩, .int .i64 (en w1 version1 who1).2]) (fun X => [RdL EInt X.1 (en w1 version1 who1).1.roots, RdL EPlace X.2.1 (en w1 version1 who1).1.known, RdL EPlace X.2.2 (en w1 version1 who1).1.way]) := by
 refine Dp aK Tryz.func23 Tryz.ntmps23 Tryz.results23 fun C => ?_
 refine Pc EStep y1 w1.h.h.l 88 fun hlen1 => ?_
 refine Pc EPlace y2 w1.h.h.t 24 fun hlen2 => ?_
 refine Pn NPeer y3 w1.h.peers 40 fun hlen3 => ?_
 refine Pc EByte y4 w1.d.safe 1 fun hlen4 => ?_
 refine Pc EByte y5 w1.d.wait 1 fun hlen5 => ?_
 refine Pn NClient y6 w1.c 128 fun hlen6 => ?_
 refine Pn NMail y7 w1.mail 280 fun hlen7 => ?_
 refine BxT fun g1 => ?_
 refine AlT fun g2 => ?_
 refine Ck (f4 y1 y2 y3 y4 y5 y6 y7 w1) fun _ => ?_
 have hf := Ri (en.eq_1 w1 version1 who1)
 refine Cn hf (fun hc1 hc1p hf => ?_) fun hc1 hc1p hf => ?_
 ·refine Tx ?_
  refine Fc EInt ?_
  refine Fc EPlace ?_
  refine Rx ?_; exact Re ⟨Z0, Z0, Z0⟩ Rv
 ·refine Ck (eI y4 y5 w1.d) fun x1 => ?_
  refine AlT fun g3 => ?_
  refine Ch hf (fun hc2 hf => ?_) fun hc2 hf => ?_
  ·refine Tx ?_
   refine Fc EInt ?_
   refine Fc EPlace ?_
   refine Rx ?_; exact Re ⟨Z0, Z0, Z0⟩ Rv
  ·have hvr := hc2
   simp only [Bool.or_eq_false_iff, decide_eq_false_iff_not] at hvr
   refine Sy Tz (rv NRec version1.toNat rfl rfl Zf rfl Zf rfl rfl Mm Zo Zo) ?_
   refine dU (F := RdN NRec x1.2.2 ((am w1.d).2.1.take version1.toNat)) [RdN NRec x1.2.2 (am w1.d).2.1] Sm (fun M w h => (allF1 h).take _) ?_
   refine Ck (fE x1.2.2 ((am w1.d).2.1.take version1.toNat)) fun x2 => ?_
   generalize hS1 : (aq ((am w1.d).2.1.take version1.toNat)) = S1
   try rw [hS1] at hf
   refine AlT fun g4 => ?_
   refine Cn hf (fun hc3 hc3p hf => ?_) fun hc3 hc3p hf => ?_
   ·refine Tx ?_
    refine Fc EInt ?_
    refine Fc EPlace ?_
    refine Rx ?_; exact Re ⟨Z0, Z0, Z0⟩ Rv
   ·refine Ch hf (fun hc4 hf => ?_) fun hc4 hf => ?_
    ·refine Tx ?_
     refine Fc EInt ?_
     refine Fc EPlace ?_
     refine Rx ?_; exact Re ⟨Z0, Z0, Z0⟩ Rv
    ·have hwr := hc4
     simp only [Bool.or_eq_false_iff, decide_eq_false_iff_not] at hwr
     refine Tx ?_
     (repeat refine aD ?_); refine ap (fun j => match j with | 12 => some [g2] | _ => some []) ?_
     refine Dx (.range 6) ?_
     refine fl NPeer (X := x2.2.2) (l := S1.1.peers) Mm fun (γ1 : Nat → SlV) => ?_
     refine Rb 6 rfl (Xn NPeer who1.toNat) ?_
     refine Rb 7 rfl Xf ?_
     refine Rb 8 rfl (kQ NPeer γ1 (v := (γ1 who1.toNat).val (gt S1.1.peers who1.toNat).roots.length) rfl rfl Zf rfl rfl Mm (fun _ => by first | assumption | omega) rfl) ?_
     refine Fg NPeer γ1 S1.1.peers who1.toNat 0 ?_
     refine Rn 9 ?_
     refine Ck (gQ x2.2.1 S1.1.h.t (γ1 who1.toNat) (gt S1.1.peers who1.toNat).roots) fun x3 => ?_
     generalize hS2 : (bR S1.1.h.t (gt S1.1.peers who1.toNat).roots) = S2
     try rw [hS2] at hf
     refine Dx [10,11] ?_
     refine Rn 12 ?_
     refine Wa ?_
     refine Ra 13 rfl Qp ?_
     refine Re0 ?_
     refine Rx ?_; exact Re ⟨x3.1, x3.2.1, x3.2.2⟩ Rv
def fo (e1 : Int) : Bool :=
 (e1 != 0)
theorem j6 (e1 : Int) : Does Tryz.prog 71 [.int .i64 e1] [] (fun (_ : Unit) => .bool (fo e1)) (fun _ => []) := by
 refine Dp aK Tryz.func71 Tryz.ntmps71 Tryz.results71 fun C => ?_
 have hf := Ri (fo.eq_1 e1)
 exact Ru
def f8  : Bool :=
 (((((((((((cJ bU [(⟨6, 0, 0, 0, 0, 0, ([] : List Int)⟩ : Happening), (⟨5, 0, 0, 0, 0, 0, [0]⟩ : Happening), (⟨1, 0, 0, 3, 0, 0, ([] : List Int)⟩ : Happening), (⟨7, 0, 0, 0, 0, 0, ([] : List Int)⟩ : Happening), (⟨10, 0, 0, 0, 0, 0, ([] : List Int)⟩ : Happening)]).2.2 == 0) && ((d7 (cJ bU [(⟨6, 0, 0, 0, 0, 0, ([] : List Int)⟩ : Happening), (⟨5, 0, 0, 0, 0, 0, [0]⟩ : Happening), (⟨1, 0, 0, 3, 0, 0, ([] : List Int)⟩ : Happening), (⟨7, 0, 0, 0, 0, 0, ([] : List Int)⟩ : Happening), (⟨10, 0, 0, 0, 0, 0, ([] : List Int)⟩ : Happening)]).1).2 == 0)) && ((en (cJ bU [(⟨6, 0, 0, 0, 0, 0, ([] : List Int)⟩ : Happening), (⟨5, 0, 0, 0, 0, 0, [0]⟩ : Happening), (⟨1, 0, 0, 3, 0, 0, ([] : List Int)⟩ : Happening), (⟨7, 0, 0, 0, 0, 0, ([] : List Int)⟩ : Happening), (⟨10, 0, 0, 0, 0, 0, ([] : List Int)⟩ : Happening)]).1 2 0).2 == 0)) && ((en (cJ bU [(⟨6, 0, 0, 0, 0, 0, ([] : List Int)⟩ : Happening), (⟨5, 0, 0, 0, 0, 0, [0]⟩ : Happening), (⟨1, 0, 0, 3, 0, 0, ([] : List Int)⟩ : Happening), (⟨7, 0, 0, 0, 0, 0, ([] : List Int)⟩ : Happening), (⟨10, 0, 0, 0, 0, 0, ([] : List Int)⟩ : Happening)]).1 3 0).2 == 0)) && ((en (cJ bU [(⟨6, 0, 0, 0, 0, 0, ([] : List Int)⟩ : Happening), (⟨5, 0, 0, 0, 0, 0, [0]⟩ : Happening), (⟨1, 0, 0, 3, 0, 0, ([] : List Int)⟩ : Happening), (⟨7, 0, 0, 0, 0, 0, ([] : List Int)⟩ : Happening), (⟨10, 0, 0, 0, 0, 0, ([] : List Int)⟩ : Happening)]).1 4 0).2 == 5)) && (!(ey (cJ bU [(⟨6, 0, 0, 0, 0, 0, ([] : List Int)⟩ : Happening), (⟨5, 0, 0, 0, 0, 0, [0]⟩ : Happening), (⟨1, 0, 0, 3, 0, 0, ([] : List Int)⟩ : Happening), (⟨7, 0, 0, 0, 0, 0, ([] : List Int)⟩ : Happening), (⟨10, 0, 0, 0, 0, 0, ([] : List Int)⟩ : Happening)]).2.1 fo))) && (((d7 (cJ bU [(⟨6, 0, 0, 0, 0, 0, ([] : List Int)⟩ : Happening), (⟨5, 0, 0, 0, 0, 0, [0]⟩ : Happening), (⟨1, 0, 0, 3, 0, 0, ([] : List Int)⟩ : Happening), (⟨7, 0, 0, 0, 0, 0, ([] : List Int)⟩ : Happening), (⟨10, 0, 0, 0, 0, 0, ([] : List Int)⟩ : Happening)]).1).1.length : Int) == 1)) && ((gt (d7 (cJ bU [(⟨6, 0, 0, 0, 0, 0, ([] : List Int)⟩ : Happening), (⟨5, 0, 0, 0, 0, 0, [0]⟩ : Happening), (⟨1, 0, 0, 3, 0, 0, ([] : List Int)⟩ : Happening), (⟨7, 0, 0, 0, 0, 0, ([] : List Int)⟩ : Happening), (⟨10, 0, 0, 0, 0, 0, ([] : List Int)⟩ : Happening)]).1).1 0).node == 3)) && (((en (cJ bU [(⟨6, 0, 0, 0, 0, 0, ([] : List Int)⟩ : Happening), (⟨5, 0, 0, 0, 0, 0, [0]⟩ : Happening), (⟨1, 0, 0, 3, 0, 0, ([] : List Int)⟩ : Happening), (⟨7, 0, 0, 0, 0, 0, ([] : List Int)⟩ : Happening), (⟨10, 0, 0, 0, 0, 0, ([] : List Int)⟩ : Happening)]).1 2 0).1.known.length : Int) == 0)) && (((en (cJ bU [(⟨6, 0, 0, 0, 0, 0, ([] : List Int)⟩ : Happening), (⟨5, 0, 0, 0, 0, 0, [0]⟩ : Happening), (⟨1, 0, 0, 3, 0, 0, ([] : List Int)⟩ : Happening), (⟨7, 0, 0, 0, 0, 0, ([] : List Int)⟩ : Happening), (⟨10, 0, 0, 0, 0, 0, ([] : List Int)⟩ : Happening)]).1 3 0).1.known.length : Int) == 1))
theorem kT  : Does Tryz.prog 20 [] [LibP Tryz.prog] (fun (_ : Unit) => .bool f8) (fun _ => []) := by
 refine Dp aK Tryz.func20 Tryz.ntmps20 Tryz.results20 fun C => ?_
 refine Ck (lC ) fun x1 => ?_
 refine Rp rfl rfl rfl rfl ?_
 refine Bl EInt [0] fun x2 x2b => ?_
 refine Tx ?_
 refine Fr EInt ?_
 refine rw_le (ar EInt 3 x2 x2b [0] Uo) ?_
 refine o5 NHap.E [(Z0, (⟨6, 0, 0, 0, 0, 0, ([] : List Int)⟩ : Happening)), (x2, (⟨5, 0, 0, 0, 0, 0, [0]⟩ : Happening)), (Z0, (⟨1, 0, 0, 3, 0, 0, ([] : List Int)⟩ : Happening)), (Z0, (⟨7, 0, 0, 0, 0, 0, ([] : List Int)⟩ : Happening)), (Z0, (⟨10, 0, 0, 0, 0, 0, ([] : List Int)⟩ : Happening))] .sq (al rfl) rfl rfl rfl rfl rfl rfl rfl rfl rfl rfl rfl rfl rfl (tB [.agg ⟨[.int .i64 6, .int .i64 0, .int .i64 0, .int .i64 0, .int .i64 0, .int .i64 0, .slice none 0 0]⟩, .agg ⟨[.int .i64 5, .int .i64 0, .int .i64 0, .int .i64 0, .int .i64 0, .int .i64 0, x2.val [0].length]⟩, .agg ⟨[.int .i64 1, .int .i64 0, .int .i64 0, .int .i64 3, .int .i64 0, .int .i64 0, .slice none 0 0]⟩, .agg ⟨[.int .i64 7, .int .i64 0, .int .i64 0, .int .i64 0, .int .i64 0, .int .i64 0, .slice none 0 0]⟩, .agg ⟨[.int .i64 10, .int .i64 0, .int .i64 0, .int .i64 0, .int .i64 0, .int .i64 0, .slice none 0 0]⟩] rfl (by intro v hv; simp only [List.mem_cons, List.not_mem_nil, or_false] at hv; rcases hv with rfl | rfl | rfl | rfl | rfl <;> rfl) rfl rfl) rfl fun x3 x3b => ?_
 refine rw_le (ar NHap.E 48 x3 x3b [(Z0, (⟨6, 0, 0, 0, 0, 0, ([] : List Int)⟩ : Happening)), (x2, (⟨5, 0, 0, 0, 0, 0, [0]⟩ : Happening)), (Z0, (⟨1, 0, 0, 3, 0, 0, ([] : List Int)⟩ : Happening)), (Z0, (⟨7, 0, 0, 0, 0, 0, ([] : List Int)⟩ : Happening)), (Z0, (⟨10, 0, 0, 0, 0, 0, ([] : List Int)⟩ : Happening))] Uo) ?_
 refine dU (F := RdN NHap x3 [(⟨6, 0, 0, 0, 0, 0, ([] : List Int)⟩ : Happening), (⟨5, 0, 0, 0, 0, 0, [0]⟩ : Happening), (⟨1, 0, 0, 3, 0, 0, ([] : List Int)⟩ : Happening), (⟨7, 0, 0, 0, 0, 0, ([] : List Int)⟩ : Happening), (⟨10, 0, 0, 0, 0, 0, ([] : List Int)⟩ : Happening)]) [RdL NHap.E x3 [(Z0, (⟨6, 0, 0, 0, 0, 0, ([] : List Int)⟩ : Happening)), (x2, (⟨5, 0, 0, 0, 0, 0, [0]⟩ : Happening)), (Z0, (⟨1, 0, 0, 3, 0, 0, ([] : List Int)⟩ : Happening)), (Z0, (⟨7, 0, 0, 0, 0, 0, ([] : List Int)⟩ : Happening)), (Z0, (⟨10, 0, 0, 0, 0, 0, ([] : List Int)⟩ : Happening))], RdL EInt Z0 ([] : List Int), RdL EInt x2 [0], RdL EInt Z0 ([] : List Int), RdL EInt Z0 ([] : List Int), RdL EInt Z0 ([] : List Int)] Sm (fun M w h => RdN.of NHap (hs := [(Z0, (⟨6, 0, 0, 0, 0, 0, ([] : List Int)⟩ : Happening)), (x2, (⟨5, 0, 0, 0, 0, 0, [0]⟩ : Happening)), (Z0, (⟨1, 0, 0, 3, 0, 0, ([] : List Int)⟩ : Happening)), (Z0, (⟨7, 0, 0, 0, 0, 0, ([] : List Int)⟩ : Happening)), (Z0, (⟨10, 0, 0, 0, 0, 0, ([] : List Int)⟩ : Happening))]) rfl (h _ (.head _)) (aF (eC Sm h) (aF (eC Sm h) (aF (eC Sm h) (aF (eC Sm h) (aF (eC Sm h) (fun p hp => by cases hp))))))) ?_
 refine Ck (oM x1.1 x1.2.1 x1.2.2.1 x1.2.2.2.1 x1.2.2.2.2.1 x1.2.2.2.2.2.1 x1.2.2.2.2.2.2 bU x3 [(⟨6, 0, 0, 0, 0, 0, ([] : List Int)⟩ : Happening), (⟨5, 0, 0, 0, 0, 0, [0]⟩ : Happening), (⟨1, 0, 0, 3, 0, 0, ([] : List Int)⟩ : Happening), (⟨7, 0, 0, 0, 0, 0, ([] : List Int)⟩ : Happening), (⟨10, 0, 0, 0, 0, 0, ([] : List Int)⟩ : Happening)]) fun x4 => ?_
 generalize hS1 : (cJ bU [(⟨6, 0, 0, 0, 0, 0, ([] : List Int)⟩ : Happening), (⟨5, 0, 0, 0, 0, 0, [0]⟩ : Happening), (⟨1, 0, 0, 3, 0, 0, ([] : List Int)⟩ : Happening), (⟨7, 0, 0, 0, 0, 0, ([] : List Int)⟩ : Happening), (⟨10, 0, 0, 0, 0, 0, ([] : List Int)⟩ : Happening)]) = S1
 have hf := Ri f8.eq_1
 try rw [hS1] at hf
 refine AlT fun g1 => ?_
 refine Ck (lM x4.1 x4.2.1 x4.2.2.1 x4.2.2.2.1 x4.2.2.2.2.1 x4.2.2.2.2.2.1 x4.2.2.2.2.2.2.1 S1.1) fun x5 => ?_
 refine Ck (iq x4.1 x4.2.1 x4.2.2.1 x4.2.2.2.1 x4.2.2.2.2.1 x4.2.2.2.2.2.1 x4.2.2.2.2.2.2.1 S1.1 2 0) fun x6 => ?_
 refine AlT fun g2 => ?_
 refine Ck (iq x4.1 x4.2.1 x4.2.2.1 x4.2.2.2.1 x4.2.2.2.2.1 x4.2.2.2.2.2.1 x4.2.2.2.2.2.2.1 S1.1 3 0) fun x7 => ?_
 refine AlT fun g3 => ?_
 refine Ck (iq x4.1 x4.2.1 x4.2.2.1 x4.2.2.2.1 x4.2.2.2.2.1 x4.2.2.2.2.2.1 x4.2.2.2.2.2.2.1 S1.1 4 0) fun x8 => ?_
 refine AlT fun g4 => ?_
 refine Cy (fun hG_ => gX x4.2.2.2.2.2.2.2 S1.2.1 _ _ _ fo Kr (fun a0_ => j6 a0_)) ?_
 refine Tx ?_
 refine Sg Gz (Xi EOp 0) ?_
 refine Sg Gz Xf ?_
 refine Sg Gz (X1 EOp) ?_
 exact Ru
def bp (ok1 : Wld → Bool) : List Happening → Wld → (Wld × Bool)
 | [], w1 => (w1, true)
 | pn1 :: rn1, w1 => (bif ((bV w1 pn1).2 == 0) then (bif (!(ok1 (bV w1 pn1).1)) then ((bV w1 pn1).1, false) else (bp ok1 rn1 (bV w1 pn1).1)) else (bp ok1 rn1 w1))
def aQ (l1 : List Happening) (ok1 : Wld → Bool) : Wld × Bool :=
 (bp ok1 (l1.take (if 80 < (l1.length : Int) then 80 else (l1.length : Int)).toNat) bU)
theorem j7 (y1 : SlV) (l1 : List Happening) (f1 : Nat) (caps1 : List Value) (pre1 : List Pred) [StabL pre1] (ok1 : Wld → Bool) (hfb1 : tab.fnb f1 = true) (hfn1 : ∀ (z0a_ : SlV) (z0b_ : SlV) (z0c_ : SlV) (z0d_ : SlV) (z0e_ : SlV) (z0f_ : SlV) (z0g_ : SlV) (a0_ : Wld), Does Tryz.prog f1 ([.agg ⟨cW z0a_ z0b_ z0c_ z0d_ z0e_ z0f_ z0g_ a0_⟩] ++ caps1) (RdL EStep z0a_ a0_.h.h.l :: RdL EPlace z0b_ a0_.h.h.t :: RdN NPeer z0c_ a0_.h.peers :: RdL EByte z0d_ a0_.d.safe :: RdL EByte z0e_ a0_.d.wait :: RdN NClient z0f_ a0_.c :: RdN NMail z0g_ a0_.mail :: pre1) (fun (_ : Unit) => .bool (ok1 a0_)) (fun _ => [])) : Does Tryz.prog 18 [y1.val l1.length, .func (.func f1) #[] ⟨caps1⟩] (RdN NHap y1 l1 :: LibP Tryz.prog :: pre1) (fun (X : SlV × SlV × SlV × SlV × SlV × SlV × SlV) => .tuple #[.agg ⟨cW X.1 X.2.1 X.2.2.1 X.2.2.2.1 X.2.2.2.2.1 X.2.2.2.2.2.1 X.2.2.2.2.2.2 (aQ l1 ok1).1⟩, .bool (aQ l1 ok1).2]) (fun X => [RdL EStep X.1 (aQ l1 ok1).1.h.h.l, RdL EPlace X.2.1 (aQ l1 ok1).1.h.h.t, RdN NPeer X.2.2.1 (aQ l1 ok1).1.h.peers, RdL EByte X.2.2.2.1 (aQ l1 ok1).1.d.safe, RdL EByte X.2.2.2.2.1 (aQ l1 ok1).1.d.wait, RdN NClient X.2.2.2.2.2.1 (aQ l1 ok1).1.c, RdN NMail X.2.2.2.2.2.2 (aQ l1 ok1).1.mail]) := by
 refine Dp aK Tryz.func18 Tryz.ntmps18 Tryz.results18 fun C => ?_
 refine dx (φ := l1.length * 72 ≤ 140737488355328) [RdN NHap y1 l1] Sf (fun M w h => (allF1 h).len) fun hlen1 => ?_
 refine AlT fun g1 => ?_
 refine Ck (lC ) fun x1 => ?_
 refine AlT fun g2 => ?_
 refine Sy Tz (q_min rfl rfl Zf rfl Zf) ?_
 refine Sq (rv NHap (if 80 < (l1.length : Int) then 80 else (l1.length : Int)).toNat rfl rfl Zf rfl Zf rfl rfl Mm Zo Zo) ?_
 refine dU (F := RdN NHap y1 (l1.take (if 80 < (l1.length : Int) then 80 else (l1.length : Int)).toNat)) [RdN NHap y1 l1] Sf (fun M w h => (allF1 h).take _) ?_
 refine Tx ?_
 refine dx (φ := (l1.take (if 80 < (l1.length : Int) then 80 else (l1.length : Int)).toNat).length * 72 ≤ 140737488355328) [RdN NHap y1 (l1.take (if 80 < (l1.length : Int) then 80 else (l1.length : Int)).toNat)] Sf (fun M w h => (allF1 h).len) fun hlen2 => ?_
 refine Lq (Nat × Wld × SlV × SlV × SlV × SlV × SlV × SlV × SlV) [1,4,5,6,16,17] [false, true] (fun ⟨n1, w1, x2, x3, x4, x5, x6, x7, x8⟩ => ⟨[(18, .v (.int .i64 (n1 : Int)))], [⟨g2, 37, cW x2 x3 x4 x5 x6 x7 x8 w1⟩], [], [RdL EStep x2 w1.h.h.l, RdL EPlace x3 w1.h.h.t, RdN NPeer x4 w1.h.peers, RdL EByte x5 w1.d.safe, RdL EByte x6 w1.d.wait, RdN NClient x7 w1.c, RdN NMail x8 w1.mail], (n1 ≤ (l1.take (if 80 < (l1.length : Int) then 80 else (l1.length : Int)).toNat).length) ∧ (bp ok1 ((l1.take (if 80 < (l1.length : Int) then 80 else (l1.length : Int)).toNat).drop n1) w1) = (aQ l1 ok1), (l1.take (if 80 < (l1.length : Int) then 80 else (l1.length : Int)).toNat).length - n1⟩) ⟨0, bU, x1.1, x1.2.1, x1.2.2.1, x1.2.2.2.1, x1.2.2.2.2.1, x1.2.2.2.2.2.1, x1.2.2.2.2.2.2⟩ ⟨Nat.zero_le _, (by simp only [aQ, Cf] : (aQ l1 ok1) = (bp ok1 (l1.take (if 80 < (l1.length : Int) then 80 else (l1.length : Int)).toNat) bU)).symm⟩ ?_
 rintro ⟨n1, w1, x2, x3, x4, x5, x6, x7, x8⟩ ⟨hkn1, hf1⟩
 simp only [Lc]
 refine Cu (fun hlt0 => ?_) fun hge0 => ?_
 ·refine Tx ?_
  refine fl NHap (X := y1) (l := (l1.take (if 80 < (l1.length : Int) then 80 else (l1.length : Int)).toNat)) Mm fun (γ1 : Nat → SlV) => ?_
  refine Sq (Xn NHap n1) ?_
  refine Sq (q_is (v' := .agg ⟨cA (γ1 n1) (gt (l1.take (if 80 < (l1.length : Int) then 80 else (l1.length : Int)).toNat) n1)⟩) (fY NHap γ1 rfl rfl Zf rfl rfl Mm (fun _ => by first | assumption | omega)) rfl) ?_
  refine Fg NHap γ1 (l1.take (if 80 < (l1.length : Int) then 80 else (l1.length : Int)).toNat) n1 0 ?_
  refine AlT fun g3 => ?_
  refine Ck (l4 x2 x3 x4 x5 x6 x7 x8 w1 (γ1 n1) (gt (l1.take (if 80 < (l1.length : Int) then 80 else (l1.length : Int)).toNat) n1)) fun x9 => ?_
  generalize hS1 : (bV w1 (gt (l1.take (if 80 < (l1.length : Int) then 80 else (l1.length : Int)).toNat) n1)) = S1
  have hf := Ri hf1.symm
  rw [bd hlt0, bp] at hf
  try rw [hS1] at hf
  refine AlT fun g4 => ?_
  refine Ce hf (fun hc2 hc2p hf => ?_) fun hc2 hc2p hf => ?_
  ·refine Tx ?_
   refine gv (hfn1 x9.1 x9.2.1 x9.2.2.1 x9.2.2.2.1 x9.2.2.2.2.1 x9.2.2.2.2.2.1 x9.2.2.2.2.2.2 S1.1) .sq (al rfl) rfl rfl rfl rfl rfl (by assumption) rfl rfl rfl Sf ?_
   intro _
   refine Ch hf (fun hc3 hf => ?_) fun hc3 hf => ?_
   ·refine Tx ?_
    refine di ?_
    rw [hf.to]
    exact ⟨⟨x9.1, x9.2.1, x9.2.2.1, x9.2.2.2.1, x9.2.2.2.2.1, x9.2.2.2.2.2.1, x9.2.2.2.2.2.2⟩, _, (.cons (.agg rfl rfl Mm rfl) (.cons (.tmp rfl) .nil)), rfl, Sf, .nil _, .nil _⟩
   ·refine Tt ?_
    refine ⟨⟨(n1 + 1), S1.1, x9.1, x9.2.1, x9.2.2.1, x9.2.2.2.1, x9.2.2.2.2.1, x9.2.2.2.2.2.1, x9.2.2.2.2.2.2⟩, ⟨hlt0, hf.symm⟩, Oo, Le5⟩
  ·refine Tt ?_
   refine ⟨⟨(n1 + 1), w1, x2, x3, x4, x5, x6, x7, x8⟩, ⟨hlt0, hf.symm⟩, Oo, Le5⟩
 ·refine Tx ?_
  have hf := Ri hf1.symm
  rw [List.drop_of_length_le hge0, bp] at hf
  refine di ?_
  rw [hf.to]
  exact ⟨⟨x2, x3, x4, x5, x6, x7, x8⟩, _, (.cons (.agg rfl rfl Mm rfl) (.cons (.tmp rfl) .nil)), rfl, Sf, .nil _, .nil _⟩
end Go.Proofs.YtkjccbdeaflekaaGreatDoor

namespace Go.Proofs.YtkjccbdeaflekaaGreatDoor
open Go Go.Proofs.YtkjccbdeaflekaaGreatDoor.Fw Go.Proofs
theorem tS : f8 = true := by decide +kernel
theorem New_W : IsW bU [] := by
 obtain ⟨l, h⟩ := (cj _).1 wC
 exact ⟨h.three, h.mail, (fun _ h => by cases h), by simp, mW (l := []) (fun _ h => by cases h) (by simp), fun _ => ⟨rfl, rfl⟩, (fun hd => by cases hd), h.cli⟩
theorem jp (ok : Wld → Bool) (I : Wld → List Rec → Prop) (step : ∀ w l x w' l', IsW w l → I w l → Hap w l x w' l' → I w' l') (hok : ∀ w l, IsW w l → I w l → ok w = true) :
  ∀ (r : List Happening) (w : Wld) (l : List Rec), IsW w l → I w l → (bp ok r w).2 = true
 | [], w, l, _, _ => rfl
 | x :: r, w, l, h, hI => by
  rw [bp]
  cases h1 : ((bV w x).2 == 0) with
  | false => exact jp ok I step hok r w l h hI
  | true =>
   obtain ⟨b1, b2, b3⟩ := ta (eq_of_beq h1)
   obtain ⟨l', hp⟩ := jH h b2
   have hw' := hp.keeps h
   have hI' := step _ _ _ _ _ h hI hp
   rw [b3]
   simp only [hok _ _ hw' hI', Bool.not_true, cond_true, cond_false]
   exact jp ok I step hok r _ l' hw' hI'
theorem rz {ok : Wld → Bool} (I : Wld → List Rec → Prop) (h0 : I bU []) (step : ∀ w l x w' l', IsW w l → I w l → Hap w l x w' l' → I w' l') (hok : ∀ w l, IsW w l → I w l → ok w = true) (l : List Happening) :
  (aQ l ok).2 = true := jp ok I step hok _ _ _ New_W h0
theorem kv : ∀ (a b : List Rec) (h : Hub), (bj (a ++ b) h.h.l h.h.t h.version h.peers).2 = 0 → (bj a h.h.l h.h.t h.version h.peers).2 = 0
 | [], b, h, _ => rfl
 | q :: a, b, h, h0 => by
  rw [List.cons_append, bj] at h0
  rw [bj]
  have he : (⟨⟨h.h.l, h.h.t⟩, h.version, h.peers⟩ : Hub) = h := rfl
  simp only [he] at h0 ⊢
  cases h1 : ((aB h q).2 != 0) with
  | true => rw [h1, cond_true] at h0; simp only at h0; rw [h0] at h1; cases h1
  | false =>
   rw [h1, cond_false] at h0
   rw [cond_false]
   exact kv a b (aB h q).1 h0
theorem qc {l : List Rec} (h : (aq l).2 = 0) (n : Nat) : (aq (l.take n)).2 = 0 := by
 have hr := oD h
 have h1 : (bj (l.take n ++ l.drop n) bH.h.l bH.h.t bH.version bH.peers).2 = 0 := by rw [List.take_append_drop]; exact hr.2.1
 have h2 := kv (l.take n) (l.drop n) bH h1
 unfold aq
 have : decide (((l.take n).length : Int) > 60) = false := by
  have h60 := hr.1
  simp only [List.length_take, decide_eq_false_iff_not]; omega
 rw [this, cond_false]
 exact h2
def LogOk (l : List Rec) : Prop := (aq l).2 = 0
theorem Hap.log {w w' : Wld} {l l' : List Rec} {x : Happening} (h : IsW w l) (hp : Hap w l x w' l') (hl : LogOk l) : LogOk l' := by
 have key : ∀ r, w.up = true → (aB w.h r).2 = 0 → LogOk (l ++ [r]) := fun r hu h0 => by
  have h2 := ny h0
  have h3 := h.hub.2 hu
  have := iZ (h.up hu).2 h0 (by have := h.sixty; omega)
  unfold LogOk; rw [this]
 cases hp with
 | got _ _ _ _ _ hu h0 => exact key _ hu h0
 | began _ _ hu h0 _ => exact key _ hu h0
 | roots _ _ hu h0 => exact key _ hu h0
 | hear _ _ _ _ _ _ => exact hl
 | late _ _ _ _ _ _ _ => exact hl
 | lose _ _ => exact hl
 | crash _ _ => exact hl
 | boot _ _ _ => exact hl
 | move _ _ _ => exact hl
 | again _ _ _ => exact hl
 | shown _ _ _ _ _ => exact hl
theorem Hap.grows {w w' : Wld} {l l' : List Rec} {x : Happening} (hp : Hap w l x w' l') : l' = l ∨ ∃ r, l' = l ++ [r] ∧ w.up = true ∧ (aB w.h r).2 = 0 ∧ w'.h = (aB w.h r).1 := by
 cases hp with
 | got _ _ _ _ _ hu h0 => exact .inr ⟨_, rfl, hu, h0, rfl⟩
 | began _ _ hu h0 _ => exact .inr ⟨_, rfl, hu, h0, rfl⟩
 | roots _ _ hu h0 => exact .inr ⟨_, rfl, hu, h0, rfl⟩
 | hear _ _ _ _ _ _ => exact .inl rfl
 | late _ _ _ _ _ _ _ => exact .inl rfl
 | lose _ _ => exact .inl rfl
 | crash _ _ => exact .inl rfl
 | boot _ _ _ => exact .inl rfl
 | move _ _ _ => exact .inl rfl
 | again _ _ _ => exact .inl rfl
 | shown _ _ _ _ _ => exact .inl rfl
theorem dS {w : Wld} {l : List Rec} (h : IsW w l) {j : Nat} (hj : j < 3) (c : Client) (k : Nat) : gt (w.c.set j c) k = if k = j then c else gt w.c k := by
 by_cases hk : k = j
 ·subst hk; rw [if_pos rfl]; simp [gt, List.getD_eq_getElem?_getD, h.three, hj]
 ·rw [if_neg hk]; simp [gt, List.getD_eq_getElem?_getD, List.getElem?_set_ne (Ne.symm hk)]
theorem iB {l : List Mail} {x : Happening} {m : Mail} (h : m ∈ kV l x) : m ∈ l := by
 unfold kV at h
 cases hx : (x.kind == 8) with
 | true => rw [hx] at h; exact h
 | false =>
  rw [hx, cond_false] at h
  rcases List.mem_append.1 h with h | h
  ·exact List.mem_of_mem_take h
  ·exact List.mem_of_mem_drop h
theorem fJ {l : List Mail} {p m : Mail} (h : m ∈ posted l p) : m ∈ l ∨ m = p := by
 unfold posted at h
 split at h
 ·rcases List.mem_append.1 h with h | h
  ·exact .inl h
  ·exact .inr (List.mem_singleton.1 h)
 ·exact .inl h
def opsOf (l : List Rec) : List Op := (l.filter (fun r => r.kind == 1)).map Rec.o
theorem ed (l : List Rec) (r : Rec) : opsOf (l ++ [r]) = opsOf l ++ (bif r.kind == 1 then [r.o] else []) := by
 unfold opsOf
 rw [List.filter_append, List.map_append]
 cases h : (r.kind == 1) <;> simp [h]
abbrev peer (l : List Rec) (k : Nat) : Peer := gt (aq l).1.peers k
theorem eR {w : Wld} {l : List Rec} (h : IsW w l) (hu : w.up = true) (k : Nat) : peer l k = gt w.h.peers k := by
 show gt (aq l).1.peers k = _; rw [(h.up hu).2]
theorem kU {w : Wld} {l : List Rec} (h : IsW w l) (hu : w.up = true) {r : Rec} (h0 : (aB w.h r).2 = 0) : (aB (aq l).1 r).2 = 0 ∧ l.length < 60 ∧ ∀ k, peer (l ++ [r]) k = gt (aB w.h r).1.peers k := by
 have h2 := ny h0
 have h3 := h.hub.2 hu
 have h4 := h.sixty
 have h5 : l.length < 60 := by omega
 refine ⟨by rw [(h.up hu).2]; exact h0, h5, fun k => ?_⟩
 show gt (aq (l ++ [r])).1.peers k = _
 rw [iZ (h.up hu).2 h0 h5]
inductive Seqs : Nat → List Op → Nat → Prop
 | nil (n : Nat) : Seqs n [] n
 | cons {n m : Nat} {o : Op} {l : List Op} (h : o.seq = (n : Int) + 1) (hr : Seqs (n + 1) l m) : Seqs n (o :: l) m
theorem Seqs.snoc {n m : Nat} {l : List Op} (h : Seqs n l m) {o : Op} (ho : o.seq = (m : Int) + 1) : Seqs n (l ++ [o]) (m + 1) := by
 induction h with
 | nil n => exact .cons ho (.nil _)
 | cons h _ ih => exact .cons h (ih ho)
abbrev byWho (k : Nat) (life : Int) (o : Op) : Bool := (o.who == (k : Int)) && (o.life == life)
structure LogIn (l : List Rec) : Prop where
 ok : LogOk l
 seqs : ∀ k, k < 3 → ∃ m : Nat, (peer l k).seq = (m : Int) ∧ Seqs 0 ((opsOf l).filter (byWho k (peer l k).life)) m
 life : ∀ o ∈ opsOf l, ∀ k : Nat, k < 3 → o.who = (k : Int) → o.life ≤ (peer l k).life
theorem LogIn.grow {l : List Rec} (hi : LogIn l) (h60 : l.length < 60) {r : Rec} (h0 : (aB (aq l).1 r).2 = 0) : LogIn (l ++ [r]) := by
 have hR : aq l = ((aq l).1, 0) := Prod.ext rfl hi.ok
 have hs := iZ hR h0 h60
 have hH := (lz hi.ok).1
 have hn := lq h0
 have hw := nx hn
 have hlog : LogOk (l ++ [r]) := by unfold LogOk; rw [hs]
 have hp : ∀ k, peer (l ++ [r]) k = gt (aB (aq l).1 r).1.peers k := fun k => by show gt (aq (l ++ [r])).1.peers k = _; rw [hs]
 rcases iA h0 with ⟨hk, a1, a2, a3, a4⟩ | ⟨hk, a1, a4⟩ | ⟨hk, a4⟩
 ·have hwr := hw.1 hk
  have ho : opsOf (l ++ [r]) = opsOf l ++ [r.o] := by rw [ed, hk]; rfl
  have hpk : ∀ k, peer (l ++ [r]) k = if k = r.o.who.toNat then ⟨(peer l k).life, r.o.seq, (peer l k).roots⟩ else peer l k := fun k => by
   rw [hp, a4]
   simp only
   rw [f3 (by rw [hH.three]; omega)]
   by_cases hkk : k = r.o.who.toNat
   ·rw [if_pos hkk, if_pos hkk, hkk]
   ·rw [if_neg hkk, if_neg hkk]
  refine ⟨hlog, fun k hk3 => ?_, fun o hm k hk3 hok => ?_⟩
  ·obtain ⟨m, m1, m2⟩ := hi.seqs k hk3
   by_cases hkk : k = r.o.who.toNat
   ·have e1 : peer (l ++ [r]) k = ⟨(peer l k).life, r.o.seq, (peer l k).roots⟩ := by rw [hpk, if_pos hkk]
    have e2 : byWho k (peer l k).life r.o = true := by
     simp only [byWho, Bool.and_eq_true, beq_iff_eq]
     exact ⟨by omega, by rw [hkk]; exact a1.symm⟩
    have e3 : r.o.seq = (m : Int) + 1 := by rw [← m1, hkk]; exact a2.symm
    refine ⟨m + 1, by rw [e1]; simp only; omega, ?_⟩
    rw [e1, ho, List.filter_append, List.filter_cons_of_pos e2, List.filter_nil]
    exact m2.snoc e3
   ·have e1 : peer (l ++ [r]) k = peer l k := by rw [hpk, if_neg hkk]
    have e2 : ¬ byWho k (peer l k).life r.o = true := by
     simp only [byWho, Bool.and_eq_true, beq_iff_eq]
     intro hh; exact hkk (by omega)
    refine ⟨m, by rw [e1]; exact m1, ?_⟩
    rw [e1, ho, List.filter_append, List.filter_cons_of_neg e2, List.filter_nil, List.append_nil]
    exact m2
  ·rw [ho] at hm
   rw [hpk]
   have : (if k = r.o.who.toNat then (⟨(peer l k).life, r.o.seq, (peer l k).roots⟩ : Peer) else peer l k).life = (peer l k).life := by split <;> rfl
   rw [this]
   rcases List.mem_append.1 hm with hm | hm
   ·exact hi.life o hm k hk3 hok
   ·rw [List.mem_singleton] at hm
    subst hm
    have : k = r.o.who.toNat := by omega
    rw [this]; exact Int.le_of_eq a1.symm
 ·have hwr := hw.2.1 (by omega)
  have a1' : r.life = (peer l r.who.toNat).life + 1 := a1
  have ho : opsOf (l ++ [r]) = opsOf l := by rw [ed, hk]; simp
  have hpk : ∀ k, peer (l ++ [r]) k = if k = r.who.toNat then ⟨r.life, 0, []⟩ else peer l k := fun k => by
   rw [hp, a4]
   simp only
   rw [f3 (by rw [hH.three]; omega)]
  refine ⟨hlog, fun k hk3 => ?_, fun o hm k hk3 hok => ?_⟩
  ·by_cases hkk : k = r.who.toNat
   ·have e1 : peer (l ++ [r]) k = ⟨r.life, 0, []⟩ := by rw [hpk, if_pos hkk]
    refine ⟨0, by rw [e1]; rfl, ?_⟩
    rw [e1, ho]
    have : (opsOf l).filter (byWho k r.life) = [] := by
     rw [List.filter_eq_nil_iff]
     intro o hm
     simp only [byWho, Bool.and_eq_true, beq_iff_eq]
     intro hh
     have := hi.life o hm k hk3 hh.1
     rw [hkk] at this
     omega
    rw [this]; exact .nil 0
   ·have e1 : peer (l ++ [r]) k = peer l k := by rw [hpk, if_neg hkk]
    rw [e1, ho]; exact hi.seqs k hk3
  ·rw [ho] at hm
   have := hi.life o hm k hk3 hok
   rw [hpk]
   by_cases hkk : k = r.who.toNat
   ·rw [if_pos hkk]; simp only; rw [hkk] at this; omega
   ·rw [if_neg hkk]; exact this
 ·have hwr := hw.2.1 (by omega)
  have ho : opsOf (l ++ [r]) = opsOf l := by rw [ed, hk]; simp
  have hpk : ∀ k, (peer (l ++ [r]) k).life = (peer l k).life ∧ (peer (l ++ [r]) k).seq = (peer l k).seq := fun k => by
   rw [hp, a4]
   simp only
   rw [f3 (by rw [hH.three]; omega)]
   by_cases hkk : k = r.who.toNat
   ·rw [if_pos hkk, hkk]; exact ⟨rfl, rfl⟩
   ·rw [if_neg hkk]; exact ⟨rfl, rfl⟩
  refine ⟨hlog, fun k hk3 => ?_, fun o hm k hk3 hok => ?_⟩
  ·rw [(hpk k).1, (hpk k).2, ho]; exact hi.seqs k hk3
  ·rw [(hpk k).1]; rw [ho] at hm; exact hi.life o hm k hk3 hok
structure CliIn (l : List Rec) (k : Nat) (c : Client) : Prop where
 life : c.life = (peer l k).life
 hi : (peer l k).seq ≤ c.seq
 lo : c.seq - (c.pending.length : Int) ≤ (peer l k).seq
 pend : ∀ o ∈ c.pending, o.seq ≤ (peer l k).seq → o ∈ opsOf l
structure oI (l : List Rec) (c : Client) (k : Nat) (m : Mail) : Prop where
 op : m.kind = 1 → m.o.life ≤ c.life ∧ (m.o.life = c.life → m.o.seq ≤ c.seq ∧ (c.seq - (c.pending.length : Int) < m.o.seq → m.o ∈ c.pending))
 tells : m.kind ≠ 1 → m.life ≤ (peer l k).life ∧ (m.life = (peer l k).life → m.seq ≤ (peer l k).seq)
structure rf (w : Wld) (l : List Rec) : Prop where
 log : LogIn l
 cli : ∀ k, k < 3 → CliIn l k (gt w.c k)
 mail : ∀ m ∈ w.mail, oI l (gt w.c m.who.toNat) m.who.toNat m
theorem j0 {c : Client} {me : Int} (h : IsCli c me) {o : Op} (ho : o ∈ c.pending) : ∃ i, i < c.pending.length ∧ gt c.pending i = o ∧ o.seq = c.seq - (c.pending.length : Int) + 1 + (i : Int) ∧ o.life = c.life ∧ o.who = me := by
 obtain ⟨i, hi, rfl⟩ := List.getElem_of_mem ho
 have hp := h.pend i hi
 exact ⟨i, hi, gt_eq hi, by rw [← gt_eq hi]; exact hp.seq, by rw [← gt_eq hi]; exact hp.life, by rw [← gt_eq hi]; exact hp.who⟩
theorem su {m : Mail} (h : bI m = 0) (hk : m.kind = 1) : m.o.who = m.who := by
 rw [ja, fk (by decide), fk (by decide), show (m.kind == 1) = true by rw [hk]; rfl, cond_true, fk (by decide), fk (by decide)] at h
 exact bne_eq_false_iff_eq.1 h.2.2.2.1
theorem CliIn.same {l l' : List Rec} {k : Nat} {c : Client} (h : CliIn l k c) (h1 : (peer l' k).life = (peer l k).life) (h2 : (peer l' k).seq = (peer l k).seq) (h3 : ∀ o ∈ opsOf l, o ∈ opsOf l') : CliIn l' k c :=
 ⟨by rw [h1]; exact h.life, by rw [h2]; exact h.hi, by rw [h2]; exact h.lo, fun o ho hs => h3 o (h.pend o ho (by rw [← h2]; exact hs))⟩
theorem oI.same {l l' : List Rec} {k : Nat} {c : Client} {m : Mail} (h : oI l c k m) (h1 : (peer l' k).life = (peer l k).life) (h2 : (peer l k).seq ≤ (peer l' k).seq) : oI l' c k m :=
 ⟨h.op, fun hk => by
  obtain ⟨a, b⟩ := h.tells hk
  rw [h1]; exact ⟨a, fun e => Int.le_trans (b e) h2⟩⟩
theorem rf.step {w w' : Wld} {l l' : List Rec} {x : Happening} (h : IsW w l) (hi : rf w l) (hp : Hap w l x w' l') : rf w' l' := by
 have hck : ∀ m ∈ w.mail, bI m = 0 := ((cL _).1 h.mail).2
 cases hp with
 | hear hx hn m hm hk hh =>
  have hmem : m ∈ w.mail := by rw [hm]; exact eM (by omega)
  have hw : 0 ≤ m.who ∧ m.who < 3 := em (hck _ hmem)
  have hK : m.who.toNat < 3 := by omega
  have hcl := hi.cli _ hK
  obtain ⟨hc, hs, _, _, h1⟩ := mD hh
  have key : ∃ n, n ≤ (gt w.c m.who.toNat).pending.length ∧ (aC (gt w.c m.who.toNat) m.who m).1.pending = (gt w.c m.who.toNat).pending.drop n ∧ (aC (gt w.c m.who.toNat) m.who m).1.life = (gt w.c m.who.toNat).life ∧
    (aC (gt w.c m.who.toNat) m.who m).1.seq = (gt w.c m.who.toNat).seq ∧ (n = 0 ∨ (gt w.c m.who.toNat).seq - ((gt w.c m.who.toNat).pending.length : Int) + (n : Int) ≤ (peer l m.who.toNat).seq) := by
   rcases h1 with h1 | ⟨v, hv, hst, h1⟩
   ·rw [h1]; exact ⟨0, Nat.zero_le _, by simp, rfl, rfl, .inl rfl⟩
   ·obtain ⟨_, n, n1, n2, n3⟩ := qP hc hs hst hv
    rw [h1]
    refine ⟨n, n1, n3, rfl, rfl, ?_⟩
    rcases Nat.eq_zero_or_pos n with hz | hz
    ·exact .inl hz
    ·right
     simp only [stale, Bool.or_eq_false_iff, bne_eq_false_iff_eq, decide_eq_false_iff_not] at hst
     have hseq := ((hi.mail m hmem).tells hk).2 (by rw [← hcl.life]; exact hst.1.1)
     have hlt : n - 1 < (gt w.c m.who.toNat).pending.length := by omega
     have hin : gt (gt w.c m.who.toNat).pending (n - 1) ∈ (gt w.c m.who.toNat).pending.take n := by
      rw [gt_eq hlt]
      exact List.mem_take_iff_getElem.2 ⟨n - 1, by omega, rfl⟩
     have h2 := n2 _ hin
     have h3 := (hc.pend (n - 1) hlt).seq
     omega
  obtain ⟨n, n1, n2, n3, n4, n5⟩ := key
  generalize hC : (aC (gt w.c m.who.toNat) m.who m).1 = C at *
  have hlen : C.pending.length = (gt w.c m.who.toNat).pending.length - n := by rw [n2, List.length_drop]
  have hlo := hcl.lo
  refine ⟨hi.log, fun k hk3 => ?_, fun q hq => ?_⟩
  ·show CliIn l k (gt (w.c.set _ _) k)
   rw [dS h hK]
   by_cases hkm : k = m.who.toNat
   ·rw [if_pos hkm, hkm]
    exact ⟨by rw [n3]; exact hcl.life, by rw [n4]; exact hcl.hi, by rw [n4, hlen]; omega, fun o ho => hcl.pend o (List.mem_of_mem_drop (by rw [← n2]; exact ho))⟩
   ·rw [if_neg hkm]; exact hi.cli k hk3
  ·have hq := hi.mail q (iB hq)
   show oI l (gt (w.c.set _ _) q.who.toNat) q.who.toNat q
   rw [dS h hK]
   by_cases hkm : q.who.toNat = m.who.toNat
   ·rw [if_pos hkm]
    rw [hkm] at hq ⊢
    refine ⟨fun hk1 => ?_, hq.tells⟩
    obtain ⟨a, b⟩ := hq.op hk1
    rw [n3, n4]
    refine ⟨a, fun e => ?_⟩
    obtain ⟨b1, b2⟩ := b e
    refine ⟨b1, fun hlt => ?_⟩
    have hin := b2 (by rw [hlen] at hlt; omega)
    obtain ⟨i, i1, i2, i3, _, _⟩ := j0 hc hin
    rw [n2, ← i2, gt_eq i1]
    rw [hlen] at hlt
    exact List.mem_drop_iff_getElem.2 ⟨i - n, by omega, by congr 1; omega⟩
   ·rw [if_neg hkm]; exact hq
 | got hx hn m hm hk hu h0 =>
  have hmem : m ∈ w.mail := by rw [hm]; exact eM (by omega)
  have hwm : 0 ≤ m.who ∧ m.who < 3 := em (hck _ hmem)
  have how := su (hck _ hmem) hk
  obtain ⟨g1, g2, g3⟩ := kU h hu h0
  have hK : m.who.toNat < 3 := by omega
  have hcl := hi.cli _ hK
  have ho : opsOf (l ++ [opRec m.o]) = opsOf l ++ [m.o] := by rw [ed]; rfl
  have hmono : ∀ o ∈ opsOf l, o ∈ opsOf (l ++ [opRec m.o]) := fun o h => by rw [ho]; exact List.mem_append_left _ h
  rcases iA h0 with ⟨_, a1, a2, a3, a4⟩ | ⟨hk2, _⟩ | ⟨hk2, _⟩
  ·simp only [how] at a1 a2 a4
   rw [← eR h hu] at a1 a2
   have hpk : ∀ k, (peer (l ++ [opRec m.o]) k).life = (peer l k).life ∧ (peer (l ++ [opRec m.o]) k).seq = if k = m.who.toNat then m.o.seq else (peer l k).seq := fun k => by
    rw [g3, a4]
    simp only
    rw [f3 (by rw [h.hub.1.three]; omega)]
    by_cases hkk : k = m.who.toNat
    ·rw [if_pos hkk, if_pos hkk, hkk, eR h hu]; exact ⟨rfl, rfl⟩
    ·rw [if_neg hkk, if_neg hkk, eR h hu]; exact ⟨rfl, rfl⟩
   have hpo := ((hi.mail m hmem).op hk).2 (by rw [hcl.life]; exact a1.symm)
   have hc := (bA _ _).1 (h.cli _ hK)
   have hlo := hcl.lo
   refine ⟨hi.log.grow g2 g1, fun k hk3 => ?_, fun q hq => ?_⟩
   ·by_cases hkk : k = m.who.toNat
    ·have e1 := (hpk k).1
     have e2 := (hpk k).2
     rw [if_pos hkk] at e2
     rw [hkk] at e1 e2 ⊢
     refine ⟨by rw [e1]; exact hcl.life, by rw [e2]; exact hpo.1, by rw [e2]; show (gt w.c m.who.toNat).seq - ((gt w.c m.who.toNat).pending.length : Int) ≤ m.o.seq; omega, fun q hq hs => ?_⟩
     rw [e2] at hs
     rw [ho]
     by_cases hle : q.seq ≤ (peer l m.who.toNat).seq
     ·exact List.mem_append_left _ (hcl.pend q hq hle)
     ·have hin := hpo.2 (by omega)
      obtain ⟨i, i1, i2, i3, _, _⟩ := j0 hc hin
      obtain ⟨j, j1, j2, j3, _, _⟩ := j0 hc hq
      have : i = j := by omega
      subst this
      rw [i2] at j2
      rw [← j2]
      exact List.mem_append_right _ (.head _)
    ·have e2 := (hpk k).2
     rw [if_neg hkk] at e2
     exact (hi.cli k hk3).same (hpk k).1 e2 hmono
   ·refine (hi.mail q (iB hq)).same (hpk _).1 ?_
    rw [(hpk _).2]
    split
    ·rename_i e; rw [e]; omega
    ·exact Int.le_refl _
  ·exact absurd (show (1 : Int) = 2 from hk2) (by decide)
  ·exact absurd (show (1 : Int) = 3 from hk2) (by decide)
 | late _ _ m _ _ _ _ => exact ⟨hi.log, hi.cli, fun q hq => hi.mail q (iB hq)⟩
 | lose _ _ =>
  refine ⟨hi.log, hi.cli, fun q hq => hi.mail q ?_⟩
  rcases List.mem_append.1 hq with hq | hq
  ·exact List.mem_of_mem_take hq
  ·exact List.mem_of_mem_drop hq
 | crash _ _ => exact ⟨hi.log, hi.cli, hi.mail⟩
 | boot _ _ _ => exact ⟨hi.log, hi.cli, hi.mail⟩
 | move _ hw h0 =>
  obtain ⟨hc, _, _, _, _, _, a7⟩ := lA h0
  have hK : x.who.toNat < 3 := by omega
  have hcl := hi.cli _ hK
  have hlo := hcl.lo
  have hhi := hcl.hi
  rw [a7]
  simp only
  have hlen : (fC (gt w.c x.who.toNat) ⟨(gt w.c x.who.toNat).time + 1, x.who, x.node, x.parent, x.name, (gt w.c x.who.toNat).life, (gt w.c x.who.toNat).seq + 1⟩).pending.length = (gt w.c x.who.toNat).pending.length + 1 := by simp [fC]
  refine ⟨hi.log, fun k hk3 => ?_, fun q hq => ?_⟩
  ·show CliIn l k (gt (w.c.set _ _) k)
   rw [dS h hK]
   by_cases hkm : k = x.who.toNat
   ·rw [if_pos hkm, hkm]
    refine ⟨hcl.life, ?_, ?_, fun q hq hs => ?_⟩
    ·show _ ≤ (gt w.c x.who.toNat).seq + 1; omega
    ·rw [hlen]; show (gt w.c x.who.toNat).seq + 1 - _ ≤ _; omega
    ·rcases List.mem_append.1 hq with hq | hq
     ·exact hcl.pend q hq hs
     ·rw [List.mem_singleton] at hq
      subst hq
      simp only at hs
      omega
   ·rw [if_neg hkm]; exact hi.cli k hk3
  ·show oI l (gt (w.c.set _ _) q.who.toNat) q.who.toNat q
   rw [dS h hK]
   rcases fJ hq with hq | rfl
   ·have hq := hi.mail q hq
    by_cases hkm : q.who.toNat = x.who.toNat
    ·rw [if_pos hkm]
     rw [hkm] at hq ⊢
     refine ⟨fun hk1 => ?_, hq.tells⟩
     obtain ⟨a, b⟩ := hq.op hk1
     refine ⟨a, fun e => ?_⟩
     obtain ⟨b1, b2⟩ := b e
     refine ⟨?_, fun hlt => ?_⟩
     ·show _ ≤ (gt w.c x.who.toNat).seq + 1; omega
     ·refine List.mem_append_left _ (b2 ?_)
      rw [hlen] at hlt
      have hlt : (gt w.c x.who.toNat).seq + 1 - (((gt w.c x.who.toNat).pending.length + 1 : Nat) : Int) < q.o.seq := hlt
      omega
    ·rw [if_neg hkm]; exact hq
   ·rw [if_pos (show (fA x.who _).who.toNat = x.who.toNat from rfl)]
    exact ⟨fun _ => ⟨Int.le_refl _, fun _ => ⟨Int.le_refl _, fun _ => List.mem_append_right _ (.head _)⟩⟩, fun hk => absurd rfl hk⟩
 | again _ hw hn =>
  have hK : x.who.toNat < 3 := by omega
  refine ⟨hi.log, hi.cli, fun q hq => ?_⟩
  rcases fJ hq with hq | rfl
  ·exact hi.mail q hq
  ·have hc := (bA _ _).1 (h.cli _ hK)
   have hin : gt (gt w.c x.who.toNat).pending x.n.toNat ∈ (gt w.c x.who.toNat).pending := eM (by omega)
   obtain ⟨i, i1, i2, i3, i4, _⟩ := j0 hc hin
   refine ⟨fun _ => ⟨Int.le_of_eq i4, fun _ => ⟨?_, fun _ => hin⟩⟩, fun hk => absurd rfl hk⟩
   show (gt (gt w.c x.who.toNat).pending x.n.toNat).seq ≤ (gt w.c x.who.toNat).seq
   omega
 | began _ hw hu h0 h1 =>
  obtain ⟨g1, g2, g3⟩ := kU h hu h0
  have hK : x.who.toNat < 3 := by omega
  have hcl := hi.cli _ hK
  have ho : opsOf (l ++ [fD w x.who]) = opsOf l := by rw [ed]; simp [fD]
  have hpk : ∀ k, peer (l ++ [fD w x.who]) k = if k = x.who.toNat then ⟨(peer l x.who.toNat).life + 1, 0, []⟩ else peer l k := fun k => by
   rcases iA h0 with ⟨hk2, _⟩ | ⟨_, _, a4⟩ | ⟨hk2, _⟩
   ·exact absurd (show (2 : Int) = 1 from hk2) (by decide)
   ·rw [g3, a4]
    simp only
    rw [f3 (by rw [h.hub.1.three]; omega), eR h hu, eR h hu]
   ·exact absurd (show (2 : Int) = 3 from hk2) (by decide)
  have hB := (li (k := 0) (by omega) h1).2
  rw [hB]
  refine ⟨hi.log.grow g2 g1, fun k hk3 => ?_, fun q hq => ?_⟩
  ·show CliIn _ k (gt (w.c.set _ _) k)
   rw [dS h hK]
   by_cases hkm : k = x.who.toNat
   ·rw [if_pos hkm]
    have e := hpk k
    rw [if_pos hkm] at e
    refine ⟨by rw [e, eR h hu], by rw [e]; exact Int.le_refl _, by rw [e]; simp, fun o ho => by cases ho⟩
   ·rw [if_neg hkm]
    have e := hpk k
    rw [if_neg hkm] at e
    exact (hi.cli k hk3).same (by rw [e]) (by rw [e]) (fun o h => by rw [ho]; exact h)
  ·have hq := hi.mail q hq
   show oI _ (gt (w.c.set _ _) q.who.toNat) q.who.toNat q
   rw [dS h hK]
   by_cases hkm : q.who.toNat = x.who.toNat
   ·rw [if_pos hkm]
    rw [hkm] at hq ⊢
    have e := hpk x.who.toNat
    rw [if_pos rfl] at e
    have hlf := hcl.life
    have hpu := eR h hu x.who.toNat
    refine ⟨fun hk1 => ?_, fun hk1 => ?_⟩
    ·have := (hq.op hk1).1
     have e5 : (gt w.h.peers x.who.toNat).life = (peer l x.who.toNat).life := by rw [hpu]
     exact ⟨by simp only; omega, fun e2 => by simp only at e2; omega⟩
    ·have := (hq.tells hk1).1
     rw [e]
     exact ⟨by simp only; omega, fun e2 => by simp only at e2; omega⟩
   ·rw [if_neg hkm]
    have e := hpk q.who.toNat
    rw [if_neg hkm] at e
    exact hq.same (by rw [e]) (by rw [e]; exact Int.le_refl _)
 | roots _ hw hu h0 =>
  obtain ⟨g1, g2, g3⟩ := kU h hu h0
  have ho : opsOf (l ++ [f7 x.who x.roots]) = opsOf l := by rw [ed]; simp [f7]
  have hpk : ∀ k, (peer (l ++ [f7 x.who x.roots]) k).life = (peer l k).life ∧ (peer (l ++ [f7 x.who x.roots]) k).seq = (peer l k).seq := fun k => by
   rcases iA h0 with ⟨hk2, _⟩ | ⟨hk2, _⟩ | ⟨_, a4⟩
   ·exact absurd (show (3 : Int) = 1 from hk2) (by decide)
   ·exact absurd (show (3 : Int) = 2 from hk2) (by decide)
   ·rw [g3, a4]
    simp only
    rw [f3 (by rw [h.hub.1.three]; omega), eR h hu]
    by_cases hkk : k = x.who.toNat
    ·rw [if_pos hkk, hkk]; exact ⟨rfl, rfl⟩
    ·rw [if_neg hkk]; exact ⟨rfl, rfl⟩
  exact ⟨hi.log.grow g2 g1, fun k hk3 => (hi.cli k hk3).same (hpk k).1 (hpk k).2 (fun o h => by rw [ho]; exact h), fun q hq => (hi.mail q hq).same (hpk _).1 (Int.le_of_eq (hpk _).2.symm)⟩
 | shown _ hw hu m hm =>
  refine ⟨hi.log, hi.cli, fun q hq => ?_⟩
  rcases fJ hq with hq | rfl
  ·exact hi.mail q hq
  ·have hpu := eR h hu x.who.toNat
   rcases hm.case with rfl | ⟨_, _, _, _, _, _, _, _, rfl⟩
   ·refine ⟨fun hk => absurd (show (2 : Int) = 1 from hk) (by decide), fun _ => ?_⟩
    show (gt w.h.peers x.who.toNat).life ≤ (peer l x.who.toNat).life ∧ (_ → (gt w.h.peers x.who.toNat).seq ≤ (peer l x.who.toNat).seq)
    rw [hpu]; exact ⟨Int.le_refl _, fun _ => Int.le_refl _⟩
   ·refine ⟨fun hk => absurd (show (3 : Int) = 1 from hk) (by decide), fun _ => ?_⟩
    show (gt w.h.peers x.who.toNat).life ≤ (peer l x.who.toNat).life ∧ (_ → (gt w.h.peers x.who.toNat).seq ≤ (peer l x.who.toNat).seq)
    rw [hpu]; exact ⟨Int.le_refl _, fun _ => Int.le_refl _⟩
def gi (l : List Rec) (v : Nat) (k : Nat) : View × Int := bR (aq (l.take v)).1.h.t (gt (aq (l.take v)).1.peers k).roots
theorem jX (l : List Rec) (r : Rec) {v : Nat} (h : v ≤ l.length) (k : Nat) : gi (l ++ [r]) v k = gi l v k := by
 unfold gi; rw [List.take_append_of_le_length h]
theorem lV {t : List Place} {roots : List Int} {v : View} (h : bR t roots = (v, 0)) : jj v := by
 obtain ⟨h1, h2, h3⟩ := Of_ok (by rw [h])
 rw [h] at h3
 have : v = iL t roots := congrArg Prod.fst h3
 rw [this]
 exact tW ((el _).1 h1) ((mz _).1 h2)
structure re (l : List Rec) (m : Mail) : Prop where
 view : m.kind = 2 → 0 ≤ m.version ∧ m.version ≤ (l.length : Int) ∧ gi l m.version.toNat m.who.toNat = (m.v, 0)
 delta : m.kind = 3 → 1 ≤ m.frm ∧ m.frm ≤ (l.length : Int) ∧ 0 ≤ m.version ∧ m.version ≤ (l.length : Int) ∧ ∃ u v, gi l m.frm.toNat m.who.toNat = (u, 0) ∧ gi l m.version.toNat m.who.toNat = (v, 0) ∧ u.roots = v.roots ∧ m.d = iW u v
theorem re.grow {l : List Rec} {m : Mail} (h : re l m) (r : Rec) : re (l ++ [r]) m where
 view hk := by
  obtain ⟨a, b, c⟩ := h.view hk
  exact ⟨a, by simp only [List.length_append]; omega, by rw [jX l r (by omega)]; exact c⟩
 delta hk := by
  obtain ⟨a, b, c, d, u, v, e1, e2, e3, e4⟩ := h.delta hk
  exact ⟨a, by simp only [List.length_append]; omega, c, by simp only [List.length_append]; omega, u, v, by rw [jX l r (by omega)]; exact e1, by rw [jX l r (by omega)]; exact e2, e3, e4⟩
structure sS (w : Wld) (l : List Rec) : Prop where
 log : LogOk l
 cli : ∀ k, k < 3 → (gt w.c k).version = 0 ∨ ((gt w.c k).version ≤ (l.length : Int) ∧ gi l (gt w.c k).version.toNat k = ((gt w.c k).v, 0))
 mail : ∀ m ∈ w.mail, re l m
theorem tK {c : Client} {me : Int} {m : Mail} (h : (aC c me m).2 = 0) : m.who = me ∧ ((aC c me m).1 = c ∨ (m.kind = 2 ∧ (aC c me m).1 = fj c m m.v) ∨
  (m.kind = 3 ∧ m.frm = c.version ∧ (aC c me m).1 = fj c m (bv c.v m.d).1)) := by
 obtain ⟨hc, hs, hw, hk, _⟩ := mD h
 have hme : m.who = me := by
  have := (Bool.or_eq_false_iff.1 hk).2
  simpa using this
 refine ⟨hme, ?_⟩
 rw [qf, (bA _ _).2 hc, hw, hk]
 simp only [bne_self_eq_false, cond_false]
 cases h4 : stale c m with
 | true => exact .inl rfl
 | false =>
 rw [cond_false]
 cases h5 : (m.kind == 3) with
 | false =>
  refine .inr (.inl ⟨?_, rfl⟩)
  have := beq_eq_false_iff_ne.1 h5
  have := hs.kind; omega
 | true =>
  rw [cond_true]
  cases h6 : (m.frm != c.version) with
  | true => exact .inl rfl
  | false =>
   rw [cond_false]
   cases h7 : ((bv c.v m.d).2 != 0) with
   | true =>
    rw [qf, (bA _ _).2 hc, hw, hk, h4, h5, h6, h7] at h
    simp only [bne_self_eq_false, cond_false, cond_true] at h
    rw [h] at h7; cases h7
   | false => exact .inr (.inr ⟨eq_of_beq h5, ai h6, rfl⟩)
theorem tV {w : Wld} {l : List Rec} (h : IsW w l) (hu : w.up = true) {who : Int} (h0 : (aV w.h who).2 = 0) : gi l l.length who.toNat = ((aV w.h who).1, 0) := by
 obtain ⟨_, _, _, _, h4⟩ := kh h0
 unfold gi
 rw [List.take_length, (h.up hu).2]
 simp only
 rw [← h4]
 exact Prod.ext rfl h0
theorem rq {w : Wld} {l : List Rec} {x : Happening} {m : Mail} (h : IsW w l) (hu : w.up = true) (hm : Shown w l x m) : re l m := by
 have hv := h.hub.2 hu
 have h1 := tV h hu hm.sees
 rcases hm.case with rfl | ⟨n0, n1, g, g1, g2, g3, g4, g5, rfl⟩
 ·refine ⟨fun _ => ⟨?_, ?_, ?_⟩, fun hk => absurd (show (2 : Int) = 3 from hk) (by decide)⟩
  ·show 0 ≤ w.h.version; omega
  ·show w.h.version ≤ _; omega
  ·show gi l w.h.version.toNat x.who.toNat = _
   rw [hv, Int.toNat_natCast]; exact h1
 ·refine ⟨fun hk => absurd (show (3 : Int) = 2 from hk) (by decide), fun _ => ?_⟩
  have hn : x.n ≠ 0 := by
   intro hn
   rw [hn] at g1
   have : g = bH := (congrArg Prod.fst g1).symm
   rw [this] at g2
   have hl := hm.life
   rw [← g2] at hl
   apply hl
   rcases (by have := kh hm.sees; omega : x.who.toNat = 0 ∨ x.who.toNat = 1 ∨ x.who.toNat = 2) with e | e | e <;> rw [e] <;> rfl
  have h2 : gi l x.n.toNat x.who.toNat = ((aV g x.who).1, 0) := by
   obtain ⟨_, _, _, _, e4⟩ := kh g4
   unfold gi
   rw [g1]
   simp only
   rw [← e4]
   exact Prod.ext rfl g4
  have hd : (aV g x.who).1.roots = (aV w.h x.who).1.roots := by
   rw [ou, (cy _).2 (lV h2), (cy _).2 (lV h1)] at g5
   simp only [bne_self_eq_false, cond_false] at g5
   cases hb : (!(decide ((aV g x.who).1.roots = (aV w.h x.who).1.roots))) with
   | true => rw [hb] at g5; cases g5
   | false => simpa using hb
  refine ⟨?_, ?_, ?_, ?_, (aV g x.who).1, (aV w.h x.who).1, h2, ?_, hd, ?_⟩
  ·show 1 ≤ x.n; omega
  ·show x.n ≤ _; omega
  ·show 0 ≤ w.h.version; omega
  ·show w.h.version ≤ _; omega
  ·show gi l w.h.version.toNat x.who.toNat = _
   rw [hv, Int.toNat_natCast]; exact h1
  ·show (du _ _).1 = _
   rw [rL (lV h2) (lV h1) hd]
theorem sS.step {w w' : Wld} {l l' : List Rec} {x : Happening} (h : IsW w l) (hi : sS w l) (hp : Hap w l x w' l') : sS w' l' := by
 have hlog := hp.log h hi.log
 have grow : ∀ r k, k < 3 → (gt w.c k).version = 0 ∨ ((gt w.c k).version ≤ ((l ++ [r]).length : Int) ∧ gi (l ++ [r]) (gt w.c k).version.toNat k = ((gt w.c k).v, 0)) := fun r k hk => by
  rcases hi.cli k hk with h1 | ⟨h1, h2⟩
  ·exact .inl h1
  ·exact .inr ⟨by simp only [List.length_append]; omega, by rw [jX l r (by omega)]; exact h2⟩
 cases hp with
 | hear hx hn m hm hk hh =>
  have hmem : m ∈ w.mail := by rw [hm]; exact eM (by omega)
  have ht := hi.mail m hmem
  obtain ⟨_, h3⟩ := tK hh
  have hw : 0 ≤ m.who ∧ m.who < 3 := em (((cL _).1 h.mail).2 _ hmem)
  refine ⟨hlog, fun k hk3 => ?_, fun q hq => hi.mail q (iB hq)⟩
  show (gt (w.c.set _ _) k).version = 0 ∨ ((gt (w.c.set _ _) k).version ≤ _ ∧ gi l (gt (w.c.set _ _) k).version.toNat k = ((gt (w.c.set _ _) k).v, 0))
  rw [dS h (by omega)]
  by_cases hkm : k = m.who.toNat
  ·rw [if_pos hkm]
   rcases h3 with h3 | ⟨k2, h3⟩ | ⟨k3, hf, h3⟩
   ·rw [h3, ← hkm]; exact hi.cli k hk3
   ·obtain ⟨a, b, c⟩ := ht.view k2
    rw [h3, hkm]
    exact .inr ⟨b, c⟩
   ·obtain ⟨a, b, c, d, u, v, e1, e2, e3, e4⟩ := ht.delta k3
    rw [h3, hkm]
    refine .inr ⟨d, ?_⟩
    show gi l m.version.toNat m.who.toNat = ((bv (gt w.c m.who.toNat).v m.d).1, 0)
    have hc : (gt w.c m.who.toNat).v = u := by
     rcases hi.cli m.who.toNat (by omega) with z | ⟨_, z⟩
     ·omega
     ·rw [← hf, e1] at z; exact (congrArg Prod.fst z).symm
    rw [e2, hc, e4, oX (lV e1) (lV e2) e3]
  ·rw [if_neg hkm]; exact hi.cli k hk3
 | got _ _ m _ _ _ _ => exact ⟨hlog, grow _, fun q hq => (hi.mail q (iB hq)).grow _⟩
 | late _ _ m _ _ _ _ => exact ⟨hlog, hi.cli, fun q hq => hi.mail q (iB hq)⟩
 | lose _ _ =>
  refine ⟨hlog, hi.cli, fun q hq => hi.mail q ?_⟩
  rcases List.mem_append.1 hq with hq | hq
  ·exact List.mem_of_mem_take hq
  ·exact List.mem_of_mem_drop hq
 | crash _ _ => exact ⟨hlog, hi.cli, hi.mail⟩
 | boot _ _ _ => exact ⟨hlog, hi.cli, hi.mail⟩
 | move _ hw h0 =>
  obtain ⟨_, _, _, _, _, _, a7⟩ := lA h0
  refine ⟨hlog, fun k hk3 => ?_, fun q hq => ?_⟩
  ·show (gt (w.c.set _ _) k).version = 0 ∨ ((gt (w.c.set _ _) k).version ≤ _ ∧ gi l (gt (w.c.set _ _) k).version.toNat k = ((gt (w.c.set _ _) k).v, 0))
   rw [dS h (by omega)]
   by_cases hkm : k = x.who.toNat
   ·rw [if_pos hkm, a7, hkm]; exact hi.cli _ (by omega)
   ·rw [if_neg hkm]; exact hi.cli k hk3
  ·rcases fJ hq with hq | rfl
   ·exact hi.mail q hq
   ·exact ⟨fun hk => absurd (show (1 : Int) = 2 from hk) (by decide), fun hk => absurd (show (1 : Int) = 3 from hk) (by decide)⟩
 | again _ _ _ =>
  refine ⟨hlog, hi.cli, fun q hq => ?_⟩
  rcases fJ hq with hq | rfl
  ·exact hi.mail q hq
  ·exact ⟨fun hk => absurd (show (1 : Int) = 2 from hk) (by decide), fun hk => absurd (show (1 : Int) = 3 from hk) (by decide)⟩
 | began _ hw hu _ h1 =>
  refine ⟨hlog, fun k hk3 => ?_, fun q hq => (hi.mail q hq).grow _⟩
  show (gt (w.c.set _ _) k).version = 0 ∨ ((gt (w.c.set _ _) k).version ≤ _ ∧ gi _ (gt (w.c.set _ _) k).version.toNat k = ((gt (w.c.set _ _) k).v, 0))
  rw [dS h (by omega)]
  by_cases hkm : k = x.who.toNat
  ·rw [if_pos hkm, (li (k := 0) (by omega) h1).2]; exact .inl rfl
  ·rw [if_neg hkm]; exact grow _ k hk3
 | roots _ _ _ _ => exact ⟨hlog, grow _, fun q hq => (hi.mail q hq).grow _⟩
 | shown _ _ hu m hm =>
  refine ⟨hlog, hi.cli, fun q hq => ?_⟩
  rcases fJ hq with hq | rfl
  ·exact hi.mail q hq
  ·exact rq h hu hm
theorem At_eq {w : Wld} {l : List Rec} (h : IsW w l) (hl : LogOk l) {v : Int} {k : Nat} (hk : k < 3) (hv : 0 ≤ v ∧ v ≤ (l.length : Int)) : en w v (k : Int) = gi l v.toNat k := by
 unfold en gi
 have e1 : (aR w != 0) = false := by rw [(cj w).2 ⟨l, h⟩]; rfl
 have e2 : (decide (v < 0) || decide (v > (l.length : Int))) = false := by simp only [Bool.or_eq_false_iff, decide_eq_false_iff_not]; omega
 have h3 := qc hl v.toNat
 have h4 := (lz h3).1.three
 have e3 : (decide ((k : Int) < 0) || decide ((k : Int) ≥ ((aq (l.take v.toNat)).1.peers.length : Int))) = false := by
  rw [h4]; simp only [Bool.or_eq_false_iff, decide_eq_false_iff_not]; omega
 rw [e1, h.recd]
 simp only [e2, h3, e3, bne_self_eq_false, cond_false, Int.toNat_natCast]
def nl (l : List Rec) : Prop := LogOk l ∧ ∃ S, fq (aq l).1.h S ∧ S.Perm (opsOf l)
theorem nl.grow {l : List Rec} (hi : nl l) (h60 : l.length < 60) {r : Rec} (h0 : (aB (aq l).1 r).2 = 0) : nl (l ++ [r]) := by
 obtain ⟨hok, S, hS, hp⟩ := hi
 have hR : aq l = ((aq l).1, 0) := Prod.ext rfl hok
 have hs := iZ hR h0 h60
 refine ⟨by unfold LogOk; rw [hs], ?_⟩
 rw [hs]
 rcases iA h0 with ⟨hk, _, _, a3, a4⟩ | ⟨hk, _, a4⟩ | ⟨hk, a4⟩
 ·obtain ⟨p1, p2⟩ := vX hS (xa (lq h0) hk) a3
  rw [a4]
  refine ⟨_, p1, p2.trans ?_⟩
  rw [ed, hk]
  exact hp.append_right _
 ·rw [a4]
  refine ⟨S, hS, ?_⟩
  rw [ed, hk]
  simpa using hp
 ·rw [a4]
  refine ⟨S, hS, ?_⟩
  rw [ed, hk]
  simpa using hp
theorem nl.step {w w' : Wld} {l l' : List Rec} {x : Happening} (h : IsW w l) (hi : nl l) (hp : Hap w l x w' l') : nl l' := by
 rcases hp.grows with rfl | ⟨r, rfl, hu, h0, _⟩
 ·exact hi
 ·obtain ⟨g1, g2, _⟩ := kU h hu h0
  exact hi.grow g2 g1
end Go.Proofs.YtkjccbdeaflekaaGreatDoor

set_option maxHeartbeats 2000000
namespace Go.Proofs.YtkjccbdeaflekaaGreatDoor
open Go Go.Proofs.YtkjccbdeaflekaaGreatDoor.Fw Go.Proofs
attribute [local irreducible] RdL RdN VarP LibP RW CW
def bC (a1 : Wld) : Bool :=
 true
theorem iy (y1 : SlV) (y2 : SlV) (y3 : SlV) (y4 : SlV) (y5 : SlV) (y6 : SlV) (y7 : SlV) (a1 : Wld) : Does Tryz.prog 19 [.agg ⟨cW y1 y2 y3 y4 y5 y6 y7 a1⟩] [RdL EStep y1 a1.h.h.l, RdL EPlace y2 a1.h.h.t, RdN NPeer y3 a1.h.peers, RdL EByte y4 a1.d.safe, RdL EByte y5 a1.d.wait, RdN NClient y6 a1.c, RdN NMail y7 a1.mail, LibP Tryz.prog] (fun (_ : Unit) => .bool (bC a1)) (fun _ => []) := by
 refine Dp aK Tryz.func19 Tryz.ntmps19 Tryz.results19 fun C => ?_
 refine Pc EStep y1 a1.h.h.l 88 fun hlen1 => ?_
 refine Pc EPlace y2 a1.h.h.t 24 fun hlen2 => ?_
 refine Pn NPeer y3 a1.h.peers 40 fun hlen3 => ?_
 refine Pc EByte y4 a1.d.safe 1 fun hlen4 => ?_
 refine Pc EByte y5 a1.d.wait 1 fun hlen5 => ?_
 refine Pn NClient y6 a1.c 128 fun hlen6 => ?_
 refine Pn NMail y7 a1.mail 280 fun hlen7 => ?_
 refine BxT fun g1 => ?_
 have hf := Ri (bC.eq_1 a1)
 exact Ru
def ah (x1 : Happening) (w1 : Wld) : Bool × Wld :=
 (bif ((bV w1 x1).2 == 0) then (((bV w1 x1).2 == 0), (bV w1 x1).1) else (((bV w1 x1).2 == 0), w1))
theorem cQ (y1 : SlV) (x1 : Happening) (c1 : Nat) (y2 : SlV) (y3 : SlV) (y4 : SlV) (y5 : SlV) (y6 : SlV) (y7 : SlV) (y8 : SlV) (w1 : Wld) : DoesG Tryz.prog 21 [.agg ⟨cA y1 x1⟩, .pointer (some ⟨c1, 0, none⟩)] [RdL EInt y1 x1.roots, RdL EStep y2 w1.h.h.l, RdL EPlace y3 w1.h.h.t, RdN NPeer y4 w1.h.peers, RdL EByte y5 w1.d.safe, RdL EByte y6 w1.d.wait, RdN NClient y7 w1.c, RdN NMail y8 w1.mail, LibP Tryz.prog] ⟨[⟨c1, 37, cW y2 y3 y4 y5 y6 y7 y8 w1⟩], []⟩ (fun (X : SlV × SlV × SlV × SlV × SlV × SlV × SlV) => .bool (ah x1 w1).1) (fun X => [RdL EStep X.1 (ah x1 w1).2.h.h.l, RdL EPlace X.2.1 (ah x1 w1).2.h.h.t, RdN NPeer X.2.2.1 (ah x1 w1).2.h.peers, RdL EByte X.2.2.2.1 (ah x1 w1).2.d.safe, RdL EByte X.2.2.2.2.1 (ah x1 w1).2.d.wait, RdN NClient X.2.2.2.2.2.1 (ah x1 w1).2.c, RdN NMail X.2.2.2.2.2.2 (ah x1 w1).2.mail]) (fun X => ⟨[⟨c1, 37, cW X.1 X.2.1 X.2.2.1 X.2.2.2.1 X.2.2.2.2.1 X.2.2.2.2.2.1 X.2.2.2.2.2.2 (ah x1 w1).2⟩], []⟩) := by
 refine Dq aK Tryz.func21 Tryz.ntmps21 Tryz.results21 fun C => ?_
 refine Pc EInt y1 x1.roots 8 fun hlen1 => ?_
 refine BxT fun g1 => ?_
 refine Ck (l4 y2 y3 y4 y5 y6 y7 y8 w1 y1 x1) fun x2 => ?_
 refine AlT fun g2 => ?_
 have hf := Ri (ah.eq_1 x1 w1)
 refine Ce hf (fun hc1 hc1p hf => ?_) fun hc1 hc1p hf => ?_
 ·refine Rx ?_; exact Re ⟨x2.1, x2.2.1, x2.2.2.1, x2.2.2.2.1, x2.2.2.2.2.1, x2.2.2.2.2.2.1, x2.2.2.2.2.2.2⟩ Rv
 ·refine Rx ?_; exact Re ⟨y2, y3, y4, y5, y6, y7, y8⟩ Rv
theorem hJ {w : Wld} {x : Happening} {S : Bool × Wld} (hS : ah x w = S) (hk : x.kind = 7 ∨ x.kind = 9) (h : S.1 = true) : S.2.mail.length < w.mail.length := by
 subst hS
 unfold ah at h ⊢
 cases h1 : ((bV w x).2 == 0) with
 | false => rw [h1, cond_false] at h; cases h
 | true =>
  rw [cond_true]
  obtain ⟨b1, b2, b3⟩ := ta (eq_of_beq h1)
  obtain ⟨l, hl⟩ := (cj w).1 b1
  obtain ⟨l', hp⟩ := jH hl b2
  rw [b3]
  simp only
  generalize (aw w x).2 = w' at hp
  have hcut : ∀ n : Int, 0 ≤ n → n < (w.mail.length : Int) → (w.mail.take n.toNat ++ w.mail.drop (n + 1).toNat).length < w.mail.length := fun n h1 h2 => by
   simp only [List.length_append, List.length_take, List.length_drop]; omega
  have hleft : x.kind = 7 → kV w.mail x = w.mail.take x.n.toNat ++ w.mail.drop (x.n + 1).toNat := fun h7 => by unfold kV; rw [h7]; rfl
  cases hp with
  | hear hx hn =>
   have h7 : x.kind = 7 := by omega
   simp only [hleft h7]; exact hcut _ hn.1 hn.2
  | got hx hn =>
   have h7 : x.kind = 7 := by omega
   simp only [hleft h7]; exact hcut _ hn.1 hn.2
  | late hx hn =>
   have h7 : x.kind = 7 := by omega
   simp only [hleft h7]; exact hcut _ hn.1 hn.2
  | lose hx hn => exact hcut _ hn.1 hn.2
  | crash hx => omega
  | boot hx => omega
  | move hx => omega
  | again hx => omega
  | began hx => omega
  | roots hx => omega
  | shown hx => omega
theorem oy {w : Wld} {x : Happening} {S : Bool × Wld} (hS : ah x w = S) (h : S.1 = false) : S.2.mail.length = w.mail.length := by
 subst hS
 unfold ah at h ⊢
 cases h1 : ((bV w x).2 == 0) with
 | true => rw [h1, cond_true] at h; cases h
 | false => rfl
def au  : Nat → Wld → Wld
 | 0, w2 => default
 | f_k0 + 1, w2 => (bif decide ((w2.mail.length : Int) > 0) then (bif (ah (⟨7, 0, 0, 0, 0, 0, ([] : List Int)⟩ : Happening) w2).1 then (au f_k0 (ah (⟨7, 0, 0, 0, 0, 0, ([] : List Int)⟩ : Happening) w2).2) else (bif (decide ((w2.mail.length : Int) > 0) && ((ah (⟨7, 0, 0, 0, 0, 0, ([] : List Int)⟩ : Happening) w2).1 || (ah (⟨9, 0, 0, 0, 0, 0, ([] : List Int)⟩ : Happening) (ah (⟨7, 0, 0, 0, 0, 0, ([] : List Int)⟩ : Happening) w2).2).1)) then (au f_k0 (ah (⟨9, 0, 0, 0, 0, 0, ([] : List Int)⟩ : Happening) (ah (⟨7, 0, 0, 0, 0, 0, ([] : List Int)⟩ : Happening) w2).2).2) else (ah (⟨9, 0, 0, 0, 0, 0, ([] : List Int)⟩ : Happening) (ah (⟨7, 0, 0, 0, 0, 0, ([] : List Int)⟩ : Happening) w2).2).2)) else w2)
def ac (w1 : Wld) : Wld :=
 (au (w1.mail.length + 1) w1)
theorem dY (c1 : Nat) (y1 : SlV) (y2 : SlV) (y3 : SlV) (y4 : SlV) (y5 : SlV) (y6 : SlV) (y7 : SlV) (w1 : Wld) (c2 : Nat) : DoesG Tryz.prog 22 [.pointer (some ⟨c1, 0, none⟩), .pointer (some ⟨c2, 0, none⟩)] [RdL EStep y1 w1.h.h.l, RdL EPlace y2 w1.h.h.t, RdN NPeer y3 w1.h.peers, RdL EByte y4 w1.d.safe, RdL EByte y5 w1.d.wait, RdN NClient y6 w1.c, RdN NMail y7 w1.mail, LibP Tryz.prog] ⟨[⟨c1, 37, cW y1 y2 y3 y4 y5 y6 y7 w1⟩, ⟨c2, 58, [.func (.func 21) #[] ⟨[.pointer (some ⟨c1, 0, none⟩)]⟩]⟩], []⟩ (fun (X : SlV × SlV × SlV × SlV × SlV × SlV × SlV) => .tuple #[]) (fun X => [RdL EStep X.1 (ac w1).h.h.l, RdL EPlace X.2.1 (ac w1).h.h.t, RdN NPeer X.2.2.1 (ac w1).h.peers, RdL EByte X.2.2.2.1 (ac w1).d.safe, RdL EByte X.2.2.2.2.1 (ac w1).d.wait, RdN NClient X.2.2.2.2.2.1 (ac w1).c, RdN NMail X.2.2.2.2.2.2 (ac w1).mail]) (fun X => ⟨[⟨c1, 37, cW X.1 X.2.1 X.2.2.1 X.2.2.2.1 X.2.2.2.2.1 X.2.2.2.2.2.1 X.2.2.2.2.2.2 (ac w1)⟩, ⟨c2, 58, [.func (.func 21) #[] ⟨[.pointer (some ⟨c1, 0, none⟩)]⟩]⟩], []⟩) := by
 refine Dq aK Tryz.func22 Tryz.ntmps22 Tryz.results22 fun C => ?_
 refine Lq (Wld × SlV × SlV × SlV × SlV × SlV × SlV × SlV × Nat) [0,1] [false, true] (fun ⟨w2, x1, x2, x3, x4, x5, x6, x7, fz1⟩ => ⟨[], [⟨c1, 37, cW x1 x2 x3 x4 x5 x6 x7 w2⟩], [], [RdL EStep x1 w2.h.h.l, RdL EPlace x2 w2.h.h.t, RdN NPeer x3 w2.h.peers, RdL EByte x4 w2.d.safe, RdL EByte x5 w2.d.wait, RdN NClient x6 w2.c, RdN NMail x7 w2.mail], (w2.mail.length < fz1) ∧ (au fz1 w2) = (ac w1), fz1⟩) ⟨w1, y1, y2, y3, y4, y5, y6, y7, w1.mail.length + 1⟩ ⟨Nz, (by simp only [ac, Cf] : (ac w1) = (au (w1.mail.length + 1) w1)).symm⟩ ?_
 rintro ⟨w2, x1, x2, x3, x4, x5, x6, x7, fz1⟩ ⟨hzfz1, hf1⟩
 simp only [Lc]
 have hlt0_ : (fz1 - 1) + 1 = fz1 := by omega
 refine Tx ?_
 have hf := Ri hf1.symm
 rw [← hlt0_, au] at hf
 refine pD .sq (ci rfl rfl rfl) (fun hg1 => ?_) (fun hg1 => ?_)
 ·have hf := Bt_ hf hg1
  refine Fr EInt ?_
  refine gY (cQ Z0 (⟨7, 0, 0, 0, 0, 0, ([] : List Int)⟩ : Happening) c1 x1 x2 x3 x4 x5 x6 x7 w2) .sq (.inl ⟨_, rfl⟩) (pR (ci rfl rfl rfl) hg1) rfl rfl rfl rfl (by first | rfl | assumption | (simp only [hg1, Bool.and_true, Bool.true_and, Bool.and_self, Bool.not_false, Bool.not_true]; done) | simp_all) Kr rfl (by first | rfl | assumption | (simp only [hg1, Bool.and_true, Bool.true_and, Bool.and_self, Bool.not_false, Bool.not_true]; done) | simp_all) rfl Sm Tk (.nil _) ?_
  intro x8
  generalize hS1 : (ah (⟨7, 0, 0, 0, 0, 0, ([] : List Int)⟩ : Happening) w2) = S1
  try rw [hS1] at hf
  refine Tx ?_
  refine pD .sq (dm rfl rfl rfl) (fun hg2 => ?_) (fun hg2 => ?_)
  ·have hg2n : S1.1 = false := by simp only [hg1, Bool.true_and] at hg2; exact wh hg2
   have hf := Bf_ hf hg2n
   refine gY (cQ Z0 (⟨9, 0, 0, 0, 0, 0, ([] : List Int)⟩ : Happening) c1 x8.1 x8.2.1 x8.2.2.1 x8.2.2.2.1 x8.2.2.2.2.1 x8.2.2.2.2.2.1 x8.2.2.2.2.2.2 S1.2) .sq (.inl ⟨_, rfl⟩) (pR (dm rfl rfl rfl) hg2) rfl rfl rfl rfl (by first | rfl | assumption | (simp only [hg1, hg2n, Bool.and_true, Bool.true_and, Bool.and_self, Bool.not_false, Bool.not_true]; done) | simp_all) Kr rfl (by first | rfl | assumption | (simp only [hg1, hg2n, Bool.and_true, Bool.true_and, Bool.and_self, Bool.not_false, Bool.not_true]; done) | simp_all) rfl Sm Tk (.nil _) ?_
   intro x9
   generalize hS2 : (ah (⟨9, 0, 0, 0, 0, 0, ([] : List Int)⟩ : Happening) S1.2) = S2
   try rw [hS2] at hf
   refine Ch hf (fun hc1 hf => ?_) fun hc1 hf => ?_
   ·refine Tx ?_
    try have hcl1 := hJ hS1 (.inl rfl) hg2n
    try have hcl0 := oy hS1 hg2n
    try have hcl2 := hJ hS2 (.inr rfl) (by simp only [hg1, hg2n, Bool.true_and, Bool.false_or] at hc1; exact hc1)
    refine ⟨⟨S2.2, x9.1, x9.2.1, x9.2.2.1, x9.2.2.2.1, x9.2.2.2.2.1, x9.2.2.2.2.2.1, x9.2.2.2.2.2.2, (fz1 - 1)⟩, ⟨(by (try simp only []); first | omega | (simp only [List.length_append, List.length_cons, List.length_nil]; omega)), (hf : (ac w1) = (au (fz1 - 1) S2.2)).symm⟩, Oo, Le4⟩
   ·refine Tx ?_
    rw [hf.to]
    exact ⟨⟨x9.1, x9.2.1, x9.2.2.1, x9.2.2.2.1, x9.2.2.2.2.1, x9.2.2.2.2.2.1, x9.2.2.2.2.2.2⟩, _, .nil, rfl, Sm, Sp, Sp⟩
  ·have hg2n : S1.1 = true := by simp only [hg1, Bool.true_and] at hg2; exact wh hg2
   have hf := Bt_ hf hg2n
   refine pE .sq (dm rfl rfl rfl) hg2 rfl rfl ?_
   refine Cd' (fun hc2 => ?_) fun hc2 => ?_
   ·refine Tx ?_
    try have hcl1 := hJ hS1 (.inl rfl) hg2n
    try have hcl0 := oy hS1 hg2n
    try have hcl2 := hJ hS2 (.inr rfl) (by simp only [hg1, hg2n, Bool.true_and, Bool.false_or] at hc1; exact hc1)
    refine ⟨⟨S1.2, x8.1, x8.2.1, x8.2.2.1, x8.2.2.2.1, x8.2.2.2.2.1, x8.2.2.2.2.2.1, x8.2.2.2.2.2.2, (fz1 - 1)⟩, ⟨(by (try simp only []); first | omega | (simp only [List.length_append, List.length_cons, List.length_nil]; omega)), (hf : (ac w1) = (au (fz1 - 1) S1.2)).symm⟩, Oo, Le4⟩
   ·exact Bool.noConfusion (hc2.symm.trans ((by simp only [hg1, hg2n, Bool.and_false, Bool.false_and, Bool.or_true, Bool.true_or, Bool.or_false, Bool.false_or, Bool.and_true, Bool.true_and, Bool.not_true, Bool.not_false]) : (decide ((w2.mail.length : Int) > 0) && (S1.1 || false)) = true))
 ·have hf := Bf_ hf hg1
  refine pE .sq (ci rfl rfl rfl) hg1 rfl rfl ?_
  refine rw_qg (ci rfl rfl rfl) rfl rfl (qy (v := .bool false) hg1) ?_
  refine rw_qg (dm rfl rfl rfl) rfl rfl (qy (v := .bool false) (by rw [hg1]; rfl)) ?_
  refine rw_qg (dm rfl rfl rfl) rfl rfl (qy (v := .bool false) (by rw [hg1]; rfl)) ?_
  refine pE .sq (dm rfl rfl rfl) (by rw [hg1]; rfl) rfl rfl ?_
  refine rw_qg (ci rfl rfl rfl) rfl rfl (qy (v := .bool false) hg1) ?_
  refine Cd' (fun hc3 => ?_) fun hc3 => ?_
  ·exact Bool.noConfusion (hc3.symm.trans ((by simp only [hg1, Bool.and_false, Bool.false_and, Bool.or_true, Bool.true_or, Bool.or_false, Bool.false_or, Bool.and_true, Bool.true_and, Bool.not_true, Bool.not_false]) : (decide ((w2.mail.length : Int) > 0) && false) = false))
  ·refine Tx ?_
   rw [hf.to]
   exact ⟨⟨x1, x2, x3, x4, x5, x6, x7⟩, _, .nil, rfl, Sm, Sp, Sp⟩
end Go.Proofs.YtkjccbdeaflekaaGreatDoor

namespace Go.Proofs.YtkjccbdeaflekaaGreatDoor
open Go Go.Proofs.YtkjccbdeaflekaaGreatDoor.Fw Go.Proofs
theorem kS (ok : Wld → Bool) : ∀ (r : List Happening) (w : Wld), aR w = 0 → aR (bp ok r w).1 = 0
 | [], w, h => h
 | x :: r, w, h => by
  rw [bp]
  cases h1 : ((bV w x).2 == 0) with
  | false => exact kS ok r w h
  | true =>
   have h2 := (Do_ok (eq_of_beq h1)).2
   rw [cond_true]
   cases (!(ok (bV w x).1)) with
   | true => exact h2
   | false => exact kS ok r _ h2
theorem tn {l : List Happening} {ok : Wld → Bool} {S : Wld × Bool} (hS : aQ l ok = S) : aR S.1 = 0 := by
 subst hS; exact kS ok _ _ wC
theorem sP {w : Wld} (x : Happening) (h : aR w = 0) : aR (ah x w).2 = 0 := by
 unfold ah
 cases h1 : ((bV w x).2 == 0) with
 | false => exact h
 | true => exact (Do_ok (eq_of_beq h1)).2
theorem mx {w : Wld} {x : Happening} {S : Bool × Wld} (hS : ah x w = S) (h : aR w = 0) : aR S.2 = 0 := by
 subst hS; exact sP x h
theorem k9 (I : Wld → Prop) (step : ∀ w x, I w → I (ah x w).2) : ∀ (f : Nat) (w : Wld), w.mail.length < f → I w → I (au f w)
 | 0, _, h, _ => absurd h (Nat.not_lt_zero _)
 | f + 1, w, h, hI => by
  rw [au]
  have s7 := step w ⟨7, 0, 0, 0, 0, 0, []⟩ hI
  cases h0 : decide ((w.mail.length : Int) > 0) with
  | false => exact hI
  | true =>
   rw [cond_true]
   cases h7 : (ah ⟨7, 0, 0, 0, 0, 0, []⟩ w).1 with
   | true =>
    have hl := hJ rfl (.inl rfl) h7
    rw [cond_true]
    exact k9 I step f _ (by omega) s7
   | false =>
    have hs := oy rfl h7
    have s9 := step _ ⟨9, 0, 0, 0, 0, 0, []⟩ s7
    rw [cond_false, Bool.true_and, Bool.false_or]
    cases h9 : (ah ⟨9, 0, 0, 0, 0, 0, []⟩ (ah ⟨7, 0, 0, 0, 0, 0, []⟩ w).2).1 with
    | true =>
     have hl := hJ rfl (.inr rfl) h9
     rw [cond_true]
     exact k9 I step f _ (by omega) s9
    | false => exact s9
theorem q9 (I : Wld → Prop) (step : ∀ w x, I w → I (ah x w).2) {w : Wld} (h : I w) : I (ac w) := k9 I step _ w (Nat.lt_succ_self _) h
theorem nD {w : Wld} (h : aR w = 0) : aR (ac w) = 0 := q9 (fun w => aR w = 0) (fun _ x h => sP x h) h
theorem vD {h : History} (hc : bk h = 0) : h.l.length ≤ 30 := by have := ((lg h).1 hc).len; simpa using this
end Go.Proofs.YtkjccbdeaflekaaGreatDoor
