/- Part of this claim. No condition. -/
import Derived.Test.YtkjccbdeaflekaaGreatDoorS12
import Derived.Test.YtkjccbdeaflekaaGreatDoorS7
import Derived.Test.YtkjccbdeaflekaaGreatDoorS8
import Derived.Test.YtkjccbdeaflekaaGreatDoorS11
import Derived.Test.YtkjccbdeaflekaaGreatDoorS9
import Derived.Test.YtkjccbdeaflekaaGreatDoorRows
import Derived.Stop.LaidErr
import Derived.Shelf.Vars
import Derived.LaidMore
import Derived.Lay
import Derived.Handed
import Derived.SizedLaws
import Derived.Stop.Joined
import Derived.ProofKit
import Derived.Test.YtkjccbdeaflekaaGreatDoorS2
set_option linter.unusedVariables false
set_option linter.unusedSimpArgs false
set_option maxHeartbeats 2000000
namespace Go.Proofs.YtkjccbdeaflekaaGreatDoor
open Go Go.Proofs.YtkjccbdeaflekaaGreatDoor.Fw Go.Proofs
attribute [local irreducible] RdL RdN VarP LibP RW CW
theorem rA {w : Wld} (h : cb w = 0) : cz w.d = 0 := by
 unfold cb at h
 cases h1 : ((w.c.length : Int) != 3) with
 | true => rw [h1, cond_true] at h; cases h
 | false =>
  rw [h1, cond_false] at h
  cases h2 : (cy w.mail != 0) with
  | true => rw [h2, cond_true] at h; rw [h] at h2; cases h2
  | false =>
   rw [h2, cond_false] at h
   cases h3 : (cz w.d != 0) with
   | true => rw [h3, cond_true] at h; rw [h] at h3; cases h3
   | false => exact ai h3
theorem vf {l : List Rec} {S : Hub × Int} (hS : aV l = S) (h0 : S.2 = 0) : S.1.peers.length = 3 := by
 rw [tz] at hS; exact (nX hS h0).1.three
theorem who_in {e who : Int} (h0 : e = 0) (h : ((e == 0) && (decide (who < 0) || decide (who > 2))) = false) : 0 ≤ who ∧ who ≤ 2 := by
 subst h0; simp at h; omega
def bW (w1 : Wld) (version1 : Int) (who1 : Int) : List Rec → (List Op) → Bool
 | [], ops1 => (bif (((ct w1).2 != 0) || (!(decide ((ct w1).1 = ops1)))) then false else (bif (decide (version1 < 0) || decide (version1 > ((aw w1.d).2.length : Int))) then (((dP w1 version1 who1).2 == 5) && (cl (dP w1 version1 who1).1 (⟨[], [], []⟩ : View))) else (bif (((aV ((aw w1.d).2.take version1.toNat)).2 == 0) && (decide (who1 < 0) || decide (who1 > 2))) then (((dP w1 version1 who1).2 == 5) && (cl (dP w1 version1 who1).1 (⟨[], [], []⟩ : View))) else (bif ((aV ((aw w1.d).2.take version1.toNat)).2 != 0) then (((dP w1 version1 who1).2 == (aV ((aw w1.d).2.take version1.toNat)).2) && (cl (dP w1 version1 who1).1 (⟨[], [], []⟩ : View))) else (((dP w1 version1 who1).2 == (aC (aV ((aw w1.d).2.take version1.toNat)).1.h.t (gt (aV ((aw w1.d).2.take version1.toNat)).1.peers who1.toNat).roots).2) && (cl (dP w1 version1 who1).1 (aC (aV ((aw w1.d).2.take version1.toNat)).1.h.t (gt (aV ((aw w1.d).2.take version1.toNat)).1.peers who1.toNat).roots).1))))))
 | pn1 :: rn1, ops1 => (bif (pn1.kind == 1) then (bW w1 version1 who1 rn1 (ops1 ++ [pn1.o])) else (bW w1 version1 who1 rn1 ops1))
def eX (w1 : Wld) (version1 : Int) (who1 : Int) : Bool :=
 (bif ((!gw) || ((cb w1) != 0)) then ((((gw && ((ct w1).2 == (cb w1))) && ((dP w1 version1 who1).2 == (cb w1))) && (((ct w1).1.length : Int) == 0)) && (cl (dP w1 version1 who1).1 (⟨[], [], []⟩ : View))) else (bW w1 version1 who1 (aw w1.d).2 []))
theorem rC (y1 : SlV) (y2 : SlV) (y3 : SlV) (y4 : SlV) (y5 : SlV) (y6 : SlV) (y7 : SlV) (w1 : Wld) (version1 : Int) (who1 : Int) : Does Tryz.prog 6 [.agg ⟨cW y1 y2 y3 y4 y5 y6 y7 w1⟩, .int .i64 version1, .int .i64 who1] [RdL EStep y1 w1.h.h.l, RdL EPlace y2 w1.h.h.t, RdN NPeer y3 w1.h.peers, RdL EByte y4 w1.d.safe, RdL EByte y5 w1.d.wait, RdN NClient y6 w1.c, RdN NMail y7 w1.mail, LibP Tryz.prog] (fun (_ : Unit) => .bool (eX w1 version1 who1)) (fun _ => []) := by
 refine Dp aH Tryz.func6 Tryz.ntmps6 Tryz.results6 fun C => ?_
 refine Pc EStep y1 w1.h.h.l 88 fun hlen1 => ?_
 refine Pc EPlace y2 w1.h.h.t 24 fun hlen2 => ?_
 refine Pn NPeer y3 w1.h.peers 40 fun hlen3 => ?_
 refine Pc EByte y4 w1.d.safe 1 fun hlen4 => ?_
 refine Pc EByte y5 w1.d.wait 1 fun hlen5 => ?_
 refine Pn NClient y6 w1.c 128 fun hlen6 => ?_
 refine Pn NMail y7 w1.mail 280 fun hlen7 => ?_
 refine BxT fun g1 => ?_
 refine Ck (kg y1 y2 y3 y4 y5 y6 y7 w1) fun x1 => ?_
 refine Ck (jW y1 y2 y3 y4 y5 y6 y7 w1 version1 who1) fun x2 => ?_
 refine AlT fun g2 => ?_
 refine Ck (kp y1 y2 y3 y4 y5 y6 y7 w1) fun _ => ?_
 refine Ck (jF ) fun _ => ?_
 have hf := Ri (eX.eq_1 w1 version1 who1)
 refine Ch hf (fun hc1 hf => ?_) fun hc1 hf => ?_
 ·refine Ck (jF ) fun _ => ?_
  refine Tx ?_
  refine Fr EInt ?_
  refine Fr EPlace ?_
  refine Cy (fun hG_ => dR x2.1 x2.2.1 x2.2.2 (dP w1 version1 who1).1 Z0 Z0 Z0 (⟨[], [], []⟩ : View)) ?_
  exact Ru
 ·have hdl := nN (rA (ai (Bool.or_eq_false_iff.1 hc1).2))
  refine Ck (ik y4 y5 w1.d hdl) fun x3 => ?_
  refine AlT fun g3 => ?_
  refine Tx ?_
  refine Pn NRec x3.2.2 (aw w1.d).2 104 fun hlen8 => ?_
  (repeat refine aI ?_); refine Lp [1,2,6,7,8,9,10,11,13,67,68] [true, true, true] (fun (i_ : List Op × SlV × Option Nat × Nat) => match i_ with | ⟨ops1, x4, x4b, n1⟩ => (⟨[(14, .v (x4.val ops1.length)), (69, .v (.int .i64 (n1 : Int)))], [], [ownL EOp 76 x4 x4b ops1], [], (n1 ≤ (aw w1.d).2.length) ∧ (ops1.length ≤ n1) ∧ (bW w1 version1 who1 ((aw w1.d).2.drop n1) ops1) = (eX w1 version1 who1), (aw w1.d).2.length - n1⟩ : Ls)) ⟨[], ⟨none, 0⟩, none, 0⟩ (Sc (Sc (Sc (Sc (Sc (Sc (Sc (Sc (Sc (Sc (Sc Sn))))))))))) (.keep (.keep (.keep (.nil)))) ⟨Nat.zero_le _, (by first | exact Nat.le_refl _ | exact Nat.zero_le _ | omega), hf.symm⟩ (Le.trans (eu EOp 76) Le4) ?_
  rintro ⟨ops1, x4, x4b, n1⟩ ⟨hkn1, hops1, hf1⟩
  simp only [Lc]
  refine Cu (fun hlt0 => ?_) fun hge0 => ?_
  ·refine Tx ?_
   refine e8 NRec (X := x3.2.2) (l := (aw w1.d).2) Mm fun (γ1 : Nat → SlV) => ?_
   refine Sq (Xn NRec n1) ?_
   refine Sq (q_is (v' := .agg ⟨cR (γ1 n1) (gt (aw w1.d).2 n1)⟩) (ij NRec γ1 rfl rfl Zf rfl rfl Mm (fun _ => by first | assumption | omega)) rfl) ?_
   refine Fg NRec γ1 (aw w1.d).2 n1 0 ?_
   refine AlT fun g4 => ?_
   have hf := Ri hf1.symm
   rw [aU hlt0, bW] at hf
   refine Ce hf (fun hc3 hc3p hf => ?_) fun hc3 hc3p hf => ?_
   ·refine Bl EOp [(gt (aw w1.d).2 n1).o] fun x5 x5b => ?_
    refine Ap EOp 56 ops1 [(gt (aw w1.d).2 n1).o] x4b fun x6 x6b => ?_
    refine Tt ?_
    refine ⟨⟨(ops1 ++ [(gt (aw w1.d).2 n1).o]), x6, x6b, (n1 + 1)⟩, ⟨hlt0, (by (try simp only [List.length_append, List.length_cons, List.length_nil]); omega), hf.symm⟩, Oo, Le4⟩
   ·refine Tt ?_
    refine ⟨⟨ops1, x4, x4b, (n1 + 1)⟩, ⟨hlt0, (by (try simp only [List.length_append, List.length_cons, List.length_nil]); omega), hf.symm⟩, Oo, Le4⟩
  ·refine Tx ?_
   refine tM (fun hG_ => (fun y1 a y2 b => mL y1 y2 a b) x1 (ct w1).1 x4 ops1) Zf .sq (eC rfl rfl rfl) rfl rfl rfl Kr rfl Bt (.fact Mm (.own Mm (.nil _ _))) ?_
   have hf := Ri hf1.symm
   rw [List.drop_of_length_le hge0, bW] at hf
   refine Ch hf (fun hc4 hf => ?_) fun hc4 hf => ?_
   ·exact Ru
   ·refine Ch hf (fun hc5 hf => ?_) fun hc5 hf => ?_
    ·refine Tx ?_
     refine Fr EInt ?_
     refine Fr EPlace ?_
     refine Cy (fun hG_ => dR x2.1 x2.2.1 x2.2.2 (dP w1 version1 who1).1 Z0 Z0 Z0 (⟨[], [], []⟩ : View)) ?_
     exact Ru
    ·have hvr := hc5
     simp only [Bool.or_eq_false_iff, decide_eq_false_iff_not] at hvr
     refine Sy Tz (uL NRec version1.toNat rfl rfl Zf rfl Zf rfl rfl Mm Zo Zo) ?_
     refine dC (F := RdN NRec x3.2.2 ((aw w1.d).2.take version1.toNat)) [RdN NRec x3.2.2 (aw w1.d).2] Sm (fun M w h => (allF1 h).take _) ?_
     refine Ck (gJ x3.2.2 ((aw w1.d).2.take version1.toNat)) fun x7 => ?_
     generalize hS1 : (aV ((aw w1.d).2.take version1.toNat)) = S1
     try rw [hS1] at hf
     refine AlT fun g5 => ?_
     refine Ch hf (fun hc6 hf => ?_) fun hc6 hf => ?_
     ·refine Cd' (fun hc7 => ?_) fun hc7 => ?_
      ·refine Tx ?_
       refine Fr EInt ?_
       refine Fr EPlace ?_
       refine Cy (fun hG_ => dR x2.1 x2.2.1 x2.2.2 (dP w1 version1 who1).1 Z0 Z0 Z0 (⟨[], [], []⟩ : View)) ?_
       exact Ru
      ·exact Bool.noConfusion (hc7.symm.trans (show ((5 : Int) != 0) = true by decide))
     ·refine Cn hf (fun hc8 hc8p hf => ?_) fun hc8 hc8p hf => ?_
      ·refine Tx ?_
       refine Fr EInt ?_
       refine Fr EPlace ?_
       refine Cy (fun hG_ => dR x2.1 x2.2.1 x2.2.2 (dP w1 version1 who1).1 Z0 Z0 Z0 (⟨[], [], []⟩ : View)) ?_
       exact Ru
      ·have hs0 := ai hc8
       have hrp := vf hS1 hs0
       have hwr := who_in hs0 hc6
       refine Tx ?_
       refine Jn (Nat × SlV × SlV × SlV) [6, 9, 10] [true, true, true, true] (fun ⟨g6, x8, x9, x10⟩ => ⟨[(18, .v (.pointer (some ⟨g6, 0, none⟩))), (19, .v (.int .i64 (aC S1.1.h.t (gt S1.1.peers who1.toNat).roots).2))], [⟨g6, 61, cV x8 x9 x10 (aC S1.1.h.t (gt S1.1.peers who1.toNat).roots).1⟩], [], [RdL EInt x8 (aC S1.1.h.t (gt S1.1.peers who1.toNat).roots).1.roots, RdL EPlace x9 (aC S1.1.h.t (gt S1.1.peers who1.toNat).roots).1.known, RdL EPlace x10 (aC S1.1.h.t (gt S1.1.peers who1.toNat).roots).1.way], True, 0⟩) ?_ ?_
       ·refine aq (fun j => match j with | 14 => none | _ => some []) ?_
        refine Dx (.range 6) ?_
        refine e8 NPeer (X := x7.2.2) (l := S1.1.peers) Mm fun (γ2 : Nat → SlV) => ?_
        refine Rb 6 rfl (Xn NPeer who1.toNat) ?_
        refine Rb 7 rfl Xf ?_
        refine Rb 8 rfl (iy NPeer γ2 (v := (γ2 who1.toNat).val (gt S1.1.peers who1.toNat).roots.length) rfl rfl Zf rfl rfl Mm (fun _ => by first | assumption | omega) rfl) ?_
        refine Fg NPeer γ2 S1.1.peers who1.toNat 0 ?_
        refine Rw 9 13 ?_ ?_
        ·refine Ck (eW x7.2.1 S1.1.h.t (γ2 who1.toNat) (gt S1.1.peers who1.toNat).roots) fun x11 => ?_
         refine Dx [10,11] ?_
         refine ra_p (Fa 12 [13,14]) rfl rfl rfl Xv ?_
         refine Rn 13 ?_
         refine bP (.an rfl rfl) (am rfl) rfl rfl rfl rfl fun g7 => ?_
         refine Rn 14 ?_
         refine Wa ?_
         refine Ra 15 rfl Qp ?_
         refine Re0 ?_
         refine ⟨⟨g7, x11.1, x11.2.1, x11.2.2⟩, trivial, Le4⟩
        ·refine bP (.an rfl rfl) (am rfl) rfl rfl rfl rfl fun g8 => ?_
         refine Rn 9 ?_
         refine Ck (eW x7.2.1 S1.1.h.t (γ2 who1.toNat) (gt S1.1.peers who1.toNat).roots) fun x12 => ?_
         refine Dx [10,11] ?_
         refine ra_p (Fa 12 [14]) rfl rfl rfl Xv ?_
         refine Rn 14 ?_
         refine Wa ?_
         refine Ra 15 rfl Qp ?_
         refine Re0 ?_
         refine ⟨⟨g8, x12.1, x12.2.1, x12.2.2⟩, trivial, Le4⟩
       ·rintro ⟨g6, x8, x9, x10⟩ -
        simp only [Lc]
        generalize hS2 : (aC S1.1.h.t (gt S1.1.peers who1.toNat).roots) = S2
        try rw [hS2] at hf
        refine Cy (fun hG_ => dR x2.1 x2.2.1 x2.2.2 (dP w1 version1 who1).1 x8 x9 x10 S2.1) ?_
        exact Ru
end Go.Proofs.YtkjccbdeaflekaaGreatDoor

namespace Go.Proofs.YtkjccbdeaflekaaGreatDoor
open Go Go.Proofs.YtkjccbdeaflekaaGreatDoor.Fw Go.Proofs
theorem wX : gw = true := by decide +kernel
def opsOf (l : List Rec) : List Op := (l.filter (fun r => r.kind == 1)).map Rec.o
theorem k8 : ∀ (l : List Rec) (out : List Op), ee l out = (out ++ opsOf l, 0)
 | [], out => by simp [ee, opsOf]
 | r :: l, out => by
  rw [ee]
  have e : opsOf (r :: l) = (bif r.kind == 1 then [r.o] else []) ++ opsOf l := by
   unfold opsOf; cases h : (r.kind == 1) <;> simp [h]
  cases h : (r.kind == 1) with
  | true => rw [cond_true, k8 l, e, h]; simp
  | false => rw [cond_false, k8 l, e, h]; simp
theorem vg {w : Wld} {l : List Rec} (h : IsW w l) : ct w = (opsOf l, 0) := by
 unfold ct
 rw [(gR w).2 ⟨l, h⟩, h.recd, bne_self_eq_false, cond_false, k8]; simp
theorem uz (d : Disk) : cz d = cn d := by
 unfold cz cn
 cases hb : (decide ((d.safe.length : Int) > 60000) || decide ((d.wait.length : Int) > (60000 - (d.safe.length : Int)))) with
 | true => rfl
 | false =>
  have := m3 hb
  simp only [cond_false]
  rw [kb (by omega) (by decide)]
theorem pS {d : Disk} (h : cn d = 0) : aw d = ((ar d).1, (ar d).2.1) ∧ (ar d).2.2 = 0 := by
 have hdl := jc h
 have h0 : (cn d != 0) = false := by simpa using h
 have hm := pI (s := d.safe) (most := 60) (by omega) (by decide)
 rw [kb (by omega) (by decide)] at hm
 unfold aw ar
 rw [kb (s := d.safe) (most := 60) (by omega) (by decide), kb (s := d.wait) (by omega) (by omega)]
 simp only [h0, cond_false]
 simp
theorem mj : ∀ (l : List Client) (n : Nat), bI l n = dl l n
 | [], _ => rfl
 | c :: l, n => by rw [bI, dl, rN, mj l]
theorem ro (d : Disk) : (ar d).2.2 = cn d := by
 unfold ar
 cases h : (cn d != 0) with
 | true => rw [cond_true]
 | false => rw [cond_false]; exact (ai h).symm
theorem tB (w : Wld) : cb w = dc w := by
 unfold cb dc
 rw [uy, uz, ro]
 congr 1
 congr 1
 cases hd : (cn w.d != 0) with
 | true => rfl
 | false =>
  rw [cond_false, cond_false]
  have hr := pS (ai hd)
  rw [hr.1]
  simp only [tz, wQ, mj]
  cases w.up with
  | true =>
   rw [cond_true, Bool.true_and]
   rfl
  | false => rfl
theorem jg (v : View) : cl v v = true := by
 simp [cl]
theorem kA (w : Wld) (v who : Int) : ∀ (r : List Rec) (ops : List Op), bW w v who r ops = bW w v who [] (ops ++ opsOf r)
 | [], ops => by simp [opsOf]
 | r :: l, ops => by
  have e : opsOf (r :: l) = (bif r.kind == 1 then [r.o] else []) ++ opsOf l := by
   unfold opsOf; cases h : (r.kind == 1) <;> simp [h]
  rw [e]
  conv => lhs; rw [bW]
  cases h : (r.kind == 1) with
  | true => rw [cond_true, kA w v who l, cond_true, List.append_assoc]
  | false => rw [cond_false, kA w v who l, cond_false, List.nil_append]
theorem yC (w : Wld) (v who : Int) : eX w v who = true := by
 unfold eX
 rw [wX, tB, Bool.not_true, Bool.false_or]
 cases hb : (dc w != 0) with
 | true =>
  have hA : ct w = ([], dc w) := by unfold ct; rw [hb, cond_true]
  have hT : dP w v who = (⟨[], [], []⟩, dc w) := by unfold dP; rw [hb, cond_true]
  rw [cond_true, hA, hT]
  simp [jg]
 | false =>
  have hw := ai hb
  obtain ⟨l, hl⟩ := (gR w).1 hw
  have hd : cn w.d = 0 := by rw [← ro, hl.recd]
  have hR : (aw w.d).2 = l := by rw [(pS hd).1, hl.recd]
  have hA := vg hl
  rw [cond_false, kA, hR, bW, hA, List.nil_append, hR]
  simp only [bne_self_eq_false, decide_true, Bool.not_true, Bool.false_or, cond_false, tz, yp]
  have hAt : dP w v who = (bif decide (v < 0) || decide (v > (l.length : Int)) then (⟨[], [], []⟩, 5) else bif (aB (l.take v.toNat)).2 != 0 then (⟨[], [], []⟩, (aB (l.take v.toNat)).2) else bif decide (who < 0) || decide (who ≥ ((aB (l.take v.toNat)).1.peers.length : Int)) then (⟨[], [], []⟩, 5) else ((cF (aB (l.take v.toNat)).1.h.t (gt (aB (l.take v.toNat)).1.peers who.toNat).roots).1, (cF (aB (l.take v.toNat)).1.h.t (gt (aB (l.take v.toNat)).1.peers who.toNat).roots).2)) := by
   unfold dP
   rw [hb, cond_false, hl.recd]
  cases hv : (decide (v < 0) || decide (v > (l.length : Int))) with
  | true =>
   rw [hAt, hv, cond_true, cond_true]
   simp [jg]
  | false =>
   rw [hv, cond_false] at hAt
   rw [cond_false]
   generalize hS : aB (l.take v.toNat) = S at hAt ⊢
   cases hs : (S.2 != 0) with
   | true =>
    have e1 : (S.2 == 0) = false := by rw [bne] at hs; simpa using hs
    rw [hs, cond_true] at hAt
    rw [e1, Bool.false_and, cond_false, cond_true, hAt]
    simp [jg]
   | false =>
    have h0 := ai hs
    have h3 := (nX hS h0).1.three
    rw [hs, cond_false, h3] at hAt
    have e1 : (S.2 == 0) = true := by rw [h0]; rfl
    rw [e1, Bool.true_and, cond_false]
    by_cases hwho : who < 0 ∨ who > 2
    ·have e2 : (decide (who < 0) || decide (who > 2)) = true := by simpa using hwho
     have e3 : (decide (who < 0) || decide (who ≥ ((3 : Nat) : Int))) = true := by
      simp only [Bool.or_eq_true, decide_eq_true_eq]; omega
     rw [e3, cond_true] at hAt
     rw [e2, cond_true, hAt]
     simp [jg]
    ·have e2 : (decide (who < 0) || decide (who > 2)) = false := by
      simp only [Bool.or_eq_false_iff, decide_eq_false_iff_not]; omega
     have e3 : (decide (who < 0) || decide (who ≥ ((3 : Nat) : Int))) = false := by
      simp only [Bool.or_eq_false_iff, decide_eq_false_iff_not]; omega
     rw [e3, cond_false] at hAt
     rw [e2, cond_false, hAt]
     simp [jg]
end Go.Proofs.YtkjccbdeaflekaaGreatDoor

namespace Go.Proofs.YtkjccbdeaflekaaGreatDoor
open Go Go.Proofs.YtkjccbdeaflekaaGreatDoor.Fw Go.Proofs Go.Proofs.YtkjccbdeaflekaaGreatDoor Go.RowKit
theorem vn : "*" ++ "errors.errorString" = "*errors.errorString" := by decide
theorem xj (u : TypeId) (h : Tryz.prog.typeName? 3 u = some "*errors.errorString") : u = 301 :=
 typeName_ptr_named (nm := "errors.errorString") (by rw [vn]; kernel_rfl) (by kernel_rfl) (by decide) u (by rw [vn]; exact h)
theorem AE {W : World} (h : laidMetH Tryz.prog Rows.storySaysRow.laid W) (hsh : W.ShapedOpen Tryz.prog) : LibP Tryz.prog (fun _ => False) W := by
 rw [MakeChecks.laidMetH_plain _ _ _ (by kernel_rfl)] at h
 have e1 : (Rows.laid_internal_strconv_uint64pow10 : DataW Unit) = Lib.tabData .u64 Lib.pow10Tab := by kernel_rfl
 have h2 : laidMet Tryz.prog [("internal/strconv.uint64pow10", Rows.laid_internal_strconv_uint64pow10), ("unicode/utf8.acceptRanges", Rows.laid_unicode_utf8_acceptRanges), ("strconv.ErrRange", Rows.laid_strconv_ErrRange), ("strconv.ErrSyntax", Rows.laid_strconv_ErrSyntax), ("unicode/utf8.first", Rows.laid_unicode_utf8_first)] W := (laidMet.tail (laidMet.tail h))
 have h4 := laidMet.tail (laidMet.tail h2)
 have h5 := laidMet.tail h4
 rw [e1] at h2
 refine AD ⟨?_, ?_, ?_, ?_⟩
 ·obtain ⟨m, hm⟩ := cell_of_shapedOpen_int (g := 0) (zero := #[.int .i64 0]) (t := 3) hsh (of_decide_eq_true (by kernel_rfl)) (by kernel_rfl) rfl (by kernel_rfl) (by kernel_rfl) Tryz.underlying3
  exact ⟨0, m, by kernel_rfl, hm⟩
 ·exact Lib.tabIs_of_head (g := 3) (by kernel_rfl) (by kernel_rfl) Tryz.underlying291 Tryz.underlying266 (by kernel_rfl) (by kernel_rfl) h2
 ·obtain ⟨a, s, hv, _⟩ := laid_sentinel h5 (g := 1) (ti := 215) (tp := 301) (te := 303) (ts := 9) (by kernel_rfl) (by kernel_rfl) sK xj Tryz.underlying301 Tryz.underlying303 rfl rfl und_9 (by kernel_rfl) (by kernel_rfl)
  exact ⟨_, _, hv⟩
 ·obtain ⟨a, s, hv, _⟩ := laid_sentinel h4 (g := 2) (ti := 215) (tp := 301) (te := 303) (ts := 9) (by kernel_rfl) (by kernel_rfl) sK xj Tryz.underlying301 Tryz.underlying303 rfl rfl und_9 (by kernel_rfl) (by kernel_rfl)
  exact ⟨_, _, hv⟩
section
variable {H : Type} {enc : TypeId × Value → H}
theorem wrapped {a : Assume} {C : Checked} {os : Os} {f : FuncId} {fn : Func} {s : ChangeSpec} {conds : List PathCond} {apart fresh handsOn again : Bool} {laid : List (String × DataW Unit)}
  (own : ownKnob C.prog.godebug = none) (started : os.Started) (noInit : C.prog.inits.idxOf? f = none) (hfn : C.prog.funcs[f]? = some fn)
  (witness : ∃ (w : World) (tape : Tape) (i : Input), w.os = os ∧ (w.forCall tape i).Shaped C.prog ∧ i.vars = [] ∧ Input.okWide C.prog (w.forCall tape i) .any w.heap.size f i ∧
   ((s.pre enc C.prog fn conds apart (w.forCall tape i).memory i.args ∧ laidMetH C.prog laid (w.forCall tape i).memory) ∧ sizedMet enc C.prog fn (OpenSpec.ofChange s) apart (w.forCall tape i).memory i.args) ∧ a.holds C.prog (lone (Frame.enter C.prog f i.args .normal) [] (w.forCall tape i)))
  (contract : ∀ (W : World) (base : Nat) (args : Array Value) (ds gs : List (DataW H)) (before : List MemPlace),
   (∀ (j : Nat) t v, fn.params[j]? = some t → args[j]? = some v → Value.okWide C.prog W .any base t v) →
   DataW.Whole enc C.prog fn.params.toList s.vars apart W args.toList ds gs before →
   conds.all (PathCond.test C.prog ⟨fn.params.toList, ds, s.plain.varTypes C.prog, gs⟩) = true →
   (DataW.weightsEach C.prog (fn.params.toList ++ s.plain.varTypes C.prog) (ds ++ gs)).all (· ≤ reachBytes) = true → laidMetH C.prog laid W → W.ShapedOpen C.prog →
   Calls C.prog f args W fun e W' => ∃ v, e = .returned v ∧ s.post enc C.prog fn apart fresh handsOn again W args v W') :
  ReturnsInHanded a C os f .any (fun w args => (s.pre enc C.prog fn conds apart w args ∧ laidMetH C.prog laid w) ∧ sizedMet enc C.prog fn (OpenSpec.ofChange s) apart w args) (s.post enc C.prog fn apart fresh handsOn again) := by
 refine returnsInHanded_of_calls own started noInit witness ?_
 intro w tape i _ hsh _ hok hpre hholds
 obtain ⟨_, _, _, fn', hfn', _, _, _, _, hval⟩ := hok
 have e : fn' = fn := Option.some.inj (hfn'.symm.trans hfn)
 subst e
 obtain ⟨⟨⟨ds, gs, before, hw, hc⟩, hx⟩, hz⟩ := hpre
 have hw' := DataW.Whole.of_heap (w' := w.forCall tape i) (by rfl) hw
 refine (contract (w.forCall tape i) w.heap.size i.args ds gs before hval hw' hc (hz.weights hw) (hx.of_heap (by rfl)) hsh).mono fun e W' ⟨v, he, hp⟩ => ?_
 subst he
 exact ChangeSpec.post_blind hp
end
end Go.Proofs.YtkjccbdeaflekaaGreatDoor

namespace Go.Proofs.YtkjccbdeaflekaaGreatDoor
open Go Go.Proofs.YtkjccbdeaflekaaGreatDoor.Fw Go.Proofs
theorem yg : Tryz.prog.cellsOf 157 = 11 := by kernel_rfl
theorem yh : Tryz.prog.bytesOf 157 = 88 := by kernel_rfl
theorem AG : eqK Tryz.prog 20 157 = some [true, true, true, true, true, true, true, false, true, true, true] := by kernel_rfl
theorem xH : Opens Tryz.prog 22 (fun (a : List Step) (s : SlV) => [s.val a.length]) (fun (a : List Step) (s : SlV) => [RdL EStep s a]) :=
 lO EStep zb Tryz.underlying22 AG yg rfl yh
theorem zn : Tryz.prog.cellsOf 22 = 1 := by kernel_rfl
theorem zh : Tryz.prog.cellsOf 99 = 3 := by kernel_rfl
theorem zo : Tryz.prog.bytesOf 99 = 24 := by kernel_rfl
theorem eqK_99 : eqK Tryz.prog 20 99 = some [true, true, true] := by kernel_rfl
theorem mW : Opens Tryz.prog 23 (fun (a : List Place) (s : SlV) => [s.val a.length]) (fun (a : List Place) (s : SlV) => [RdL EPlace s a]) :=
 lO EPlace xY Tryz.underlying23 eqK_99 zh rfl zo
theorem oX : Tryz.prog.cellsOf 23 = 1 := by kernel_rfl
theorem vY : Tryz.prog.cellsOf 25 = 1 := by kernel_rfl
theorem xG : Opens Tryz.prog 25 (fun (a : List Place) (s : SlV) => [s.val a.length]) (fun (a : List Place) (s : SlV) => [RdL EPlace s a]) :=
 (fu Tryz.underlying25 vY (bn mW rfl rfl oX gH)).map (fun (a : List Place) (s : SlV) => [s.val a.length]) (fun (a : List Place) (s : SlV) => [RdL EPlace s a]) (fun a => a.1) (fun s => s.1) (fun _ _ => rfl) (fun _ _ => rfl)
theorem vX : Tryz.prog.cellsOf 27 = 2 := by kernel_rfl
theorem xF : Opens Tryz.prog 27 (fun (a : History) (s : SlV × SlV) => [s.1.val a.l.length, s.2.val a.t.length]) (fun (a : History) (s : SlV × SlV) => [RdL EStep s.1 a.l, RdL EPlace s.2 a.t]) :=
 (fu Tryz.underlying27 vX (bn xH rfl rfl zn (bn xG rfl rfl vY gH))).map (fun (a : History) (s : SlV × SlV) => [s.1.val a.l.length, s.2.val a.t.length]) (fun (a : History) (s : SlV × SlV) => [RdL EStep s.1 a.l, RdL EPlace s.2 a.t]) (fun a => (⟨a.1, a.2.1⟩ : History)) (fun s => (s.1, s.2.1)) (fun _ _ => rfl) (fun _ _ => rfl)
theorem gP : Opens Tryz.prog 3 (fun (a : Int) (s : Unit) => [.int .i64 a]) (fun (a : Int) (s : Unit) => []) :=
 xI Tryz.underlying3
theorem iI : Tryz.prog.cellsOf 3 = 1 := by kernel_rfl
theorem AO : Tryz.prog.bytesOf 3 = 8 := by kernel_rfl
theorem ov : Opens Tryz.prog 46 (fun (a : List Int) (s : SlV) => [s.val a.length]) (fun (a : List Int) (s : SlV) => [RdL EInt s a]) :=
 rG EInt (fun _ => rfl) rfl Tryz.underlying46 Tryz.underlying3 iI AO
theorem qi : Tryz.prog.cellsOf 46 = 1 := by kernel_rfl
theorem vS : Tryz.prog.cellsOf 84 = 3 := by kernel_rfl
theorem zp : Tryz.prog.bytesOf 84 = 40 := by kernel_rfl
theorem xw : Opens Tryz.prog 84 (fun (a : Peer) (s : SlV) => [.int .i64 a.life, .int .i64 a.seq, s.val a.roots.length]) (fun (a : Peer) (s : SlV) => [RdL EInt s a.roots]) :=
 (fu Tryz.underlying84 vS (bn gP rfl rfl iI (bn gP rfl rfl iI (bn ov rfl rfl qi gH)))).map (fun (a : Peer) (s : SlV) => [.int .i64 a.life, .int .i64 a.seq, s.val a.roots.length]) (fun (a : Peer) (s : SlV) => [RdL EInt s a.roots]) (fun a => (⟨a.1, a.2.1, a.2.2.1⟩ : Peer)) (fun s => s.2.2.1) (fun _ _ => rfl) (fun _ _ => rfl)
theorem xE : Opens Tryz.prog 28 (fun (a : List Peer) (s : SlV) => [s.val a.length]) (fun (a : List Peer) (s : SlV) => [RdN NPeer s a]) :=
 mX NPeer Tryz.underlying28 xw vS rfl zp
theorem zm : Tryz.prog.cellsOf 28 = 1 := by kernel_rfl
theorem vW : Tryz.prog.cellsOf 30 = 4 := by kernel_rfl
theorem xD : Opens Tryz.prog 30 (fun (a : Hub) (s : SlV × SlV × SlV) => [s.1.val a.h.l.length, s.2.1.val a.h.t.length, .int .i64 a.version, s.2.2.val a.peers.length]) (fun (a : Hub) (s : SlV × SlV × SlV) => [RdL EStep s.1 a.h.l, RdL EPlace s.2.1 a.h.t, RdN NPeer s.2.2 a.peers]) :=
 (fu Tryz.underlying30 vW (bn xF rfl rfl vX (bn gP rfl rfl iI (bn xE rfl rfl zm gH)))).map (fun (a : Hub) (s : SlV × SlV × SlV) => [s.1.val a.h.l.length, s.2.1.val a.h.t.length, .int .i64 a.version, s.2.2.val a.peers.length]) (fun (a : Hub) (s : SlV × SlV × SlV) => [RdL EStep s.1 a.h.l, RdL EPlace s.2.1 a.h.t, RdN NPeer s.2.2 a.peers]) (fun a => (⟨a.1, a.2.1, a.2.2.1⟩ : Hub)) (fun s => (s.1.1, s.1.2, s.2.2.1)) (fun _ _ => rfl) (fun _ _ => rfl)
theorem AL : Tryz.prog.cellsOf 5 = 1 := by kernel_rfl
theorem AN : Tryz.prog.bytesOf 5 = 1 := by kernel_rfl
theorem tX : Opens Tryz.prog 31 (fun (a : List UInt8) (s : SlV) => [s.val a.length]) (fun (a : List UInt8) (s : SlV) => [RdL EByte s a]) :=
 uO Tryz.underlying31 Tryz.underlying5 AL AN
theorem vV : Tryz.prog.cellsOf 31 = 1 := by kernel_rfl
theorem vU : Tryz.prog.cellsOf 33 = 2 := by kernel_rfl
theorem xC : Opens Tryz.prog 33 (fun (a : Disk) (s : SlV × SlV) => [s.1.val a.safe.length, s.2.val a.wait.length]) (fun (a : Disk) (s : SlV × SlV) => [RdL EByte s.1 a.safe, RdL EByte s.2 a.wait]) :=
 (fu Tryz.underlying33 vU (bn tX rfl rfl vV (bn tX rfl rfl vV gH))).map (fun (a : Disk) (s : SlV × SlV) => [s.1.val a.safe.length, s.2.val a.wait.length]) (fun (a : Disk) (s : SlV × SlV) => [RdL EByte s.1 a.safe, RdL EByte s.2 a.wait]) (fun a => (⟨a.1, a.2.1⟩ : Disk)) (fun s => (s.1, s.2.1)) (fun _ _ => rfl) (fun _ _ => rfl)
theorem yS : Opens Tryz.prog 4 (fun (a : Bool) (s : Unit) => [.bool a]) (fun (a : Bool) (s : Unit) => []) :=
 wB Tryz.underlying4
theorem AM : Tryz.prog.cellsOf 4 = 1 := by kernel_rfl
theorem tk : Tryz.prog.cellsOf 76 = 7 := by kernel_rfl
theorem zq : Tryz.prog.bytesOf 76 = 56 := by kernel_rfl
theorem zT : eqK Tryz.prog 20 76 = some [true, true, true, true, true, true, true] := by kernel_rfl
theorem xz : Opens Tryz.prog 59 (fun (a : List Op) (s : SlV) => [s.val a.length]) (fun (a : List Op) (s : SlV) => [RdL EOp s a]) :=
 lO EOp zU Tryz.underlying59 zT tk rfl zq
theorem zi : Tryz.prog.cellsOf 59 = 1 := by kernel_rfl
theorem tm : Tryz.prog.cellsOf 61 = 3 := by kernel_rfl
theorem tW : Opens Tryz.prog 61 (fun (a : View) (s : SlV × SlV × SlV) => [s.1.val a.roots.length, s.2.1.val a.known.length, s.2.2.val a.way.length]) (fun (a : View) (s : SlV × SlV × SlV) => [RdL EInt s.1 a.roots, RdL EPlace s.2.1 a.known, RdL EPlace s.2.2 a.way]) :=
 (fu Tryz.underlying61 tm (bn ov rfl rfl qi (bn mW rfl rfl oX (bn mW rfl rfl oX gH)))).map (fun (a : View) (s : SlV × SlV × SlV) => [s.1.val a.roots.length, s.2.1.val a.known.length, s.2.2.val a.way.length]) (fun (a : View) (s : SlV × SlV × SlV) => [RdL EInt s.1 a.roots, RdL EPlace s.2.1 a.known, RdL EPlace s.2.2 a.way]) (fun a => (⟨a.1, a.2.1, a.2.2.1⟩ : View)) (fun s => (s.1, s.2.1, s.2.2.1)) (fun _ _ => rfl) (fun _ _ => rfl)
theorem vT : Tryz.prog.cellsOf 63 = 8 := by kernel_rfl
theorem zr : Tryz.prog.bytesOf 63 = 128 := by kernel_rfl
theorem xy : Opens Tryz.prog 63 (fun (a : Client) (s : SlV × SlV × SlV × SlV) => [.int .i64 a.life, .int .i64 a.time, .int .i64 a.seq, s.1.val a.pending.length, .int .i64 a.version, s.2.1.val a.v.roots.length, s.2.2.1.val a.v.known.length, s.2.2.2.val a.v.way.length]) (fun (a : Client) (s : SlV × SlV × SlV × SlV) => [RdL EOp s.1 a.pending, RdL EInt s.2.1 a.v.roots, RdL EPlace s.2.2.1 a.v.known, RdL EPlace s.2.2.2 a.v.way]) :=
 (fu Tryz.underlying63 vT (bn gP rfl rfl iI (bn gP rfl rfl iI (bn gP rfl rfl iI (bn xz rfl rfl zi (bn gP rfl rfl iI (bn tW rfl rfl tm gH))))))).map (fun (a : Client) (s : SlV × SlV × SlV × SlV) => [.int .i64 a.life, .int .i64 a.time, .int .i64 a.seq, s.1.val a.pending.length, .int .i64 a.version, s.2.1.val a.v.roots.length, s.2.2.1.val a.v.known.length, s.2.2.2.val a.v.way.length]) (fun (a : Client) (s : SlV × SlV × SlV × SlV) => [RdL EOp s.1 a.pending, RdL EInt s.2.1 a.v.roots, RdL EPlace s.2.2.1 a.v.known, RdL EPlace s.2.2.2 a.v.way]) (fun a => (⟨a.1, a.2.1, a.2.2.1, a.2.2.2.1, a.2.2.2.2.1, a.2.2.2.2.2.1⟩ : Client)) (fun s => (s.2.2.2.1, s.2.2.2.2.2.1.1, s.2.2.2.2.2.1.2.1, s.2.2.2.2.2.1.2.2)) (fun _ _ => rfl) (fun _ _ => rfl)
theorem xB : Opens Tryz.prog 34 (fun (a : List Client) (s : SlV) => [s.val a.length]) (fun (a : List Client) (s : SlV) => [RdN NClient s a]) :=
 mX NClient Tryz.underlying34 xy vT rfl zr
theorem zl : Tryz.prog.cellsOf 34 = 1 := by kernel_rfl
theorem xx : Opens Tryz.prog 76 (fun (a : Op) (s : Unit) => [.int .i64 a.time, .int .i64 a.who, .int .i64 a.node, .int .i64 a.parent, .int .i64 a.name, .int .i64 a.life, .int .i64 a.seq]) (fun (a : Op) (s : Unit) => []) :=
 wA EOp zU zT tk
theorem uo : Tryz.prog.cellsOf 106 = 4 := by kernel_rfl
theorem wz : Opens Tryz.prog 106 (fun (a : Delta) (s : SlV × SlV × SlV × SlV) => [s.1.val a.gone.length, s.2.1.val a.here.length, s.2.2.1.val a.wayGone.length, s.2.2.2.val a.wayHere.length]) (fun (a : Delta) (s : SlV × SlV × SlV × SlV) => [RdL EInt s.1 a.gone, RdL EPlace s.2.1 a.here, RdL EInt s.2.2.1 a.wayGone, RdL EPlace s.2.2.2 a.wayHere]) :=
 (fu Tryz.underlying106 uo (bn ov rfl rfl qi (bn mW rfl rfl oX (bn ov rfl rfl qi (bn mW rfl rfl oX gH))))).map (fun (a : Delta) (s : SlV × SlV × SlV × SlV) => [s.1.val a.gone.length, s.2.1.val a.here.length, s.2.2.1.val a.wayGone.length, s.2.2.2.val a.wayHere.length]) (fun (a : Delta) (s : SlV × SlV × SlV × SlV) => [RdL EInt s.1 a.gone, RdL EPlace s.2.1 a.here, RdL EInt s.2.2.1 a.wayGone, RdL EPlace s.2.2.2 a.wayHere]) (fun a => (⟨a.1, a.2.1, a.2.2.1, a.2.2.2.1⟩ : Delta)) (fun s => (s.1, s.2.1, s.2.2.1, s.2.2.2.1)) (fun _ _ => rfl) (fun _ _ => rfl)
theorem un : Tryz.prog.cellsOf 108 = 21 := by kernel_rfl
theorem yi : Tryz.prog.bytesOf 108 = 280 := by kernel_rfl
theorem wy : Opens Tryz.prog 108 (fun (a : Mail) (s : SlV × SlV × SlV × SlV × SlV × SlV × SlV) => [.int .i64 a.kind, .int .i64 a.who, .int .i64 a.life, .int .i64 a.seq, .int .i64 a.time, .int .i64 a.version, .int .i64 a.frm, .int .i64 a.o.time, .int .i64 a.o.who, .int .i64 a.o.node, .int .i64 a.o.parent, .int .i64 a.o.name, .int .i64 a.o.life, .int .i64 a.o.seq, s.1.val a.v.roots.length, s.2.1.val a.v.known.length, s.2.2.1.val a.v.way.length, s.2.2.2.1.val a.d.gone.length, s.2.2.2.2.1.val a.d.here.length, s.2.2.2.2.2.1.val a.d.wayGone.length, s.2.2.2.2.2.2.val a.d.wayHere.length]) (fun (a : Mail) (s : SlV × SlV × SlV × SlV × SlV × SlV × SlV) => [RdL EInt s.1 a.v.roots, RdL EPlace s.2.1 a.v.known, RdL EPlace s.2.2.1 a.v.way, RdL EInt s.2.2.2.1 a.d.gone, RdL EPlace s.2.2.2.2.1 a.d.here, RdL EInt s.2.2.2.2.2.1 a.d.wayGone, RdL EPlace s.2.2.2.2.2.2 a.d.wayHere]) :=
 (fu Tryz.underlying108 un (bn gP rfl rfl iI (bn gP rfl rfl iI (bn gP rfl rfl iI (bn gP rfl rfl iI (bn gP rfl rfl iI (bn gP rfl rfl iI (bn gP rfl rfl iI (bn xx rfl rfl tk (bn tW rfl rfl tm (bn wz rfl rfl uo gH))))))))))).map (fun (a : Mail) (s : SlV × SlV × SlV × SlV × SlV × SlV × SlV) => [.int .i64 a.kind, .int .i64 a.who, .int .i64 a.life, .int .i64 a.seq, .int .i64 a.time, .int .i64 a.version, .int .i64 a.frm, .int .i64 a.o.time, .int .i64 a.o.who, .int .i64 a.o.node, .int .i64 a.o.parent, .int .i64 a.o.name, .int .i64 a.o.life, .int .i64 a.o.seq, s.1.val a.v.roots.length, s.2.1.val a.v.known.length, s.2.2.1.val a.v.way.length, s.2.2.2.1.val a.d.gone.length, s.2.2.2.2.1.val a.d.here.length, s.2.2.2.2.2.1.val a.d.wayGone.length, s.2.2.2.2.2.2.val a.d.wayHere.length]) (fun (a : Mail) (s : SlV × SlV × SlV × SlV × SlV × SlV × SlV) => [RdL EInt s.1 a.v.roots, RdL EPlace s.2.1 a.v.known, RdL EPlace s.2.2.1 a.v.way, RdL EInt s.2.2.2.1 a.d.gone, RdL EPlace s.2.2.2.2.1 a.d.here, RdL EInt s.2.2.2.2.2.1 a.d.wayGone, RdL EPlace s.2.2.2.2.2.2 a.d.wayHere]) (fun a => (⟨a.1, a.2.1, a.2.2.1, a.2.2.2.1, a.2.2.2.2.1, a.2.2.2.2.2.1, a.2.2.2.2.2.2.1, a.2.2.2.2.2.2.2.1, a.2.2.2.2.2.2.2.2.1, a.2.2.2.2.2.2.2.2.2.1⟩ : Mail)) (fun s => (s.2.2.2.2.2.2.2.2.1.1, s.2.2.2.2.2.2.2.2.1.2.1, s.2.2.2.2.2.2.2.2.1.2.2, s.2.2.2.2.2.2.2.2.2.1.1, s.2.2.2.2.2.2.2.2.2.1.2.1, s.2.2.2.2.2.2.2.2.2.1.2.2.1, s.2.2.2.2.2.2.2.2.2.1.2.2.2)) (fun _ _ => rfl) (fun _ _ => rfl)
theorem xA : Opens Tryz.prog 35 (fun (a : List Mail) (s : SlV) => [s.val a.length]) (fun (a : List Mail) (s : SlV) => [RdN NMail s a]) :=
 mX NMail Tryz.underlying35 wy un rfl yi
theorem zk : Tryz.prog.cellsOf 35 = 1 := by kernel_rfl
theorem zj : Tryz.prog.cellsOf 37 = 9 := by kernel_rfl
theorem opens_t37 : Opens Tryz.prog 37 (fun (a : Wld) (s : SlV × SlV × SlV × SlV × SlV × SlV × SlV) => [s.1.val a.h.h.l.length, s.2.1.val a.h.h.t.length, .int .i64 a.h.version, s.2.2.1.val a.h.peers.length, s.2.2.2.1.val a.d.safe.length, s.2.2.2.2.1.val a.d.wait.length, .bool a.up, s.2.2.2.2.2.1.val a.c.length, s.2.2.2.2.2.2.val a.mail.length]) (fun (a : Wld) (s : SlV × SlV × SlV × SlV × SlV × SlV × SlV) => [RdL EStep s.1 a.h.h.l, RdL EPlace s.2.1 a.h.h.t, RdN NPeer s.2.2.1 a.h.peers, RdL EByte s.2.2.2.1 a.d.safe, RdL EByte s.2.2.2.2.1 a.d.wait, RdN NClient s.2.2.2.2.2.1 a.c, RdN NMail s.2.2.2.2.2.2 a.mail]) :=
 (fu Tryz.underlying37 zj (bn xD rfl rfl vW (bn xC rfl rfl vU (bn yS rfl rfl AM (bn xB rfl rfl zl (bn xA rfl rfl zk gH)))))).map (fun (a : Wld) (s : SlV × SlV × SlV × SlV × SlV × SlV × SlV) => [s.1.val a.h.h.l.length, s.2.1.val a.h.h.t.length, .int .i64 a.h.version, s.2.2.1.val a.h.peers.length, s.2.2.2.1.val a.d.safe.length, s.2.2.2.2.1.val a.d.wait.length, .bool a.up, s.2.2.2.2.2.1.val a.c.length, s.2.2.2.2.2.2.val a.mail.length]) (fun (a : Wld) (s : SlV × SlV × SlV × SlV × SlV × SlV × SlV) => [RdL EStep s.1 a.h.h.l, RdL EPlace s.2.1 a.h.h.t, RdN NPeer s.2.2.1 a.h.peers, RdL EByte s.2.2.2.1 a.d.safe, RdL EByte s.2.2.2.2.1 a.d.wait, RdN NClient s.2.2.2.2.2.1 a.c, RdN NMail s.2.2.2.2.2.2 a.mail]) (fun a => (⟨a.1, a.2.1, a.2.2.1, a.2.2.2.1, a.2.2.2.2.1⟩ : Wld)) (fun s => (s.1.1, s.1.2.1, s.1.2.2, s.2.1.1, s.2.1.2, s.2.2.2.1, s.2.2.2.2.1)) (fun _ _ => rfl) (fun _ _ => rfl)
end Go.Proofs.YtkjccbdeaflekaaGreatDoor
