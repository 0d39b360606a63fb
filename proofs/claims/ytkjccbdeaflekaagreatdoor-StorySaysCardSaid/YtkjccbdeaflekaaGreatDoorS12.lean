/- Part of this claim. No condition. -/
import Derived.Test.YtkjccbdeaflekaaGreatDoorS11
import Derived.Test.YtkjccbdeaflekaaGreatDoorS8
import Derived.Test.YtkjccbdeaflekaaGreatDoorS5
import Derived.Test.YtkjccbdeaflekaaGreatDoorS9
import Derived.Test.YtkjccbdeaflekaaGreatDoorS4
set_option linter.unusedVariables false
set_option linter.unusedSimpArgs false
set_option maxHeartbeats 2000000
namespace Go.Proofs.YtkjccbdeaflekaaGreatDoor
open Go Go.Proofs.YtkjccbdeaflekaaGreatDoor.Fw Go.Proofs
attribute [local irreducible] RdL RdN VarP LibP RW CW
def bI  : List Client → Nat → Int
 | [], n1 => 0
 | pn1 :: rn1, n1 => (bif ((cq pn1 (n1 : Int)) != 0) then (cq pn1 (n1 : Int)) else (bI rn1 (n1 + 1)))
def cb (w1 : Wld) : Int :=
 (bif ((w1.c.length : Int) != 3) then 4 else (bif ((cy w1.mail) != 0) then (cy w1.mail) else (bif ((cz w1.d) != 0) then (cz w1.d) else (bif w1.up then (bif decide ((w1.d.wait.length : Int) > 0) then 4 else (bif ((aV (aw w1.d).2).2 != 0) then (aV (aw w1.d).2).2 else (bif (!(es (aV (aw w1.d).2).1 w1.h)) then 4 else (bI w1.c 0)))) else (bif ((aV ([] : List Rec)).2 != 0) then (aV ([] : List Rec)).2 else (bif (!(es (aV ([] : List Rec)).1 w1.h)) then 4 else (bI w1.c 0)))))))
theorem kp (y1 : SlV) (y2 : SlV) (y3 : SlV) (y4 : SlV) (y5 : SlV) (y6 : SlV) (y7 : SlV) (w1 : Wld) : Does Tryz.prog 8 [.agg ⟨cW y1 y2 y3 y4 y5 y6 y7 w1⟩] [RdL EStep y1 w1.h.h.l, RdL EPlace y2 w1.h.h.t, RdN NPeer y3 w1.h.peers, RdL EByte y4 w1.d.safe, RdL EByte y5 w1.d.wait, RdN NClient y6 w1.c, RdN NMail y7 w1.mail, LibP Tryz.prog] (fun (_ : Unit) => .int .i64 (cb w1)) (fun _ => []) := by
 refine Dp aH Tryz.func8 Tryz.ntmps8 Tryz.results8 fun C => ?_
 refine Pc EStep y1 w1.h.h.l 88 fun hlen1 => ?_
 refine Pc EPlace y2 w1.h.h.t 24 fun hlen2 => ?_
 refine Pn NPeer y3 w1.h.peers 40 fun hlen3 => ?_
 refine Pc EByte y4 w1.d.safe 1 fun hlen4 => ?_
 refine Pc EByte y5 w1.d.wait 1 fun hlen5 => ?_
 refine Pn NClient y6 w1.c 128 fun hlen6 => ?_
 refine Pn NMail y7 w1.mail 280 fun hlen7 => ?_
 refine BxT fun g1 => ?_
 have hf := Ri (cb.eq_1 w1)
 refine Cn hf (fun hc1 hc1p hf => ?_) fun hc1 hc1p hf => ?_
 ·exact Ru
 ·refine Ck (kF y7 w1.mail) fun _ => ?_
  generalize hS1 : (cy w1.mail) = S1
  try rw [hS1] at hf
  refine Cn hf (fun hc2 hc2p hf => ?_) fun hc2 hc2p hf => ?_
  ·exact Ru
  ·refine Ck (kG y4 y5 w1.d) fun _ => ?_
   refine Cn hf (fun hc3 hc3p hf => ?_) fun hc3 hc3p hf => ?_
   ·exact Ru
   ·have hdl := nN (ai hc3)
    refine Ch hf (fun hc4 hf => ?_) fun hc4 hf => ?_
    ·refine Cp hf (fun hc5 hc5p hf => ?_) fun hc5 hc5p hf => ?_
     ·exact Ru
     ·refine Ck (ik y4 y5 w1.d hdl) fun x1 => ?_
      refine Ck (gJ x1.2.2 (aw w1.d).2) fun x2 => ?_
      generalize hS2 : (aV (aw w1.d).2) = S2
      try rw [hS2] at hf
      refine AlT fun g2 => ?_
      refine Cn hf (fun hc6 hc6p hf => ?_) fun hc6 hc6p hf => ?_
      ·exact Ru
      ·refine Ck (iR x2.1 x2.2.1 x2.2.2 S2.1 y1 y2 y3 w1.h) fun _ => ?_
       generalize hS3 : (es S2.1 w1.h) = S3
       try rw [hS3] at hf
       refine Ch hf (fun hc7 hf => ?_) fun hc7 hf => ?_
       ·exact Ru
       ·refine Lq Nat [2,54,55] [true, true] (fun n1 => ⟨[(56, .v (.int .i64 (n1 : Int)))], [], [], [], (n1 ≤ w1.c.length) ∧ (bI (w1.c.drop n1) n1) = (cb w1), w1.c.length - n1⟩) 0 ⟨Nat.zero_le _, hf.symm⟩ ?_
        rintro n1 ⟨hkn1, hf1⟩
        simp only [Lc]
        refine Cu (fun hlt0 => ?_) fun hge0 => ?_
        ·refine Tx ?_
         refine e8 NClient (X := y6) (l := w1.c) Mm fun (γ1 : Nat → SlV × SlV × SlV × SlV) => ?_
         refine Sq (Xn NClient n1) ?_
         refine Sq (q_is (v' := .agg ⟨cC (γ1 n1).1 (γ1 n1).2.1 (γ1 n1).2.2.1 (γ1 n1).2.2.2 (gt w1.c n1)⟩) (ij NClient γ1 rfl rfl Zf rfl rfl Mm (fun _ => by first | assumption | omega)) rfl) ?_
         refine Fg NClient γ1 w1.c n1 0 ?_
         refine Fg NClient γ1 w1.c n1 1 ?_
         refine Fg NClient γ1 w1.c n1 2 ?_
         refine Fg NClient γ1 w1.c n1 3 ?_
         refine AlT fun g3 => ?_
         refine Ck (gN (γ1 n1).1 (γ1 n1).2.1 (γ1 n1).2.2.1 (γ1 n1).2.2.2 (gt w1.c n1) (n1 : Int)) fun _ => ?_
         generalize hS4 : (cq (gt w1.c n1) (n1 : Int)) = S4
         have hf := Ri hf1.symm
         rw [aU hlt0, bI] at hf
         try rw [hS4] at hf
         refine Cn hf (fun hc9 hc9p hf => ?_) fun hc9 hc9p hf => ?_
         ·exact Ru
         ·refine Tt ?_
          refine ⟨(n1 + 1), ⟨hlt0, hf.symm⟩, Oo, Le4⟩
        ·have hf := Ri hf1.symm
         rw [List.drop_of_length_le hge0, bI] at hf
         exact Ru
    ·refine Tx ?_
     refine Fm NRec ?_
     refine Ck (gJ Z0 ([] : List Rec)) fun x3 => ?_
     generalize hS5 : (aV ([] : List Rec)) = S5
     try rw [hS5] at hf
     refine AlT fun g4 => ?_
     refine Cn hf (fun hc10 hc10p hf => ?_) fun hc10 hc10p hf => ?_
     ·exact Ru
     ·refine Ck (iR x3.1 x3.2.1 x3.2.2 S5.1 y1 y2 y3 w1.h) fun _ => ?_
      generalize hS6 : (es S5.1 w1.h) = S6
      try rw [hS6] at hf
      refine Ch hf (fun hc11 hf => ?_) fun hc11 hf => ?_
      ·exact Ru
      ·refine Lq Nat [2,54,55] [true, true] (fun n2 => ⟨[(56, .v (.int .i64 (n2 : Int)))], [], [], [], (n2 ≤ w1.c.length) ∧ (bI (w1.c.drop n2) n2) = (cb w1), w1.c.length - n2⟩) 0 ⟨Nat.zero_le _, hf.symm⟩ ?_
       rintro n2 ⟨hkn2, hf2⟩
       simp only [Lc]
       refine Cu (fun hlt0 => ?_) fun hge0 => ?_
       ·refine Tx ?_
        refine e8 NClient (X := y6) (l := w1.c) Mm fun (γ2 : Nat → SlV × SlV × SlV × SlV) => ?_
        refine Sq (Xn NClient n2) ?_
        refine Sq (q_is (v' := .agg ⟨cC (γ2 n2).1 (γ2 n2).2.1 (γ2 n2).2.2.1 (γ2 n2).2.2.2 (gt w1.c n2)⟩) (ij NClient γ2 rfl rfl Zf rfl rfl Mm (fun _ => by first | assumption | omega)) rfl) ?_
        refine Fg NClient γ2 w1.c n2 0 ?_
        refine Fg NClient γ2 w1.c n2 1 ?_
        refine Fg NClient γ2 w1.c n2 2 ?_
        refine Fg NClient γ2 w1.c n2 3 ?_
        refine AlT fun g5 => ?_
        refine Ck (gN (γ2 n2).1 (γ2 n2).2.1 (γ2 n2).2.2.1 (γ2 n2).2.2.2 (gt w1.c n2) (n2 : Int)) fun _ => ?_
        generalize hS7 : (cq (gt w1.c n2) (n2 : Int)) = S7
        have hf := Ri hf2.symm
        rw [aU hlt0, bI] at hf
        try rw [hS7] at hf
        refine Cn hf (fun hc13 hc13p hf => ?_) fun hc13 hc13p hf => ?_
        ·exact Ru
        ·refine Tt ?_
         refine ⟨(n2 + 1), ⟨hlt0, hf.symm⟩, Oo, Le4⟩
       ·have hf := Ri hf2.symm
        rw [List.drop_of_length_le hge0, bI] at hf
        exact Ru
def bC (w1 : Wld) (r1 : Rec) : Int × Wld :=
 (bif ((fU w1.h r1).2 != 0) then ((fU w1.h r1).2, w1) else (bif ((fe w1.d r1).2 != 0) then ((fe w1.d r1).2, w1) else (bif ((gz (fe w1.d r1).1).2 != 0) then ((gz (fe w1.d r1).1).2, w1) else (0, (⟨(fU w1.h r1).1, (gz (fe w1.d r1).1).1, w1.up, w1.c, w1.mail⟩ : Wld)))))
theorem jL (c1 : Nat) (y1 : SlV) (y2 : SlV) (y3 : SlV) (y4 : SlV) (y5 : SlV) (y6 : SlV) (y6b : Option Nat) (γ1 : Nat → SlV × SlV × SlV × SlV) (y7 : SlV) (w1 : Wld) (y8 : SlV) (r1 : Rec) : DoesG Tryz.prog 135 [.pointer (some ⟨c1, 0, none⟩), .agg ⟨cR y8 r1⟩] [RdL EStep y1 w1.h.h.l, RdL EPlace y2 w1.h.h.t, RdN NPeer y3 w1.h.peers, RdL EByte y4 w1.d.safe, RdL EByte y5 w1.d.wait, FactsG NClient γ1 w1.c, RdN NMail y7 w1.mail, RdL EInt y8 r1.roots, LibP Tryz.prog] ⟨[⟨c1, 37, cW y1 y2 y3 y4 y5 y6 y7 w1⟩], [ownL NClient.E 63 y6 y6b (zipG γ1 0 w1.c)]⟩ (fun (X : SlV × SlV × SlV × SlV × SlV × SlV × Option Nat × (Nat → SlV × SlV × SlV × SlV) × SlV) => .int .i64 (bC w1 r1).1) (fun X => [RdL EStep X.1 (bC w1 r1).2.h.h.l, RdL EPlace X.2.1 (bC w1 r1).2.h.h.t, RdN NPeer X.2.2.1 (bC w1 r1).2.h.peers, RdL EByte X.2.2.2.1 (bC w1 r1).2.d.safe, RdL EByte X.2.2.2.2.1 (bC w1 r1).2.d.wait, FactsG NClient X.2.2.2.2.2.2.2.1 (bC w1 r1).2.c, RdN NMail X.2.2.2.2.2.2.2.2 (bC w1 r1).2.mail]) (fun X => ⟨[⟨c1, 37, cW X.1 X.2.1 X.2.2.1 X.2.2.2.1 X.2.2.2.2.1 X.2.2.2.2.2.1 X.2.2.2.2.2.2.2.2 (bC w1 r1).2⟩], [ownL NClient.E 63 X.2.2.2.2.2.1 X.2.2.2.2.2.2.1 (zipG X.2.2.2.2.2.2.2.1 0 (bC w1 r1).2.c)]⟩) := by
 refine Dq aH Tryz.func135 Tryz.ntmps135 Tryz.results135 fun C => ?_
 refine Pc EInt y8 r1.roots 8 fun hlen1 => ?_
 refine BxT fun g1 => ?_
 refine Tx ?_
 refine Jn (Nat × SlV × SlV × SlV) [0, 3, 4] [true, true] (fun ⟨g2, x1, x2, x3⟩ => ⟨[(5, .v (.pointer (some ⟨g2, 0, none⟩))), (6, .v (.int .i64 (fU w1.h r1).2))], [⟨g2, 30, cB x1 x2 x3 (fU w1.h r1).1⟩], [ownL NClient.E 63 y6 y6b (zipG γ1 0 w1.c)], [RdL EStep x1 (fU w1.h r1).1.h.l, RdL EPlace x2 (fU w1.h r1).1.h.t, RdN NPeer x3 (fU w1.h r1).1.peers], True, 0⟩) ?_ ?_
 ·refine aq (fun j => match j with | 10 => none | _ => some []) ?_
  refine Dx [0,1,2,3,4] ?_
  refine Rw 5 9 ?_ ?_
  ·refine Ck (oI y1 y2 y3 w1.h y8 r1) fun x4 => ?_
   refine Dx [6,7] ?_
   refine ra_p (Fa 8 [9,10]) rfl rfl rfl Xv ?_
   refine Rn 9 ?_
   refine bP (.an rfl rfl) (am rfl) rfl rfl rfl rfl fun g3 => ?_
   refine Rn 10 ?_
   refine Wa ?_
   refine Ra 11 rfl Qp ?_
   refine Re0 ?_
   refine ⟨⟨g3, x4.1, x4.2.1, x4.2.2⟩, trivial, Le4⟩
  ·refine bP (.an rfl rfl) (am rfl) rfl rfl rfl rfl fun g4 => ?_
   refine Rn 5 ?_
   refine Ck (oI y1 y2 y3 w1.h y8 r1) fun x5 => ?_
   refine Dx [6,7] ?_
   refine ra_p (Fa 8 [10]) rfl rfl rfl Xv ?_
   refine Rn 10 ?_
   refine Wa ?_
   refine Ra 11 rfl Qp ?_
   refine Re0 ?_
   refine ⟨⟨g4, x5.1, x5.2.1, x5.2.2⟩, trivial, Le4⟩
 ·rintro ⟨g2, x1, x2, x3⟩ -
  simp only [Lc]
  have hf := Ri (bC.eq_1 w1 r1)
  refine Cn hf (fun hc1 hc1p hf => ?_) fun hc1 hc1p hf => ?_
  ·refine Rx ?_; exact Re ⟨y1, y2, y3, y4, y5, y6, y6b, γ1, y7⟩ Rv
  ·refine Tx ?_
   refine Jn (Nat × SlV × SlV) [0, 4, 5] [true, true, true] (fun ⟨g5, x6, x7⟩ => ⟨[(6, .v (.int .i64 (fe w1.d r1).2)), (7, .v (.pointer (some ⟨g5, 0, none⟩)))], [⟨g5, 33, cK x6 x7 (fe w1.d r1).1⟩], [ownL NClient.E 63 y6 y6b (zipG γ1 0 w1.c)], [RdL EByte x6 (fe w1.d r1).1.safe, RdL EByte x7 (fe w1.d r1).1.wait], True, 0⟩) ?_ ?_
   ·refine aq (fun j => match j with | 10 => none | _ => some []) ?_
    refine Dx [0,1,2,3,4] ?_
    refine Rw 5 9 ?_ ?_
    ·refine Ck (oT y4 y5 w1.d y8 r1) fun x8 => ?_
     refine Dx [6,7] ?_
     refine ra_p (Fa 8 [9,10]) rfl rfl rfl Xv ?_
     refine Rn 9 ?_
     refine bP (.an rfl rfl) (am rfl) rfl rfl rfl rfl fun g6 => ?_
     refine Rn 10 ?_
     refine Wa ?_
     refine Ra 11 rfl Qp ?_
     refine Re0 ?_
     refine ⟨⟨g6, x8.1, x8.2⟩, trivial, Le4⟩
    ·refine bP (.an rfl rfl) (am rfl) rfl rfl rfl rfl fun g7 => ?_
     refine Rn 5 ?_
     refine Ck (oT y4 y5 w1.d y8 r1) fun x9 => ?_
     refine Dx [6,7] ?_
     refine ra_p (Fa 8 [10]) rfl rfl rfl Xv ?_
     refine Rn 10 ?_
     refine Wa ?_
     refine Ra 11 rfl Qp ?_
     refine Re0 ?_
     refine ⟨⟨g7, x9.1, x9.2⟩, trivial, Le4⟩
   ·rintro ⟨g5, x6, x7⟩ -
    simp only [Lc]
    refine Cn hf (fun hc2 hc2p hf => ?_) fun hc2 hc2p hf => ?_
    ·refine Rx ?_; exact Re ⟨y1, y2, y3, y4, y5, y6, y6b, γ1, y7⟩ Rv
    ·refine Ck (rI x6 x7 (fe w1.d r1).1) fun x10 => ?_
     generalize hS1 : (gz (fe w1.d r1).1) = S1
     try rw [hS1] at hf
     refine Cn hf (fun hc3 hc3p hf => ?_) fun hc3 hc3p hf => ?_
     ·refine Rx ?_; exact Re ⟨y1, y2, y3, y4, y5, y6, y6b, γ1, y7⟩ Rv
     ·refine Tx ?_
      (repeat refine aI ?_); refine aq (fun j => match j with | 6 => none | 9 => none | _ => some []) ?_
      refine Ra 0 rfl Qp ?_
      refine ra_p (Fa 1 [2,3,4,5,6]) rfl rfl rfl Xv ?_
      refine Dx [2,4,5] ?_
      refine Rw 3 6 ?_ ?_
      ·refine xn rfl rfl rfl rfl (q_ldA rfl rfl Zf rfl Mm rfl) ?_
       refine Rn 6 ?_
       refine Wp ?_
       refine Dx [7,8] ?_
       refine Rn 9 ?_
       refine Wp ?_
       refine Re0 ?_
       refine Rx ?_; exact Re ⟨x1, x2, x3, x10.1, x10.2, y6, y6b, γ1, y7⟩ Rv
      ·refine Wp ?_
       refine Dx [3,7,8] ?_
       refine Rn 9 ?_
       refine Wp ?_
       refine Re0 ?_
       refine Rx ?_; exact Re ⟨x1, x2, x3, x10.1, x10.2, y6, y6b, γ1, y7⟩ Rv
def dZ (w1 : Wld) (m1 : Mail) : Wld :=
 (bif ((hZ w1.mail m1).2 == 0) then (⟨w1.h, w1.d, w1.up, w1.c, (hZ w1.mail m1).1⟩ : Wld) else w1)
theorem iT (c1 : Nat) (y1 : SlV) (y2 : SlV) (y3 : SlV) (y4 : SlV) (y5 : SlV) (y6 : SlV) (y6b : Option Nat) (γ1 : Nat → SlV × SlV × SlV × SlV) (y7 : SlV) (w1 : Wld) (y8 : SlV) (y9 : SlV) (y10 : SlV) (y11 : SlV) (y12 : SlV) (y13 : SlV) (y14 : SlV) (m1 : Mail) : DoesG Tryz.prog 138 [.pointer (some ⟨c1, 0, none⟩), .agg ⟨cM y8 y9 y10 y11 y12 y13 y14 m1⟩] [RdL EStep y1 w1.h.h.l, RdL EPlace y2 w1.h.h.t, RdN NPeer y3 w1.h.peers, RdL EByte y4 w1.d.safe, RdL EByte y5 w1.d.wait, FactsG NClient γ1 w1.c, RdN NMail y7 w1.mail, RdL EInt y8 m1.v.roots, RdL EPlace y9 m1.v.known, RdL EPlace y10 m1.v.way, RdL EInt y11 m1.d.gone, RdL EPlace y12 m1.d.here, RdL EInt y13 m1.d.wayGone, RdL EPlace y14 m1.d.wayHere, LibP Tryz.prog] ⟨[⟨c1, 37, cW y1 y2 y3 y4 y5 y6 y7 w1⟩], [ownL NClient.E 63 y6 y6b (zipG γ1 0 w1.c)]⟩ (fun (X : SlV × SlV × SlV × SlV × SlV × SlV × Option Nat × (Nat → SlV × SlV × SlV × SlV) × SlV) => .tuple #[]) (fun X => [RdL EStep X.1 (dZ w1 m1).h.h.l, RdL EPlace X.2.1 (dZ w1 m1).h.h.t, RdN NPeer X.2.2.1 (dZ w1 m1).h.peers, RdL EByte X.2.2.2.1 (dZ w1 m1).d.safe, RdL EByte X.2.2.2.2.1 (dZ w1 m1).d.wait, FactsG NClient X.2.2.2.2.2.2.2.1 (dZ w1 m1).c, RdN NMail X.2.2.2.2.2.2.2.2 (dZ w1 m1).mail]) (fun X => ⟨[⟨c1, 37, cW X.1 X.2.1 X.2.2.1 X.2.2.2.1 X.2.2.2.2.1 X.2.2.2.2.2.1 X.2.2.2.2.2.2.2.2 (dZ w1 m1)⟩], [ownL NClient.E 63 X.2.2.2.2.2.1 X.2.2.2.2.2.2.1 (zipG X.2.2.2.2.2.2.2.1 0 (dZ w1 m1).c)]⟩) := by
 refine Dq aH Tryz.func138 Tryz.ntmps138 Tryz.results138 fun C => ?_
 refine Pc EInt y8 m1.v.roots 8 fun hlen1 => ?_
 refine Pc EPlace y9 m1.v.known 24 fun hlen2 => ?_
 refine Pc EPlace y10 m1.v.way 24 fun hlen3 => ?_
 refine Pc EInt y11 m1.d.gone 8 fun hlen4 => ?_
 refine Pc EPlace y12 m1.d.here 24 fun hlen5 => ?_
 refine Pc EInt y13 m1.d.wayGone 8 fun hlen6 => ?_
 refine Pc EPlace y14 m1.d.wayHere 24 fun hlen7 => ?_
 refine BxT fun g1 => ?_
 refine eo ?_
 (repeat refine aI ?_); refine aq (fun _ => some []) ?_
 refine Dx [0,1,2,3,4] ?_
 refine Rn 5 ?_
 refine Ck (sH y7 w1.mail y8 y9 y10 y11 y12 y13 y14 m1) fun x1 => ?_
 refine Dx [6,7,8,9,10] ?_
 refine Re0 ?_
 have hf := Ri (dZ.eq_1 w1 m1)
 refine Ce hf (fun hc1 hc1p hf => ?_) fun hc1 hc1p hf => ?_
 ·refine Tx ?_
  rw [hf.to]
  exact ⟨⟨y1, y2, y3, y4, y5, y6, y6b, γ1, x1⟩, _, .nil, rfl, Sm, Sp, Sp⟩
 ·refine Tx ?_
  rw [hf.to]
  exact ⟨⟨y1, y2, y3, y4, y5, y6, y6b, γ1, y7⟩, _, .nil, rfl, Sm, Sp, Sp⟩
def fc (h1 : Hub) : Int :=
 (bif decide ((h1.h.l.length : Int) > 0) then (gt h1.h.l (h1.h.l.length - 1)).o.time else 0)
theorem lV (y1 : SlV) (y2 : SlV) (y3 : SlV) (h1 : Hub) : Does Tryz.prog 181 [.agg ⟨cB y1 y2 y3 h1⟩] [RdL EStep y1 h1.h.l, RdL EPlace y2 h1.h.t, RdN NPeer y3 h1.peers] (fun (_ : Unit) => .int .i64 (fc h1)) (fun _ => []) := by
 refine Dp aH Tryz.func181 Tryz.ntmps181 Tryz.results181 fun C => ?_
 refine Pc EStep y1 h1.h.l 88 fun hlen1 => ?_
 refine Pc EPlace y2 h1.h.t 24 fun hlen2 => ?_
 refine Pn NPeer y3 h1.peers 40 fun hlen3 => ?_
 refine BxT fun g1 => ?_
 have hf := Ri (fc.eq_1 h1)
 refine Cp hf (fun hc1 hc1p hf => ?_) fun hc1 hc1p hf => ?_
 ·refine Sy Tz (Xi EStep (h1.h.l.length - 1)) ?_
  refine Sq Xf ?_
  refine Sq Xf ?_
  refine Sq Xf ?_
  refine Sq (X1 EStep) ?_
  exact Ru
 ·exact Ru
def eF (w1 : Wld) (x1 : Happening) : Int × Wld :=
 (bif ((bQ w1.h x1.who).2 != 0) then ((bQ w1.h x1.who).2, w1) else (bif ((gt w1.h.peers x1.who.toNat).life == 0) then (7, w1) else (bif (x1.kind == 4) then (bif (decide (x1.n < 0) || decide (x1.n ≥ w1.h.version)) then (3, w1) else (bif ((ar w1.d).2.2 != 0) then ((ar w1.d).2.2, w1) else (bif ((aB ((ar w1.d).2.1.take x1.n.toNat)).2 != 0) then ((aB ((ar w1.d).2.1.take x1.n.toNat)).2, w1) else (bif (((gt (aB ((ar w1.d).2.1.take x1.n.toNat)).1.peers x1.who.toNat).life != (gt w1.h.peers x1.who.toNat).life) || (!(decide ((gt (aB ((ar w1.d).2.1.take x1.n.toNat)).1.peers x1.who.toNat).roots = (gt w1.h.peers x1.who.toNat).roots)))) then (7, w1) else (bif ((bQ (aB ((ar w1.d).2.1.take x1.n.toNat)).1 x1.who).2 != 0) then ((bQ (aB ((ar w1.d).2.1.take x1.n.toNat)).1 x1.who).2, w1) else (bif ((fl (bQ (aB ((ar w1.d).2.1.take x1.n.toNat)).1 x1.who).1 (bQ w1.h x1.who).1).2 != 0) then ((fl (bQ (aB ((ar w1.d).2.1.take x1.n.toNat)).1 x1.who).1 (bQ w1.h x1.who).1).2, w1) else (0, (dZ w1 (⟨3, x1.who, (gt w1.h.peers x1.who.toNat).life, (gt w1.h.peers x1.who.toNat).seq, (fc w1.h), w1.h.version, x1.n, (⟨0, 0, 0, 0, 0, 0, 0⟩ : Op), (⟨[], [], []⟩ : View), (fl (bQ (aB ((ar w1.d).2.1.take x1.n.toNat)).1 x1.who).1 (bQ w1.h x1.who).1).1⟩ : Mail))))))))) else (0, (dZ w1 (⟨2, x1.who, (gt w1.h.peers x1.who.toNat).life, (gt w1.h.peers x1.who.toNat).seq, (fc w1.h), w1.h.version, 0, (⟨0, 0, 0, 0, 0, 0, 0⟩ : Op), (bQ w1.h x1.who).1, (⟨[], [], [], []⟩ : Delta)⟩ : Mail))))))
theorem qo (c1 : Nat) (y1 : SlV) (y2 : SlV) (y3 : SlV) (y4 : SlV) (y5 : SlV) (y6 : SlV) (y6b : Option Nat) (γ1 : Nat → SlV × SlV × SlV × SlV) (y7 : SlV) (w1 : Wld) (y8 : SlV) (x1 : Happening) (hv : w1.h.version ≤ ((ar w1.d).2.1.length : Int)) : DoesG Tryz.prog 140 [.pointer (some ⟨c1, 0, none⟩), .agg ⟨cA y8 x1⟩] [RdL EStep y1 w1.h.h.l, RdL EPlace y2 w1.h.h.t, RdN NPeer y3 w1.h.peers, RdL EByte y4 w1.d.safe, RdL EByte y5 w1.d.wait, FactsG NClient γ1 w1.c, RdN NMail y7 w1.mail, RdL EInt y8 x1.roots, LibP Tryz.prog] ⟨[⟨c1, 37, cW y1 y2 y3 y4 y5 y6 y7 w1⟩], [ownL NClient.E 63 y6 y6b (zipG γ1 0 w1.c)]⟩ (fun (X : SlV × SlV × SlV × SlV × SlV × SlV × Option Nat × (Nat → SlV × SlV × SlV × SlV) × SlV) => .int .i64 (eF w1 x1).1) (fun X => [RdL EStep X.1 (eF w1 x1).2.h.h.l, RdL EPlace X.2.1 (eF w1 x1).2.h.h.t, RdN NPeer X.2.2.1 (eF w1 x1).2.h.peers, RdL EByte X.2.2.2.1 (eF w1 x1).2.d.safe, RdL EByte X.2.2.2.2.1 (eF w1 x1).2.d.wait, FactsG NClient X.2.2.2.2.2.2.2.1 (eF w1 x1).2.c, RdN NMail X.2.2.2.2.2.2.2.2 (eF w1 x1).2.mail]) (fun X => ⟨[⟨c1, 37, cW X.1 X.2.1 X.2.2.1 X.2.2.2.1 X.2.2.2.2.1 X.2.2.2.2.2.1 X.2.2.2.2.2.2.2.2 (eF w1 x1).2⟩], [ownL NClient.E 63 X.2.2.2.2.2.1 X.2.2.2.2.2.2.1 (zipG X.2.2.2.2.2.2.2.1 0 (eF w1 x1).2.c)]⟩) := by
 refine Dq aH Tryz.func140 Tryz.ntmps140 Tryz.results140 fun C => ?_
 refine Pc EInt y8 x1.roots 8 fun hlen1 => ?_
 refine BxT fun g1 => ?_
 refine Tx ?_
 refine Jn (Nat × SlV × SlV × SlV) [0, 3, 4] [true, true] (fun ⟨g2, x2, x3, x4⟩ => ⟨[(5, .v (.pointer (some ⟨g2, 0, none⟩))), (6, .v (.int .i64 (bQ w1.h x1.who).2))], [⟨g2, 61, cV x2 x3 x4 (bQ w1.h x1.who).1⟩], [ownL NClient.E 63 y6 y6b (zipG γ1 0 w1.c)], [RdL EInt x2 (bQ w1.h x1.who).1.roots, RdL EPlace x3 (bQ w1.h x1.who).1.known, RdL EPlace x4 (bQ w1.h x1.who).1.way], True, 0⟩) ?_ ?_
 ·refine aq (fun j => match j with | 11 => none | _ => some []) ?_
  refine Dx (.range 6) ?_
  refine Rw 6 10 ?_ ?_
  ·refine Ck (lW y1 y2 y3 w1.h x1.who) fun x5 => ?_
   refine Dx [7,8] ?_
   refine ra_p (Fa 9 [10,11]) rfl rfl rfl Xv ?_
   refine Rn 10 ?_
   refine bP (.an rfl rfl) (am rfl) rfl rfl rfl rfl fun g3 => ?_
   refine Rn 11 ?_
   refine Wa ?_
   refine Ra 12 rfl Qp ?_
   refine Re0 ?_
   refine ⟨⟨g3, x5.1, x5.2.1, x5.2.2⟩, trivial, Le4⟩
  ·refine bP (.an rfl rfl) (am rfl) rfl rfl rfl rfl fun g4 => ?_
   refine Rn 6 ?_
   refine Ck (lW y1 y2 y3 w1.h x1.who) fun x6 => ?_
   refine Dx [7,8] ?_
   refine ra_p (Fa 9 [11]) rfl rfl rfl Xv ?_
   refine Rn 11 ?_
   refine Wa ?_
   refine Ra 12 rfl Qp ?_
   refine Re0 ?_
   refine ⟨⟨g4, x6.1, x6.2.1, x6.2.2⟩, trivial, Le4⟩
 ·rintro ⟨g2, x2, x3, x4⟩ -
  simp only [Lc]
  have hf := Ri (eF.eq_1 w1 x1)
  refine Cn hf (fun hc1 hc1p hf => ?_) fun hc1 hc1p hf => ?_
  ·refine Rx ?_; exact Re ⟨y1, y2, y3, y4, y5, y6, y6b, γ1, y7⟩ Rv
  ·have hse := uU (ai hc1)
   refine Tx ?_
   (repeat refine aI ?_); refine aq (fun j => match j with | 10 => none | _ => some []) ?_
   refine Dx (.range 7) ?_
   refine e8 NPeer (X := y3) (l := w1.h.peers) Mm fun (γ2 : Nat → SlV) => ?_
   refine Ra 7 rfl (Xn NPeer x1.who.toNat) ?_
   refine Ra 8 rfl (q_is (v' := .agg ⟨cE (γ2 x1.who.toNat) (gt w1.h.peers x1.who.toNat)⟩) (ij NPeer γ2 rfl rfl Zf rfl rfl Mm (fun _ => by first | assumption | omega)) rfl) ?_
   refine Fg NPeer γ2 w1.h.peers x1.who.toNat 0 ?_
   refine Rn 9 ?_
   refine bP (.an rfl rfl) (am rfl) rfl rfl rfl rfl fun g5 => ?_
   refine Rn 10 ?_
   refine Wa ?_
   refine Re0 ?_
   refine Ce hf (fun hc2 hc2p hf => ?_) fun hc2 hc2p hf => ?_
   ·refine Rx ?_; exact Re ⟨y1, y2, y3, y4, y5, y6, y6b, γ1, y7⟩ Rv
   ·refine Tx ?_
    refine rb [0, 3, 4, 5, 7] [true, true, true, true] (fun (g6 : Nat) => [(8, .v (.pointer (some ⟨g6, 0, none⟩)))]) (fun (g6 : Nat) => [⟨g6, 108, [.int .i64 2, .int .i64 x1.who, .int .i64 (gt w1.h.peers x1.who.toNat).life, .int .i64 (gt w1.h.peers x1.who.toNat).seq, .int .i64 (fc w1.h), .int .i64 w1.h.version, .int .i64 0, .int .i64 0, .int .i64 0, .int .i64 0, .int .i64 0, .int .i64 0, .int .i64 0, .int .i64 0, x2.val (bQ w1.h x1.who).1.roots.length, x3.val (bQ w1.h x1.who).1.known.length, x4.val (bQ w1.h x1.who).1.way.length, .slice none 0 0, .slice none 0 0, .slice none 0 0, .slice none 0 0]⟩]) (fun (g6 : Nat) => [ownL NClient.E 63 y6 y6b (zipG γ1 0 w1.c)]) (fun (g6 : Nat) => [RdL EInt x2 (bQ w1.h x1.who).1.roots, RdL EPlace x3 (bQ w1.h x1.who).1.known, RdL EPlace x4 (bQ w1.h x1.who).1.way]) (fun _ => True) (.cons rfl (.cons rfl (.cons rfl (.cons rfl (.cons rfl (.nil _)))))) (.keep (.keep (.keep (.keep (.nil))))) ?_ ?_
    ·refine aq (fun j => match j with | 19 => none | _ => some []) ?_
     refine Dx [0,1,2,3,4,5,6,7,8,9,11,12,13,14,15,16] ?_
     refine Rw 10 18 ?_ ?_
     ·refine Ck (lV y1 y2 y3 w1.h) fun _ => ?_
      refine Ra 17 rfl Qp ?_
      refine Rn 18 ?_
      refine bP (.an rfl rfl) (am rfl) rfl rfl rfl rfl fun g7 => ?_
      refine Rn 19 ?_
      refine Wa ?_
      refine Re0 ?_
      refine ⟨g7, trivial, Le4⟩
     ·refine bP (.an rfl rfl) (am rfl) rfl rfl rfl rfl fun g8 => ?_
      refine Rn 10 ?_
      refine Ck (lV y1 y2 y3 w1.h) fun _ => ?_
      refine Ra 17 rfl Qp ?_
      refine Rn 19 ?_
      refine Wa ?_
      refine Re0 ?_
      refine ⟨g8, trivial, Le4⟩
    ·rintro g6 -
     simp only [Lc]
     refine Ce hf (fun hc3 hc3p hf => ?_) fun hc3 hc3p hf => ?_
     ·(repeat refine aI ?_); refine aq (fun _ => some []) ?_
      refine Dx (.range 13) ?_
      refine Re0 ?_
      refine Ch hf (fun hc4 hf => ?_) fun hc4 hf => ?_
      ·refine Rx ?_; exact Re ⟨y1, y2, y3, y4, y5, y6, y6b, γ1, y7⟩ Rv
      ·have hnr := hc4
       simp only [Bool.or_eq_false_iff, decide_eq_false_iff_not] at hnr
       refine Ck (ge y4 y5 w1.d) fun x7 => ?_
       refine AlT fun g9 => ?_
       refine Cn hf (fun hc5 hc5p hf => ?_) fun hc5 hc5p hf => ?_
       ·refine Rx ?_; exact Re ⟨y1, y2, y3, y4, y5, y6, y6b, γ1, y7⟩ Rv
       ·refine Sy Tz (uL NRec x1.n.toNat rfl rfl Zf rfl Zf rfl rfl Mm Zo Zo) ?_
        refine dC (F := RdN NRec x7.2.2 ((ar w1.d).2.1.take x1.n.toNat)) [RdN NRec x7.2.2 (ar w1.d).2.1] Sm (fun M w h => (allF1 h).take _) ?_
        refine Ck (hI x7.2.2 ((ar w1.d).2.1.take x1.n.toNat)) fun x8 => ?_
        generalize hS1 : (aB ((ar w1.d).2.1.take x1.n.toNat)) = S1
        try rw [hS1] at hf
        refine AlT fun g10 => ?_
        refine Cn hf (fun hc6 hc6p hf => ?_) fun hc6 hc6p hf => ?_
        ·refine Rx ?_; exact Re ⟨y1, y2, y3, y4, y5, y6, y6b, γ1, y7⟩ Rv
        ·have hrp := (nX hS1 (ai hc6)).1.three
         refine Tx ?_
         (repeat refine aI ?_); refine aq (fun _ => some []) ?_
         refine Dx [0,1,2,3] ?_
         refine e8 NPeer (X := x8.2.2) (l := S1.1.peers) Mm fun (γ3 : Nat → SlV) => ?_
         refine Rb 4 rfl (Xn NPeer x1.who.toNat) ?_
         refine Rb 5 rfl Xf ?_
         refine Rb 6 rfl (iy NPeer γ3 (v := .int .i64 (gt S1.1.peers x1.who.toNat).life) rfl rfl Zf rfl rfl Mm (fun _ => by first | assumption | omega) rfl) ?_
         refine Dx (.range' 7 8) ?_
         refine Gb 15 rfl Gz (Xn NPeer x1.who.toNat) ?_
         refine Gb 16 rfl Gz Xf ?_
         refine Gb 17 rfl Gz (iy NPeer γ3 (v := (γ3 x1.who.toNat).val (gt S1.1.peers x1.who.toNat).roots.length) rfl rfl Bt rfl rfl Mm (by first | (intro _; first | assumption | omega) | (intro h; simp at h; omega)) rfl) ?_
         refine Fg NPeer γ3 S1.1.peers x1.who.toNat 0 ?_
         refine Dx [18,19] ?_
         refine Rn 20 ?_
         refine Cy (fun hG_ => (fun y1 a y2 b => du y1 y2 a b) (γ3 x1.who.toNat) (gt S1.1.peers x1.who.toNat).roots (γ2 x1.who.toNat) (gt w1.h.peers x1.who.toNat).roots) ?_
         refine Dx [21,22] ?_
         refine Re0 ?_
         refine Ch hf (fun hc7 hf => ?_) fun hc7 hf => ?_
         ·refine Rx ?_; exact Re ⟨y1, y2, y3, y4, y5, y6, y6b, γ1, y7⟩ Rv
         ·refine Ck (lW x8.1 x8.2.1 x8.2.2 S1.1 x1.who) fun x9 => ?_
          refine AlT fun g11 => ?_
          refine Cn hf (fun hc8 hc8p hf => ?_) fun hc8 hc8p hf => ?_
          ·refine Rx ?_; exact Re ⟨y1, y2, y3, y4, y5, y6, y6b, γ1, y7⟩ Rv
          ·refine Tx ?_
           (repeat refine aI ?_); refine aq (fun j => match j with | 4 => some [g6] | 6 => some [g6] | 8 => some [g6] | _ => some []) ?_
           refine Rq (Fa 0 [2,3,4]) (.keep (.keep (.keep (.drop Sa)))) Xv ?_
           refine Rq (Fa 1 [2,3,4]) (.keep (.keep (.keep (.drop Sa)))) (q_ld1 rfl rfl Zf rfl Mm rfl) ?_
           refine Rq (Fa 2 [3,4,5,6]) (.keep (.keep (.keep (.drop Sa)))) Xv ?_
           refine Ra 3 rfl Qp ?_
           refine Rn 4 ?_
           refine W1 ?_
           refine Ra 5 rfl Qp ?_
           refine Rn 6 ?_
           refine W1 ?_
           refine Ra 7 rfl Qp ?_
           refine Rn 8 ?_
           refine Wp ?_
           refine Re0 ?_
           refine Ck (td x9.1 x9.2.1 x9.2.2 (bQ S1.1 x1.who).1 x2 x3 x4 (bQ w1.h x1.who).1) fun x10 => ?_
           generalize hS2 : (fl (bQ S1.1 x1.who).1 (bQ w1.h x1.who).1) = S2
           try rw [hS2] at hf
           refine Tx ?_
           refine Wp ?_
           refine Cn hf (fun hc9 hc9p hf => ?_) fun hc9 hc9p hf => ?_
           ·refine Rx ?_; exact Re ⟨y1, y2, y3, y4, y5, y6, y6b, γ1, y7⟩ Rv
           ·refine Tx ?_
            refine Fr EInt ?_
            refine Fr EPlace ?_
            refine Cm (iT c1 y1 y2 y3 y4 y5 y6 y6b γ1 y7 w1 Z0 Z0 Z0 x10.1 x10.2.1 x10.2.2.1 x10.2.2.2 (⟨3, x1.who, (gt w1.h.peers x1.who.toNat).life, (gt w1.h.peers x1.who.toNat).seq, (fc w1.h), w1.h.version, x1.n, (⟨0, 0, 0, 0, 0, 0, 0⟩ : Op), (⟨[], [], []⟩ : View), S2.1⟩ : Mail)) fun x11 => ?_
            generalize hS3 : (dZ w1 (⟨3, x1.who, (gt w1.h.peers x1.who.toNat).life, (gt w1.h.peers x1.who.toNat).seq, (fc w1.h), w1.h.version, x1.n, (⟨0, 0, 0, 0, 0, 0, 0⟩ : Op), (⟨[], [], []⟩ : View), S2.1⟩ : Mail)) = S3
            try rw [hS3] at hf
            refine Rx ?_; exact Re ⟨x11.1, x11.2.1, x11.2.2.1, x11.2.2.2.1, x11.2.2.2.2.1, x11.2.2.2.2.2.1, x11.2.2.2.2.2.2.1, x11.2.2.2.2.2.2.2.1, x11.2.2.2.2.2.2.2.2⟩ Rv
     ·refine Tx ?_
      refine Fr EInt ?_
      refine Fr EPlace ?_
      refine Cm (iT c1 y1 y2 y3 y4 y5 y6 y6b γ1 y7 w1 x2 x3 x4 Z0 Z0 Z0 Z0 (⟨2, x1.who, (gt w1.h.peers x1.who.toNat).life, (gt w1.h.peers x1.who.toNat).seq, (fc w1.h), w1.h.version, 0, (⟨0, 0, 0, 0, 0, 0, 0⟩ : Op), (bQ w1.h x1.who).1, (⟨[], [], [], []⟩ : Delta)⟩ : Mail)) fun x12 => ?_
      generalize hS4 : (dZ w1 (⟨2, x1.who, (gt w1.h.peers x1.who.toNat).life, (gt w1.h.peers x1.who.toNat).seq, (fc w1.h), w1.h.version, 0, (⟨0, 0, 0, 0, 0, 0, 0⟩ : Op), (bQ w1.h x1.who).1, (⟨[], [], [], []⟩ : Delta)⟩ : Mail)) = S4
      try rw [hS4] at hf
      refine Rx ?_; exact Re ⟨x12.1, x12.2.1, x12.2.2.1, x12.2.2.2.1, x12.2.2.2.2.1, x12.2.2.2.2.2.1, x12.2.2.2.2.2.2.1, x12.2.2.2.2.2.2.2.1, x12.2.2.2.2.2.2.2.2⟩ Rv
theorem sF (w : Wld) (r : Rec) : (bC w r).2.c = w.c := by
 unfold bC
 cases ((fU w.h r).2 != 0) <;> cases ((fe w.d r).2 != 0) <;> cases ((gz (fe w.d r).1).2 != 0) <;> rfl
def db (w1 : Wld) (who1 : Int) : Int × Wld :=
 (bif ((bC w1 (⟨2, who1, ((gt w1.h.peers who1.toNat).life + 1), ([] : List Int), (⟨0, 0, 0, 0, 0, 0, 0⟩ : Op)⟩ : Rec)).1 != 0) then ((bC w1 (⟨2, who1, ((gt w1.h.peers who1.toNat).life + 1), ([] : List Int), (⟨0, 0, 0, 0, 0, 0, 0⟩ : Op)⟩ : Rec)).1, (bC w1 (⟨2, who1, ((gt w1.h.peers who1.toNat).life + 1), ([] : List Int), (⟨0, 0, 0, 0, 0, 0, 0⟩ : Op)⟩ : Rec)).2) else (bif ((dk ((gt w1.h.peers who1.toNat).life + 1) (fc (bC w1 (⟨2, who1, ((gt w1.h.peers who1.toNat).life + 1), ([] : List Int), (⟨0, 0, 0, 0, 0, 0, 0⟩ : Op)⟩ : Rec)).2.h)).2 == 0) then ((dk ((gt w1.h.peers who1.toNat).life + 1) (fc (bC w1 (⟨2, who1, ((gt w1.h.peers who1.toNat).life + 1), ([] : List Int), (⟨0, 0, 0, 0, 0, 0, 0⟩ : Op)⟩ : Rec)).2.h)).2, (⟨(bC w1 (⟨2, who1, ((gt w1.h.peers who1.toNat).life + 1), ([] : List Int), (⟨0, 0, 0, 0, 0, 0, 0⟩ : Op)⟩ : Rec)).2.h, (bC w1 (⟨2, who1, ((gt w1.h.peers who1.toNat).life + 1), ([] : List Int), (⟨0, 0, 0, 0, 0, 0, 0⟩ : Op)⟩ : Rec)).2.d, (bC w1 (⟨2, who1, ((gt w1.h.peers who1.toNat).life + 1), ([] : List Int), (⟨0, 0, 0, 0, 0, 0, 0⟩ : Op)⟩ : Rec)).2.up, ((bC w1 (⟨2, who1, ((gt w1.h.peers who1.toNat).life + 1), ([] : List Int), (⟨0, 0, 0, 0, 0, 0, 0⟩ : Op)⟩ : Rec)).2.c.set who1.toNat (dk ((gt w1.h.peers who1.toNat).life + 1) (fc (bC w1 (⟨2, who1, ((gt w1.h.peers who1.toNat).life + 1), ([] : List Int), (⟨0, 0, 0, 0, 0, 0, 0⟩ : Op)⟩ : Rec)).2.h)).1), (bC w1 (⟨2, who1, ((gt w1.h.peers who1.toNat).life + 1), ([] : List Int), (⟨0, 0, 0, 0, 0, 0, 0⟩ : Op)⟩ : Rec)).2.mail⟩ : Wld)) else ((dk ((gt w1.h.peers who1.toNat).life + 1) (fc (bC w1 (⟨2, who1, ((gt w1.h.peers who1.toNat).life + 1), ([] : List Int), (⟨0, 0, 0, 0, 0, 0, 0⟩ : Op)⟩ : Rec)).2.h)).2, (bC w1 (⟨2, who1, ((gt w1.h.peers who1.toNat).life + 1), ([] : List Int), (⟨0, 0, 0, 0, 0, 0, 0⟩ : Op)⟩ : Rec)).2)))
theorem pZ (c1 : Nat) (y1 : SlV) (y2 : SlV) (y3 : SlV) (y4 : SlV) (y5 : SlV) (y6 : SlV) (y6b : Option Nat) (γ1 : Nat → SlV × SlV × SlV × SlV) (y7 : SlV) (w1 : Wld) (who1 : Int) (hk : dt w1.h = 0) (hc : w1.c.length = 3) (hw : 0 ≤ who1 ∧ who1 < 3) : DoesG Tryz.prog 139 [.pointer (some ⟨c1, 0, none⟩), .int .i64 who1] [RdL EStep y1 w1.h.h.l, RdL EPlace y2 w1.h.h.t, RdN NPeer y3 w1.h.peers, RdL EByte y4 w1.d.safe, RdL EByte y5 w1.d.wait, FactsG NClient γ1 w1.c, RdN NMail y7 w1.mail, LibP Tryz.prog] ⟨[⟨c1, 37, [y1.val w1.h.h.l.length, y2.val w1.h.h.t.length, .int .i64 w1.h.version, y3.val w1.h.peers.length, y4.val w1.d.safe.length, y5.val w1.d.wait.length, .bool w1.up, y6.val w1.c.length, y7.val w1.mail.length]⟩], [ownL NClient.E 63 y6 y6b (zipG γ1 0 w1.c)]⟩ (fun (X : SlV × SlV × SlV × SlV × SlV × SlV × Option Nat × (Nat → SlV × SlV × SlV × SlV) × SlV) => .int .i64 (db w1 who1).1) (fun X => [RdL EStep X.1 (db w1 who1).2.h.h.l, RdL EPlace X.2.1 (db w1 who1).2.h.h.t, RdN NPeer X.2.2.1 (db w1 who1).2.h.peers, RdL EByte X.2.2.2.1 (db w1 who1).2.d.safe, RdL EByte X.2.2.2.2.1 (db w1 who1).2.d.wait, FactsG NClient X.2.2.2.2.2.2.2.1 (db w1 who1).2.c, RdN NMail X.2.2.2.2.2.2.2.2 (db w1 who1).2.mail]) (fun X => ⟨[⟨c1, 37, [X.1.val (db w1 who1).2.h.h.l.length, X.2.1.val (db w1 who1).2.h.h.t.length, .int .i64 (db w1 who1).2.h.version, X.2.2.1.val (db w1 who1).2.h.peers.length, X.2.2.2.1.val (db w1 who1).2.d.safe.length, X.2.2.2.2.1.val (db w1 who1).2.d.wait.length, .bool (db w1 who1).2.up, X.2.2.2.2.2.1.val (db w1 who1).2.c.length, X.2.2.2.2.2.2.2.2.val (db w1 who1).2.mail.length]⟩], [ownL NClient.E 63 X.2.2.2.2.2.1 X.2.2.2.2.2.2.1 (zipG X.2.2.2.2.2.2.2.1 0 (db w1 who1).2.c)]⟩) := by
 refine Dq aH Tryz.func139 Tryz.ntmps139 Tryz.results139 fun C => ?_
 have hpl := (go hk).2.2.2
 have hlb := (mZ hk (gt w1.h.peers who1.toNat) (im (by omega))).1
 refine Tx ?_
 refine e8 NPeer (X := y3) (l := w1.h.peers) Mm fun (γ2 : Nat → SlV) => ?_
 refine Sq (Xn NPeer who1.toNat) ?_
 refine Sq Xf ?_
 refine Sq (iy NPeer γ2 (v := .int .i64 (gt w1.h.peers who1.toNat).life) rfl rfl Zf rfl rfl Mm (fun _ => by first | assumption | omega) rfl) ?_
 refine Tt ?_
 refine Fr EInt ?_
 refine Cm (jL c1 y1 y2 y3 y4 y5 y6 y6b γ1 y7 w1 Z0 (⟨2, who1, ((gt w1.h.peers who1.toNat).life + 1), ([] : List Int), (⟨0, 0, 0, 0, 0, 0, 0⟩ : Op)⟩ : Rec)) fun x1 => ?_
 generalize hS1 : (bC w1 (⟨2, who1, ((gt w1.h.peers who1.toNat).life + 1), ([] : List Int), (⟨0, 0, 0, 0, 0, 0, 0⟩ : Op)⟩ : Rec)) = S1
 have hf := Ri (db.eq_1 w1 who1)
 try rw [hS1] at hf
 refine Cn hf (fun hc1 hc1p hf => ?_) fun hc1 hc1p hf => ?_
 ·refine Rx ?_; exact Re ⟨x1.1, x1.2.1, x1.2.2.1, x1.2.2.2.1, x1.2.2.2.2.1, x1.2.2.2.2.2.1, x1.2.2.2.2.2.2.1, x1.2.2.2.2.2.2.2.1, x1.2.2.2.2.2.2.2.2⟩ Rv
 ·have hwc : S1.2.c.length = 3 := by rw [← hS1, sF]; exact hc
  refine Ck (lV x1.1 x1.2.1 x1.2.2.1 S1.2.h) fun _ => ?_
  refine Ck (pp ((gt w1.h.peers who1.toNat).life + 1) (fc S1.2.h)) fun x2 => ?_
  generalize hS2 : (dk ((gt w1.h.peers who1.toNat).life + 1) (fc S1.2.h)) = S2
  try rw [hS2] at hf
  refine AlT fun g1 => ?_
  refine Ce hf (fun hc2 hc2p hf => ?_) fun hc2 hc2p hf => ?_
  ·(repeat refine aI ?_); refine aq (fun j => match j with | 7 => none | _ => some []) ?_
   refine Dx (.range 6) ?_
   refine Oq NClient.E x1.2.2.2.2.2.1 (zipG x1.2.2.2.2.2.2.2.1 0 S1.2.c) (Fa 6 []) (fQ NClient x1.2.2.2.2.2.2.2.1 who1.toNat rfl rfl Zf rfl Zf rfl rfl rfl (.head _) rfl Zo Za) ?_
   refine Rn 7 ?_
   refine Wn NClient x1.2.2.2.2.2.2.2.1 S1.2.c who1.toNat 0 (x2.1, x2.2.1, x2.2.2.1, x2.2.2.2) S2.1 x1.2.2.2.2.2.2.1 ?_
   refine Fu NClient x1.2.2.2.2.2.2.2.1 S1.2.c who1.toNat (x2.1, x2.2.1, x2.2.2.1, x2.2.2.2) S2.1 ?_
   have hv1 : x1.2.2.2.2.2.1.val S1.2.c.length = x1.2.2.2.2.2.1.val (S1.2.c.set who1.toNat S2.1).length := congrArg (SlV.val x1.2.2.2.2.2.1) List.length_set.symm
   (try simp only [cB, cC, cW]); try rw [hv1]
   refine Re0 ?_
   refine Rx ?_; exact Re ⟨x1.1, x1.2.1, x1.2.2.1, x1.2.2.2.1, x1.2.2.2.2.1, x1.2.2.2.2.2.1, x1.2.2.2.2.2.2.1, (updG x1.2.2.2.2.2.2.2.1 who1.toNat (x2.1, x2.2.1, x2.2.2.1, x2.2.2.2)), x1.2.2.2.2.2.2.2.2⟩ Rv
  ·refine Rx ?_; exact Re ⟨x1.1, x1.2.1, x1.2.2.1, x1.2.2.2.1, x1.2.2.2.2.1, x1.2.2.2.2.2.1, x1.2.2.2.2.2.2.1, x1.2.2.2.2.2.2.2.1, x1.2.2.2.2.2.2.2.2⟩ Rv
def cX (w1 : Wld) (x1 : Happening) : Int × Wld :=
 (bif ((aL w1.mail x1.n (x1.kind == 8)).2.2 != 0) then ((aL w1.mail x1.n (x1.kind == 8)).2.2, w1) else (bif ((aL w1.mail x1.n (x1.kind == 8)).2.1.kind != 1) then (bif ((bz (gt w1.c (aL w1.mail x1.n (x1.kind == 8)).2.1.who.toNat) (aL w1.mail x1.n (x1.kind == 8)).2.1.who (aL w1.mail x1.n (x1.kind == 8)).2.1).2 == 0) then ((bz (gt w1.c (aL w1.mail x1.n (x1.kind == 8)).2.1.who.toNat) (aL w1.mail x1.n (x1.kind == 8)).2.1.who (aL w1.mail x1.n (x1.kind == 8)).2.1).2, (⟨w1.h, w1.d, w1.up, (w1.c.set (aL w1.mail x1.n (x1.kind == 8)).2.1.who.toNat (bz (gt w1.c (aL w1.mail x1.n (x1.kind == 8)).2.1.who.toNat) (aL w1.mail x1.n (x1.kind == 8)).2.1.who (aL w1.mail x1.n (x1.kind == 8)).2.1).1), (aL w1.mail x1.n (x1.kind == 8)).1⟩ : Wld)) else ((bz (gt w1.c (aL w1.mail x1.n (x1.kind == 8)).2.1.who.toNat) (aL w1.mail x1.n (x1.kind == 8)).2.1.who (aL w1.mail x1.n (x1.kind == 8)).2.1).2, w1)) else (bif (!w1.up) then (7, w1) else (0, (bC (⟨w1.h, w1.d, w1.up, w1.c, (aL w1.mail x1.n (x1.kind == 8)).1⟩ : Wld) (⟨1, 0, 0, ([] : List Int), (aL w1.mail x1.n (x1.kind == 8)).2.1.o⟩ : Rec)).2))))
theorem mE (c1 : Nat) (y1 : SlV) (y2 : SlV) (y3 : SlV) (y4 : SlV) (y5 : SlV) (y6 : SlV) (y6b : Option Nat) (γ1 : Nat → SlV × SlV × SlV × SlV) (y7 : SlV) (w1 : Wld) (y8 : SlV) (x1 : Happening) (hc : w1.c.length = 3) : DoesG Tryz.prog 85 [.pointer (some ⟨c1, 0, none⟩), .agg ⟨cA y8 x1⟩] [RdL EStep y1 w1.h.h.l, RdL EPlace y2 w1.h.h.t, RdN NPeer y3 w1.h.peers, RdL EByte y4 w1.d.safe, RdL EByte y5 w1.d.wait, FactsG NClient γ1 w1.c, RdN NMail y7 w1.mail, RdL EInt y8 x1.roots, LibP Tryz.prog] ⟨[⟨c1, 37, [y1.val w1.h.h.l.length, y2.val w1.h.h.t.length, .int .i64 w1.h.version, y3.val w1.h.peers.length, y4.val w1.d.safe.length, y5.val w1.d.wait.length, .bool w1.up, y6.val w1.c.length, y7.val w1.mail.length]⟩], [ownL NClient.E 63 y6 y6b (zipG γ1 0 w1.c)]⟩ (fun (X : SlV × SlV × SlV × SlV × SlV × SlV × Option Nat × (Nat → SlV × SlV × SlV × SlV) × SlV) => .int .i64 (cX w1 x1).1) (fun X => [RdL EStep X.1 (cX w1 x1).2.h.h.l, RdL EPlace X.2.1 (cX w1 x1).2.h.h.t, RdN NPeer X.2.2.1 (cX w1 x1).2.h.peers, RdL EByte X.2.2.2.1 (cX w1 x1).2.d.safe, RdL EByte X.2.2.2.2.1 (cX w1 x1).2.d.wait, FactsG NClient X.2.2.2.2.2.2.2.1 (cX w1 x1).2.c, RdN NMail X.2.2.2.2.2.2.2.2 (cX w1 x1).2.mail]) (fun X => ⟨[⟨c1, 37, [X.1.val (cX w1 x1).2.h.h.l.length, X.2.1.val (cX w1 x1).2.h.h.t.length, .int .i64 (cX w1 x1).2.h.version, X.2.2.1.val (cX w1 x1).2.h.peers.length, X.2.2.2.1.val (cX w1 x1).2.d.safe.length, X.2.2.2.2.1.val (cX w1 x1).2.d.wait.length, .bool (cX w1 x1).2.up, X.2.2.2.2.2.1.val (cX w1 x1).2.c.length, X.2.2.2.2.2.2.2.2.val (cX w1 x1).2.mail.length]⟩], [ownL NClient.E 63 X.2.2.2.2.2.1 X.2.2.2.2.2.2.1 (zipG X.2.2.2.2.2.2.2.1 0 (cX w1 x1).2.c)]⟩) := by
 refine Dq aH Tryz.func85 Tryz.ntmps85 Tryz.results85 fun C => ?_
 refine Pc EInt y8 x1.roots 8 fun hlen1 => ?_
 refine BxT fun g1 => ?_
 refine Tx ?_
 refine Jn (SlV × Nat × SlV × SlV × SlV × SlV × SlV × SlV × SlV) [0, 4] [true, true] (fun ⟨x2, g2, x3, x4, x5, x6, x7, x8, x9⟩ => ⟨[(5, .v (x2.val (aL w1.mail x1.n (x1.kind == 8)).1.length)), (6, .v (.pointer (some ⟨g2, 0, none⟩))), (7, .v (.int .i64 (aL w1.mail x1.n (x1.kind == 8)).2.2))], [⟨g2, 108, [.int .i64 (aL w1.mail x1.n (x1.kind == 8)).2.1.kind, .int .i64 (aL w1.mail x1.n (x1.kind == 8)).2.1.who, .int .i64 (aL w1.mail x1.n (x1.kind == 8)).2.1.life, .int .i64 (aL w1.mail x1.n (x1.kind == 8)).2.1.seq, .int .i64 (aL w1.mail x1.n (x1.kind == 8)).2.1.time, .int .i64 (aL w1.mail x1.n (x1.kind == 8)).2.1.version, .int .i64 (aL w1.mail x1.n (x1.kind == 8)).2.1.frm, .int .i64 (aL w1.mail x1.n (x1.kind == 8)).2.1.o.time, .int .i64 (aL w1.mail x1.n (x1.kind == 8)).2.1.o.who, .int .i64 (aL w1.mail x1.n (x1.kind == 8)).2.1.o.node, .int .i64 (aL w1.mail x1.n (x1.kind == 8)).2.1.o.parent, .int .i64 (aL w1.mail x1.n (x1.kind == 8)).2.1.o.name, .int .i64 (aL w1.mail x1.n (x1.kind == 8)).2.1.o.life, .int .i64 (aL w1.mail x1.n (x1.kind == 8)).2.1.o.seq, x3.val (aL w1.mail x1.n (x1.kind == 8)).2.1.v.roots.length, x4.val (aL w1.mail x1.n (x1.kind == 8)).2.1.v.known.length, x5.val (aL w1.mail x1.n (x1.kind == 8)).2.1.v.way.length, x6.val (aL w1.mail x1.n (x1.kind == 8)).2.1.d.gone.length, x7.val (aL w1.mail x1.n (x1.kind == 8)).2.1.d.here.length, x8.val (aL w1.mail x1.n (x1.kind == 8)).2.1.d.wayGone.length, x9.val (aL w1.mail x1.n (x1.kind == 8)).2.1.d.wayHere.length]⟩], [ownL NClient.E 63 y6 y6b (zipG γ1 0 w1.c)], [RdN NMail x2 (aL w1.mail x1.n (x1.kind == 8)).1, RdL EInt x3 (aL w1.mail x1.n (x1.kind == 8)).2.1.v.roots, RdL EPlace x4 (aL w1.mail x1.n (x1.kind == 8)).2.1.v.known, RdL EPlace x5 (aL w1.mail x1.n (x1.kind == 8)).2.1.v.way, RdL EInt x6 (aL w1.mail x1.n (x1.kind == 8)).2.1.d.gone, RdL EPlace x7 (aL w1.mail x1.n (x1.kind == 8)).2.1.d.here, RdL EInt x8 (aL w1.mail x1.n (x1.kind == 8)).2.1.d.wayGone, RdL EPlace x9 (aL w1.mail x1.n (x1.kind == 8)).2.1.d.wayHere], True, 0⟩) ?_ ?_
 ·refine aq (fun j => match j with | 16 => none | _ => some []) ?_
  refine Dx (.range 9) ?_
  refine Rw 9 14 ?_ ?_
  ·refine Ck (jV y7 w1.mail x1.n (x1.kind == 8)) fun x10 => ?_
   refine Dx [10,11,12] ?_
   refine ra_p (Fa 13 [14,15,16]) rfl rfl rfl Xv ?_
   refine Rn 14 ?_
   refine bP (.an rfl rfl) (am rfl) rfl rfl rfl rfl fun g3 => ?_
   refine Ra 15 rfl Qp ?_
   refine Rn 16 ?_
   refine Wa ?_
   refine Ra 17 rfl Qp ?_
   refine Re0 ?_
   refine ⟨⟨x10.1, g3, x10.2.1, x10.2.2.1, x10.2.2.2.1, x10.2.2.2.2.1, x10.2.2.2.2.2.1, x10.2.2.2.2.2.2.1, x10.2.2.2.2.2.2.2⟩, trivial, Le4⟩
  ·refine bP (.an rfl rfl) (am rfl) rfl rfl rfl rfl fun g4 => ?_
   refine Rn 9 ?_
   refine Ck (jV y7 w1.mail x1.n (x1.kind == 8)) fun x11 => ?_
   refine Dx [10,11,12] ?_
   refine ra_p (Fa 13 [15,16]) rfl rfl rfl Xv ?_
   refine Ra 15 rfl Qp ?_
   refine Rn 16 ?_
   refine Wa ?_
   refine Ra 17 rfl Qp ?_
   refine Re0 ?_
   refine ⟨⟨x11.1, g4, x11.2.1, x11.2.2.1, x11.2.2.2.1, x11.2.2.2.2.1, x11.2.2.2.2.2.1, x11.2.2.2.2.2.2.1, x11.2.2.2.2.2.2.2⟩, trivial, Le4⟩
 ·rintro ⟨x2, g2, x3, x4, x5, x6, x7, x8, x9⟩ -
  simp only [Lc]
  generalize hS1 : (aL w1.mail x1.n (x1.kind == 8)) = S1
  have hf := Ri (cX.eq_1 w1 x1)
  try rw [hS1] at hf
  refine Cn hf (fun hc1 hc1p hf => ?_) fun hc1 hc1p hf => ?_
  ·refine Rx ?_; exact Re ⟨y1, y2, y3, y4, y5, y6, y6b, γ1, y7⟩ Rv
  ·have htw := ym hS1 (ai hc1)
   refine Cn hf (fun hc2 hc2p hf => ?_) fun hc2 hc2p hf => ?_
   ·(repeat refine aI ?_)
    refine Jn (Nat × SlV × SlV × SlV × SlV) [0, 4, 5, 6] [true, true, true] (fun ⟨g5, x12, x13, x14, x15⟩ => ⟨[(8, .v (.pointer (some ⟨g5, 0, none⟩))), (9, .v (.int .i64 (bz (gt w1.c S1.2.1.who.toNat) S1.2.1.who S1.2.1).2))], [⟨g5, 63, [.int .i64 (bz (gt w1.c S1.2.1.who.toNat) S1.2.1.who S1.2.1).1.life, .int .i64 (bz (gt w1.c S1.2.1.who.toNat) S1.2.1.who S1.2.1).1.time, .int .i64 (bz (gt w1.c S1.2.1.who.toNat) S1.2.1.who S1.2.1).1.seq, x12.val (bz (gt w1.c S1.2.1.who.toNat) S1.2.1.who S1.2.1).1.pending.length, .int .i64 (bz (gt w1.c S1.2.1.who.toNat) S1.2.1.who S1.2.1).1.version, x13.val (bz (gt w1.c S1.2.1.who.toNat) S1.2.1.who S1.2.1).1.v.roots.length, x14.val (bz (gt w1.c S1.2.1.who.toNat) S1.2.1.who S1.2.1).1.v.known.length, x15.val (bz (gt w1.c S1.2.1.who.toNat) S1.2.1.who S1.2.1).1.v.way.length]⟩], [ownL NClient.E 63 y6 y6b (zipG γ1 0 w1.c)], [RdL EOp x12 (bz (gt w1.c S1.2.1.who.toNat) S1.2.1.who S1.2.1).1.pending, RdL EInt x13 (bz (gt w1.c S1.2.1.who.toNat) S1.2.1.who S1.2.1).1.v.roots, RdL EPlace x14 (bz (gt w1.c S1.2.1.who.toNat) S1.2.1.who S1.2.1).1.v.known, RdL EPlace x15 (bz (gt w1.c S1.2.1.who.toNat) S1.2.1.who S1.2.1).1.v.way], True, 0⟩) ?_ ?_
    ·refine aq (fun j => match j with | 16 => none | _ => some []) ?_
     refine Dx (.range 6) ?_
     refine Oq NClient.E y6 (zipG γ1 0 w1.c) (Fb 6 [8,9,10,15]) (fQ NClient γ1 S1.2.1.who.toNat rfl rfl Zf rfl Zf rfl rfl rfl (.head _) rfl Zo Za) ?_
     refine Oq NClient.E y6 (zipG γ1 0 w1.c) (Fb 7 [8,9,10,15]) (q_is (v' := .agg ⟨cC (γ1 S1.2.1.who.toNat).1 (γ1 S1.2.1.who.toNat).2.1 (γ1 S1.2.1.who.toNat).2.2.1 (γ1 S1.2.1.who.toNat).2.2.2 (gt w1.c S1.2.1.who.toNat)⟩) (ij NClient γ1 rfl rfl Zf rfl rfl (.head _) Za) rfl) ?_
     refine Fg NClient γ1 w1.c S1.2.1.who.toNat 0 ?_
     refine Fg NClient γ1 w1.c S1.2.1.who.toNat 1 ?_
     refine Fg NClient γ1 w1.c S1.2.1.who.toNat 2 ?_
     refine Fg NClient γ1 w1.c S1.2.1.who.toNat 3 ?_
     refine Dx [8,9,10] ?_
     refine Rw 11 15 ?_ ?_
     ·refine Ck (mi (γ1 S1.2.1.who.toNat).1 (γ1 S1.2.1.who.toNat).2.1 (γ1 S1.2.1.who.toNat).2.2.1 (γ1 S1.2.1.who.toNat).2.2.2 (gt w1.c S1.2.1.who.toNat) S1.2.1.who x3 x4 x5 x6 x7 x8 x9 S1.2.1) fun x16 => ?_
      refine Dx [12,13] ?_
      refine ra_p (Fa 14 [15,16]) rfl rfl rfl Xv ?_
      refine Rn 15 ?_
      refine bP (.an rfl rfl) (am rfl) rfl rfl rfl rfl fun g6 => ?_
      refine Rn 16 ?_
      refine Wa ?_
      refine Ra 17 rfl Qp ?_
      refine Re0 ?_
      refine ⟨⟨g6, x16.1, x16.2.1, x16.2.2.1, x16.2.2.2⟩, trivial, Le4⟩
     ·refine bP (.an rfl rfl) (am rfl) rfl rfl rfl rfl fun g7 => ?_
      refine Rn 11 ?_
      refine Ck (mi (γ1 S1.2.1.who.toNat).1 (γ1 S1.2.1.who.toNat).2.1 (γ1 S1.2.1.who.toNat).2.2.1 (γ1 S1.2.1.who.toNat).2.2.2 (gt w1.c S1.2.1.who.toNat) S1.2.1.who x3 x4 x5 x6 x7 x8 x9 S1.2.1) fun x17 => ?_
      refine Dx [12,13] ?_
      refine ra_p (Fa 14 [16]) rfl rfl rfl Xv ?_
      refine Rn 16 ?_
      refine Wa ?_
      refine Ra 17 rfl Qp ?_
      refine Re0 ?_
      refine ⟨⟨g7, x17.1, x17.2.1, x17.2.2.1, x17.2.2.2⟩, trivial, Le4⟩
    ·rintro ⟨g5, x12, x13, x14, x15⟩ -
     simp only [Lc]
     generalize hS2 : (bz (gt w1.c S1.2.1.who.toNat) S1.2.1.who S1.2.1) = S2
     try rw [hS2] at hf
     refine Ce hf (fun hc3 hc3p hf => ?_) fun hc3 hc3p hf => ?_
     ·(repeat refine aI ?_); refine aq (fun j => match j with | 10 => none | 13 => none | _ => some []) ?_
      refine Dx (.range 6) ?_
      refine ra_p (Fa 6 [7,8,9,10]) rfl rfl rfl Xv ?_
      refine Ra 7 rfl XA ?_
      refine ra_p (Fa 8 [9,10]) rfl rfl rfl Xv ?_
      refine Oq NClient.E y6 (zipG γ1 0 w1.c) (Fa 9 []) (fQ NClient γ1 S1.2.1.who.toNat rfl rfl Zf rfl Zf rfl rfl rfl (.head _) rfl Zo Za) ?_
      refine Rn 10 ?_
      refine Wn NClient γ1 w1.c S1.2.1.who.toNat 0 (x12, x13, x14, x15) S2.1 y6b ?_
      refine Fu NClient γ1 w1.c S1.2.1.who.toNat (x12, x13, x14, x15) S2.1 ?_
      have hv1 : y6.val w1.c.length = y6.val (w1.c.set S1.2.1.who.toNat S2.1).length := congrArg (SlV.val y6) List.length_set.symm
      (try simp only [cB, cC, cW]); try rw [hv1]
      refine Dx [11,12] ?_
      refine Rn 13 ?_
      refine W1 ?_
      refine Re0 ?_
      refine Rx ?_; exact Re ⟨y1, y2, y3, y4, y5, y6, y6b, (updG γ1 S1.2.1.who.toNat (x12, x13, x14, x15)), x2⟩ Rv
     ·refine Rx ?_; exact Re ⟨y1, y2, y3, y4, y5, y6, y6b, γ1, y7⟩ Rv
   ·refine Ch hf (fun hc4 hf => ?_) fun hc4 hf => ?_
    ·refine Rx ?_; exact Re ⟨y1, y2, y3, y4, y5, y6, y6b, γ1, y7⟩ Rv
    ·refine Tx ?_
     refine Fr EInt ?_
     refine Cm (jL c1 y1 y2 y3 y4 y5 y6 y6b γ1 x2 (⟨w1.h, w1.d, w1.up, w1.c, S1.1⟩ : Wld) Z0 (⟨1, 0, 0, ([] : List Int), S1.2.1.o⟩ : Rec)) fun x18 => ?_
     generalize hS3 : (bC (⟨w1.h, w1.d, w1.up, w1.c, S1.1⟩ : Wld) (⟨1, 0, 0, ([] : List Int), S1.2.1.o⟩ : Rec)) = S3
     try rw [hS3] at hf
     refine Rx ?_; exact Re ⟨x18.1, x18.2.1, x18.2.2.1, x18.2.2.2.1, x18.2.2.2.2.1, x18.2.2.2.2.2.1, x18.2.2.2.2.2.2.1, x18.2.2.2.2.2.2.2.1, x18.2.2.2.2.2.2.2.2⟩ Rv
def dX (w1 : Wld) (x1 : Happening) : Int × Wld :=
 (bif (w1.up == (x1.kind == 11)) then (7, w1) else (bif (x1.kind == 10) then (0, (⟨dj, w1.d, false, w1.c, w1.mail⟩ : Wld)) else (bif ((ar w1.d).2.2 != 0) then ((ar w1.d).2.2, w1) else (bif ((aB (ar w1.d).2.1).2 == 0) then ((aB (ar w1.d).2.1).2, (⟨(aB (ar w1.d).2.1).1, (ar w1.d).1, true, w1.c, w1.mail⟩ : Wld)) else ((aB (ar w1.d).2.1).2, w1)))))
theorem l9 (c1 : Nat) (y1 : SlV) (y2 : SlV) (y3 : SlV) (y4 : SlV) (y5 : SlV) (y6 : SlV) (y6b : Option Nat) (γ1 : Nat → SlV × SlV × SlV × SlV) (y7 : SlV) (w1 : Wld) (y8 : SlV) (x1 : Happening) : DoesG Tryz.prog 87 [.pointer (some ⟨c1, 0, none⟩), .agg ⟨cA y8 x1⟩] [RdL EStep y1 w1.h.h.l, RdL EPlace y2 w1.h.h.t, RdN NPeer y3 w1.h.peers, RdL EByte y4 w1.d.safe, RdL EByte y5 w1.d.wait, FactsG NClient γ1 w1.c, RdN NMail y7 w1.mail, RdL EInt y8 x1.roots, LibP Tryz.prog] ⟨[⟨c1, 37, cW y1 y2 y3 y4 y5 y6 y7 w1⟩], [ownL NClient.E 63 y6 y6b (zipG γ1 0 w1.c)]⟩ (fun (X : SlV × SlV × SlV × SlV × SlV × SlV × Option Nat × (Nat → SlV × SlV × SlV × SlV) × SlV) => .int .i64 (dX w1 x1).1) (fun X => [RdL EStep X.1 (dX w1 x1).2.h.h.l, RdL EPlace X.2.1 (dX w1 x1).2.h.h.t, RdN NPeer X.2.2.1 (dX w1 x1).2.h.peers, RdL EByte X.2.2.2.1 (dX w1 x1).2.d.safe, RdL EByte X.2.2.2.2.1 (dX w1 x1).2.d.wait, FactsG NClient X.2.2.2.2.2.2.2.1 (dX w1 x1).2.c, RdN NMail X.2.2.2.2.2.2.2.2 (dX w1 x1).2.mail]) (fun X => ⟨[⟨c1, 37, cW X.1 X.2.1 X.2.2.1 X.2.2.2.1 X.2.2.2.2.1 X.2.2.2.2.2.1 X.2.2.2.2.2.2.2.2 (dX w1 x1).2⟩], [ownL NClient.E 63 X.2.2.2.2.2.1 X.2.2.2.2.2.2.1 (zipG X.2.2.2.2.2.2.2.1 0 (dX w1 x1).2.c)]⟩) := by
 refine Dq aH Tryz.func87 Tryz.ntmps87 Tryz.results87 fun C => ?_
 refine Pc EInt y8 x1.roots 8 fun hlen1 => ?_
 refine BxT fun g1 => ?_
 refine Tx ?_
 (repeat refine aI ?_); refine aq (fun _ => some []) ?_
 refine Dx (.range 7) ?_
 refine Ra 7 rfl (q_eqb und_4 rfl rfl Zf rfl Zf) ?_
 refine Re0 ?_
 have hf := Ri (dX.eq_1 w1 x1)
 refine Ce hf (fun hc1 hc1p hf => ?_) fun hc1 hc1p hf => ?_
 ·refine Rx ?_; exact Re ⟨y1, y2, y3, y4, y5, y6, y6b, γ1, y7⟩ Rv
 ·refine Ce hf (fun hc2 hc2p hf => ?_) fun hc2 hc2p hf => ?_
  ·refine Ck (kL ) fun x2 => ?_
   refine Tx ?_
   refine Wp ?_
   refine Rx ?_; exact Re ⟨x2.1, x2.2.1, x2.2.2, y4, y5, y6, y6b, γ1, y7⟩ Rv
  ·refine Ck (ge y4 y5 w1.d) fun x3 => ?_
   refine AlT fun g2 => ?_
   refine Cn hf (fun hc3 hc3p hf => ?_) fun hc3 hc3p hf => ?_
   ·refine Rx ?_; exact Re ⟨y1, y2, y3, y4, y5, y6, y6b, γ1, y7⟩ Rv
   ·refine Ck (hI x3.2.2 (ar w1.d).2.1) fun x4 => ?_
    generalize hS1 : (aB (ar w1.d).2.1) = S1
    try rw [hS1] at hf
    refine AlT fun g3 => ?_
    refine Ce hf (fun hc4 hc4p hf => ?_) fun hc4 hc4p hf => ?_
    ·(repeat refine aI ?_); refine aq (fun j => match j with | 7 => none | 10 => none | 13 => none | _ => some []) ?_
     refine Ra 0 rfl Qp ?_
     refine ra_p (Fa 1 [2,3,4,5,6,7]) rfl rfl rfl Xv ?_
     refine ra_p (Fa 2 [3,4,5,6,7,8,9,10]) rfl rfl rfl Xv ?_
     refine Dx [3,5,6] ?_
     refine Rw 4 7 ?_ ?_
     ·refine xn rfl rfl rfl rfl (q_ldA rfl rfl Zf rfl Mm rfl) ?_
      refine Rn 7 ?_
      refine Wp ?_
      refine Dx [8,9] ?_
      refine Rn 10 ?_
      refine Wp ?_
      refine Dx [11,12] ?_
      refine Rn 13 ?_
      refine W1 ?_
      refine Re0 ?_
      refine Rx ?_; exact Re ⟨x4.1, x4.2.1, x4.2.2, x3.1, x3.2.1, y6, y6b, γ1, y7⟩ Rv
     ·refine Wp ?_
      refine Dx [4,8,9] ?_
      refine Rn 10 ?_
      refine Wp ?_
      refine Dx [11,12] ?_
      refine Rn 13 ?_
      refine W1 ?_
      refine Re0 ?_
      refine Rx ?_; exact Re ⟨x4.1, x4.2.1, x4.2.2, x3.1, x3.2.1, y6, y6b, γ1, y7⟩ Rv
    ·refine Rx ?_; exact Re ⟨y1, y2, y3, y4, y5, y6, y6b, γ1, y7⟩ Rv
def aM (w1 : Wld) (x1 : Happening) : Int × Wld :=
 (bif (decide (x1.who < 0) || decide (x1.who ≥ (w1.c.length : Int))) then (5, w1) else (bif (x1.kind == 1) then (bif ((dq (gt w1.c x1.who.toNat) x1.who x1.node x1.parent x1.name).2.2 != 0) then ((dq (gt w1.c x1.who.toNat) x1.who x1.node x1.parent x1.name).2.2, w1) else (0, (dZ (⟨w1.h, w1.d, w1.up, (w1.c.set x1.who.toNat (dq (gt w1.c x1.who.toNat) x1.who x1.node x1.parent x1.name).1), w1.mail⟩ : Wld) (⟨1, x1.who, 0, 0, 0, 0, 0, (dq (gt w1.c x1.who.toNat) x1.who x1.node x1.parent x1.name).2.1, (⟨[], [], []⟩ : View), (⟨[], [], [], []⟩ : Delta)⟩ : Mail)))) else (bif (x1.kind == 2) then (bif (decide (x1.n < 0) || decide (x1.n ≥ ((gt w1.c x1.who.toNat).pending.length : Int))) then (5, w1) else (0, (dZ w1 (⟨1, x1.who, 0, 0, 0, 0, 0, (gt (gt w1.c x1.who.toNat).pending x1.n.toNat), (⟨[], [], []⟩ : View), (⟨[], [], [], []⟩ : Delta)⟩ : Mail)))) else (bif (!w1.up) then (7, w1) else (bif (x1.kind == 6) then ((db w1 x1.who).1, (db w1 x1.who).2) else (bif (x1.kind == 5) then ((bC w1 (⟨3, x1.who, 0, x1.roots, (⟨0, 0, 0, 0, 0, 0, 0⟩ : Op)⟩ : Rec)).1, (bC w1 (⟨3, x1.who, 0, x1.roots, (⟨0, 0, 0, 0, 0, 0, 0⟩ : Op)⟩ : Rec)).2) else ((eF w1 x1).1, (eF w1 x1).2)))))))
theorem eL (c1 : Nat) (y1 : SlV) (y2 : SlV) (y3 : SlV) (y4 : SlV) (y5 : SlV) (y6 : SlV) (y6b : Option Nat) (γ1 : Nat → SlV × SlV × SlV × SlV) (y7 : SlV) (w1 : Wld) (y8 : SlV) (x1 : Happening) (hk : dt w1.h = 0) (hc : w1.c.length = 3) (hv : w1.up = true → w1.h.version ≤ ((ar w1.d).2.1.length : Int)) : DoesG Tryz.prog 88 [.pointer (some ⟨c1, 0, none⟩), .agg ⟨cA y8 x1⟩] [RdL EStep y1 w1.h.h.l, RdL EPlace y2 w1.h.h.t, RdN NPeer y3 w1.h.peers, RdL EByte y4 w1.d.safe, RdL EByte y5 w1.d.wait, FactsG NClient γ1 w1.c, RdN NMail y7 w1.mail, RdL EInt y8 x1.roots, LibP Tryz.prog] ⟨[⟨c1, 37, [y1.val w1.h.h.l.length, y2.val w1.h.h.t.length, .int .i64 w1.h.version, y3.val w1.h.peers.length, y4.val w1.d.safe.length, y5.val w1.d.wait.length, .bool w1.up, y6.val w1.c.length, y7.val w1.mail.length]⟩], [ownL NClient.E 63 y6 y6b (zipG γ1 0 w1.c)]⟩ (fun (X : SlV × SlV × SlV × SlV × SlV × SlV × Option Nat × (Nat → SlV × SlV × SlV × SlV) × SlV) => .int .i64 (aM w1 x1).1) (fun X => [RdL EStep X.1 (aM w1 x1).2.h.h.l, RdL EPlace X.2.1 (aM w1 x1).2.h.h.t, RdN NPeer X.2.2.1 (aM w1 x1).2.h.peers, RdL EByte X.2.2.2.1 (aM w1 x1).2.d.safe, RdL EByte X.2.2.2.2.1 (aM w1 x1).2.d.wait, FactsG NClient X.2.2.2.2.2.2.2.1 (aM w1 x1).2.c, RdN NMail X.2.2.2.2.2.2.2.2 (aM w1 x1).2.mail]) (fun X => ⟨[⟨c1, 37, [X.1.val (aM w1 x1).2.h.h.l.length, X.2.1.val (aM w1 x1).2.h.h.t.length, .int .i64 (aM w1 x1).2.h.version, X.2.2.1.val (aM w1 x1).2.h.peers.length, X.2.2.2.1.val (aM w1 x1).2.d.safe.length, X.2.2.2.2.1.val (aM w1 x1).2.d.wait.length, .bool (aM w1 x1).2.up, X.2.2.2.2.2.1.val (aM w1 x1).2.c.length, X.2.2.2.2.2.2.2.2.val (aM w1 x1).2.mail.length]⟩], [ownL NClient.E 63 X.2.2.2.2.2.1 X.2.2.2.2.2.2.1 (zipG X.2.2.2.2.2.2.2.1 0 (aM w1 x1).2.c)]⟩) := by
 refine Dq aH Tryz.func88 Tryz.ntmps88 Tryz.results88 fun C => ?_
 refine Pc EInt y8 x1.roots 8 fun hlen1 => ?_
 refine BxT fun g1 => ?_
 refine Tx ?_
 (repeat refine aI ?_); refine aq (fun _ => some []) ?_
 refine Dx (.range 13) ?_
 refine Re0 ?_
 have hf := Ri (aM.eq_1 w1 x1)
 refine Ch hf (fun hc1 hf => ?_) fun hc1 hf => ?_
 ·refine Rx ?_; exact Re ⟨y1, y2, y3, y4, y5, y6, y6b, γ1, y7⟩ Rv
 ·have hwr := hc1
  simp only [Bool.or_eq_false_iff, decide_eq_false_iff_not] at hwr
  refine Tx ?_
  (repeat refine aI ?_); refine aq (fun j => match j with | 9 => none | _ => some []) ?_
  refine Dx (.range 6) ?_
  refine Oq NClient.E y6 (zipG γ1 0 w1.c) (Fa 6 [8]) (fQ NClient γ1 x1.who.toNat rfl rfl Zf rfl Zf rfl rfl rfl (.head _) rfl Zo Za) ?_
  refine Oq NClient.E y6 (zipG γ1 0 w1.c) (Fa 7 [8]) (q_is (v' := .agg ⟨cC (γ1 x1.who.toNat).1 (γ1 x1.who.toNat).2.1 (γ1 x1.who.toNat).2.2.1 (γ1 x1.who.toNat).2.2.2 (gt w1.c x1.who.toNat)⟩) (ij NClient γ1 rfl rfl Zf rfl rfl (.head _) Za) rfl) ?_
  refine Fg NClient γ1 w1.c x1.who.toNat 0 ?_
  refine Fg NClient γ1 w1.c x1.who.toNat 1 ?_
  refine Fg NClient γ1 w1.c x1.who.toNat 2 ?_
  refine Fg NClient γ1 w1.c x1.who.toNat 3 ?_
  refine Rn 8 ?_
  refine bP (.an rfl rfl) (am rfl) rfl rfl rfl rfl fun g2 => ?_
  refine Rn 9 ?_
  refine Wa ?_
  refine Re0 ?_
  refine Ce hf (fun hc2 hc2p hf => ?_) fun hc2 hc2p hf => ?_
  ·refine Ck (p9 (γ1 x1.who.toNat).1 (γ1 x1.who.toNat).2.1 (γ1 x1.who.toNat).2.2.1 (γ1 x1.who.toNat).2.2.2 (gt w1.c x1.who.toNat) x1.who x1.node x1.parent x1.name) fun x2 => ?_
   generalize hS1 : (dq (gt w1.c x1.who.toNat) x1.who x1.node x1.parent x1.name) = S1
   try rw [hS1] at hf
   refine AlT fun g3 => ?_
   refine AlT fun g4 => ?_
   refine Cn hf (fun hc3 hc3p hf => ?_) fun hc3 hc3p hf => ?_
   ·refine Rx ?_; exact Re ⟨y1, y2, y3, y4, y5, y6, y6b, γ1, y7⟩ Rv
   ·refine Tx ?_
    (repeat refine aI ?_); refine aq (fun j => match j with | 8 => none | _ => some []) ?_
    refine Dx (.range 7) ?_
    refine Oq NClient.E y6 (zipG γ1 0 w1.c) (Fa 7 []) (fQ NClient γ1 x1.who.toNat rfl rfl Zf rfl Zf rfl rfl rfl (.head _) rfl Zo Za) ?_
    refine Rn 8 ?_
    refine Wn NClient γ1 w1.c x1.who.toNat 0 (x2.1, x2.2.1, x2.2.2.1, x2.2.2.2) S1.1 y6b ?_
    refine Fu NClient γ1 w1.c x1.who.toNat (x2.1, x2.2.1, x2.2.2.1, x2.2.2.2) S1.1 ?_
    have hv1 : y6.val w1.c.length = y6.val (w1.c.set x1.who.toNat S1.1).length := congrArg (SlV.val y6) List.length_set.symm
    (try simp only [cB, cC, cW]); try rw [hv1]
    refine Re0 ?_
    refine Tx ?_
    refine Fr EInt ?_
    refine Fr EPlace ?_
    refine Cm (iT c1 y1 y2 y3 y4 y5 y6 y6b (updG γ1 x1.who.toNat (x2.1, x2.2.1, x2.2.2.1, x2.2.2.2)) y7 (⟨w1.h, w1.d, w1.up, (w1.c.set x1.who.toNat S1.1), w1.mail⟩ : Wld) Z0 Z0 Z0 Z0 Z0 Z0 Z0 (⟨1, x1.who, 0, 0, 0, 0, 0, S1.2.1, (⟨[], [], []⟩ : View), (⟨[], [], [], []⟩ : Delta)⟩ : Mail)) fun x3 => ?_
    generalize hS2 : (dZ (⟨w1.h, w1.d, w1.up, (w1.c.set x1.who.toNat S1.1), w1.mail⟩ : Wld) (⟨1, x1.who, 0, 0, 0, 0, 0, S1.2.1, (⟨[], [], []⟩ : View), (⟨[], [], [], []⟩ : Delta)⟩ : Mail)) = S2
    try rw [hS2] at hf
    refine Rx ?_; exact Re ⟨x3.1, x3.2.1, x3.2.2.1, x3.2.2.2.1, x3.2.2.2.2.1, x3.2.2.2.2.2.1, x3.2.2.2.2.2.2.1, x3.2.2.2.2.2.2.2.1, x3.2.2.2.2.2.2.2.2⟩ Rv
  ·refine Ce hf (fun hc4 hc4p hf => ?_) fun hc4 hc4p hf => ?_
   ·refine Ch hf (fun hc5 hf => ?_) fun hc5 hf => ?_
    ·refine Rx ?_; exact Re ⟨y1, y2, y3, y4, y5, y6, y6b, γ1, y7⟩ Rv
    ·have hnr := hc5
     simp only [Bool.or_eq_false_iff, decide_eq_false_iff_not] at hnr
     refine Tx ?_
     (repeat refine aI ?_); refine aq (fun j => match j with | 10 => none | _ => some []) ?_
     refine Dx (.range 7) ?_
     refine Rb 7 rfl (Xi EOp x1.n.toNat) ?_
     refine Rb 8 rfl (Xa EOp) ?_
     refine Ra 9 rfl Qp ?_
     refine Rn 10 ?_
     refine Fr EInt ?_
     refine Fr EPlace ?_
     refine sS (iT c1 y1 y2 y3 y4 y5 y6 y6b γ1 y7 w1 Z0 Z0 Z0 Z0 Z0 Z0 Z0 (⟨1, x1.who, 0, 0, 0, 0, 0, (gt (gt w1.c x1.who.toNat).pending x1.n.toNat), (⟨[], [], []⟩ : View), (⟨[], [], [], []⟩ : Delta)⟩ : Mail)) (.lo _ rfl rfl) (.inr fun _ h => h) (am rfl) rfl rfl rfl Kr rfl rfl Sm Tk Tk ?_
     intro x4
     generalize hS3 : (dZ w1 (⟨1, x1.who, 0, 0, 0, 0, 0, (gt (gt w1.c x1.who.toNat).pending x1.n.toNat), (⟨[], [], []⟩ : View), (⟨[], [], [], []⟩ : Delta)⟩ : Mail)) = S3
     try rw [hS3] at hf
     refine Re0 ?_
     refine Rx ?_; exact Re ⟨x4.1, x4.2.1, x4.2.2.1, x4.2.2.2.1, x4.2.2.2.2.1, x4.2.2.2.2.2.1, x4.2.2.2.2.2.2.1, x4.2.2.2.2.2.2.2.1, x4.2.2.2.2.2.2.2.2⟩ Rv
   ·refine Ch hf (fun hc6 hf => ?_) fun hc6 hf => ?_
    ·refine Rx ?_; exact Re ⟨y1, y2, y3, y4, y5, y6, y6b, γ1, y7⟩ Rv
    ·have hup : w1.up = true := (by simpa using hc6)
     refine Ce hf (fun hc7 hc7p hf => ?_) fun hc7 hc7p hf => ?_
     ·refine Cm (pZ c1 y1 y2 y3 y4 y5 y6 y6b γ1 y7 w1 x1.who Zc Zc Zc) fun x5 => ?_
      refine Rx ?_; exact Re ⟨x5.1, x5.2.1, x5.2.2.1, x5.2.2.2.1, x5.2.2.2.2.1, x5.2.2.2.2.2.1, x5.2.2.2.2.2.2.1, x5.2.2.2.2.2.2.2.1, x5.2.2.2.2.2.2.2.2⟩ Rv
     ·refine Ce hf (fun hc8 hc8p hf => ?_) fun hc8 hc8p hf => ?_
      ·refine Cm (jL c1 y1 y2 y3 y4 y5 y6 y6b γ1 y7 w1 y8 (⟨3, x1.who, 0, x1.roots, (⟨0, 0, 0, 0, 0, 0, 0⟩ : Op)⟩ : Rec)) fun x6 => ?_
       generalize hS4 : (bC w1 (⟨3, x1.who, 0, x1.roots, (⟨0, 0, 0, 0, 0, 0, 0⟩ : Op)⟩ : Rec)) = S4
       try rw [hS4] at hf
       refine Rx ?_; exact Re ⟨x6.1, x6.2.1, x6.2.2.1, x6.2.2.2.1, x6.2.2.2.2.1, x6.2.2.2.2.2.1, x6.2.2.2.2.2.2.1, x6.2.2.2.2.2.2.2.1, x6.2.2.2.2.2.2.2.2⟩ Rv
      ·refine Cm (qo c1 y1 y2 y3 y4 y5 y6 y6b γ1 y7 w1 y8 x1 (hv (by assumption))) fun x7 => ?_
       refine Rx ?_; exact Re ⟨x7.1, x7.2.1, x7.2.2.1, x7.2.2.2.1, x7.2.2.2.2.1, x7.2.2.2.2.2.1, x7.2.2.2.2.2.2.1, x7.2.2.2.2.2.2.2.1, x7.2.2.2.2.2.2.2.2⟩ Rv
def bF (w1 : Wld) (x1 : Happening) : Int × Wld :=
 (bif (x1.kind == 7) then ((cX w1 x1).1, (cX w1 x1).2) else (bif (x1.kind == 8) then ((cX w1 x1).1, (cX w1 x1).2) else (bif (x1.kind == 9) then (bif ((aL w1.mail x1.n false).2.2 == 0) then ((aL w1.mail x1.n false).2.2, (⟨w1.h, w1.d, w1.up, w1.c, (aL w1.mail x1.n false).1⟩ : Wld)) else ((aL w1.mail x1.n false).2.2, w1)) else (bif (x1.kind == 10) then ((dX w1 x1).1, (dX w1 x1).2) else (bif (x1.kind == 11) then ((dX w1 x1).1, (dX w1 x1).2) else (bif (x1.kind == 1) then ((aM w1 x1).1, (aM w1 x1).2) else (bif (x1.kind == 2) then ((aM w1 x1).1, (aM w1 x1).2) else (bif (x1.kind == 3) then ((aM w1 x1).1, (aM w1 x1).2) else (bif (x1.kind == 4) then ((aM w1 x1).1, (aM w1 x1).2) else (bif (x1.kind == 5) then ((aM w1 x1).1, (aM w1 x1).2) else (bif (x1.kind == 6) then ((aM w1 x1).1, (aM w1 x1).2) else (4, w1))))))))))))
theorem o6 (c1 : Nat) (y1 : SlV) (y2 : SlV) (y3 : SlV) (y4 : SlV) (y5 : SlV) (y6 : SlV) (y6b : Option Nat) (γ1 : Nat → SlV × SlV × SlV × SlV) (y7 : SlV) (w1 : Wld) (y8 : SlV) (x1 : Happening) (hk : dt w1.h = 0) (hc : w1.c.length = 3) (hv : w1.up = true → w1.h.version ≤ ((ar w1.d).2.1.length : Int)) : DoesG Tryz.prog 32 [.pointer (some ⟨c1, 0, none⟩), .agg ⟨cA y8 x1⟩] [RdL EStep y1 w1.h.h.l, RdL EPlace y2 w1.h.h.t, RdN NPeer y3 w1.h.peers, RdL EByte y4 w1.d.safe, RdL EByte y5 w1.d.wait, FactsG NClient γ1 w1.c, RdN NMail y7 w1.mail, RdL EInt y8 x1.roots, LibP Tryz.prog] ⟨[⟨c1, 37, cW y1 y2 y3 y4 y5 y6 y7 w1⟩], [ownL NClient.E 63 y6 y6b (zipG γ1 0 w1.c)]⟩ (fun (X : SlV × SlV × SlV × SlV × SlV × SlV × Option Nat × (Nat → SlV × SlV × SlV × SlV) × SlV) => .int .i64 (bF w1 x1).1) (fun X => [RdL EStep X.1 (bF w1 x1).2.h.h.l, RdL EPlace X.2.1 (bF w1 x1).2.h.h.t, RdN NPeer X.2.2.1 (bF w1 x1).2.h.peers, RdL EByte X.2.2.2.1 (bF w1 x1).2.d.safe, RdL EByte X.2.2.2.2.1 (bF w1 x1).2.d.wait, FactsG NClient X.2.2.2.2.2.2.2.1 (bF w1 x1).2.c, RdN NMail X.2.2.2.2.2.2.2.2 (bF w1 x1).2.mail]) (fun X => ⟨[⟨c1, 37, cW X.1 X.2.1 X.2.2.1 X.2.2.2.1 X.2.2.2.2.1 X.2.2.2.2.2.1 X.2.2.2.2.2.2.2.2 (bF w1 x1).2⟩], [ownL NClient.E 63 X.2.2.2.2.2.1 X.2.2.2.2.2.2.1 (zipG X.2.2.2.2.2.2.2.1 0 (bF w1 x1).2.c)]⟩) := by
 refine Dq aH Tryz.func32 Tryz.ntmps32 Tryz.results32 fun C => ?_
 refine Pc EInt y8 x1.roots 8 fun hlen1 => ?_
 refine BxT fun g1 => ?_
 have hf := Ri (bF.eq_1 w1 x1)
 refine Ce hf (fun hc1 hc1p hf => ?_) fun hc1 hc1p hf => ?_
 ·refine Cd' (fun hc2 => ?_) fun hc2 => ?_
  ·refine Cm (mE c1 y1 y2 y3 y4 y5 y6 y6b γ1 y7 w1 y8 x1 Zc) fun x2 => ?_
   refine Rx ?_; exact Re ⟨x2.1, x2.2.1, x2.2.2.1, x2.2.2.2.1, x2.2.2.2.2.1, x2.2.2.2.2.2.1, x2.2.2.2.2.2.2.1, x2.2.2.2.2.2.2.2.1, x2.2.2.2.2.2.2.2.2⟩ Rv
  ·exact Bool.noConfusion (hc2.symm.trans hc1)
 ·refine Ce hf (fun hc3 hc3p hf => ?_) fun hc3 hc3p hf => ?_
  ·refine Cm (mE c1 y1 y2 y3 y4 y5 y6 y6b γ1 y7 w1 y8 x1 Zc) fun x3 => ?_
   refine Rx ?_; exact Re ⟨x3.1, x3.2.1, x3.2.2.1, x3.2.2.2.1, x3.2.2.2.2.1, x3.2.2.2.2.2.1, x3.2.2.2.2.2.2.1, x3.2.2.2.2.2.2.2.1, x3.2.2.2.2.2.2.2.2⟩ Rv
  ·refine Ce hf (fun hc4 hc4p hf => ?_) fun hc4 hc4p hf => ?_
   ·(repeat refine aI ?_)
    refine rb [0, 4] [true, true] (fun (x4 : SlV) => [(5, .v (x4.val (aL w1.mail x1.n false).1.length)), (7, .v (.int .i64 (aL w1.mail x1.n false).2.2))]) (fun (x4 : SlV) => []) (fun (x4 : SlV) => [ownL NClient.E 63 y6 y6b (zipG γ1 0 w1.c)]) (fun (x4 : SlV) => [RdN NMail x4 (aL w1.mail x1.n false).1]) (fun _ => True) (.cons rfl (.cons rfl (.nil _))) (.keep (.keep (.nil))) ?_ ?_
    ·refine aq (fun j => match j with | 13 => none | _ => some []) ?_
     refine Dx (.range 6) ?_
     refine Rw 6 11 ?_ ?_
     ·refine Ck (jV y7 w1.mail x1.n false) fun x5 => ?_
      refine Dx [7,8,9] ?_
      refine ra_p (Fa 10 [11,12,13]) rfl rfl rfl Xv ?_
      refine Rn 11 ?_
      refine bP (.an rfl rfl) (am rfl) rfl rfl rfl rfl fun g2 => ?_
      refine Ra 12 rfl Qp ?_
      refine Rn 13 ?_
      refine Wa ?_
      refine Ra 14 rfl Qp ?_
      refine Re0 ?_
      refine ⟨x5.1, trivial, Le4⟩
     ·refine bP (.an rfl rfl) (am rfl) rfl rfl rfl rfl fun g3 => ?_
      refine Rn 6 ?_
      refine Ck (jV y7 w1.mail x1.n false) fun x6 => ?_
      refine Dx [7,8,9] ?_
      refine ra_p (Fa 10 [12,13]) rfl rfl rfl Xv ?_
      refine Ra 12 rfl Qp ?_
      refine Rn 13 ?_
      refine Wa ?_
      refine Ra 14 rfl Qp ?_
      refine Re0 ?_
      refine ⟨x6.1, trivial, Le4⟩
    ·rintro x4 -
     simp only [Lc]
     refine Ce hf (fun hc5 hc5p hf => ?_) fun hc5 hc5p hf => ?_
     ·refine Rx ?_; exact Re ⟨y1, y2, y3, y4, y5, y6, y6b, γ1, x4⟩ Rv
     ·refine Rx ?_; exact Re ⟨y1, y2, y3, y4, y5, y6, y6b, γ1, y7⟩ Rv
   ·refine Ce hf (fun hc6 hc6p hf => ?_) fun hc6 hc6p hf => ?_
    ·refine Cd' (fun hc7 => ?_) fun hc7 => ?_
     ·refine Cm (l9 c1 y1 y2 y3 y4 y5 y6 y6b γ1 y7 w1 y8 x1) fun x7 => ?_
      refine Rx ?_; exact Re ⟨x7.1, x7.2.1, x7.2.2.1, x7.2.2.2.1, x7.2.2.2.2.1, x7.2.2.2.2.2.1, x7.2.2.2.2.2.2.1, x7.2.2.2.2.2.2.2.1, x7.2.2.2.2.2.2.2.2⟩ Rv
     ·exact Bool.noConfusion (hc7.symm.trans hc6)
    ·refine Ce hf (fun hc8 hc8p hf => ?_) fun hc8 hc8p hf => ?_
     ·refine Cm (l9 c1 y1 y2 y3 y4 y5 y6 y6b γ1 y7 w1 y8 x1) fun x8 => ?_
      refine Rx ?_; exact Re ⟨x8.1, x8.2.1, x8.2.2.1, x8.2.2.2.1, x8.2.2.2.2.1, x8.2.2.2.2.2.1, x8.2.2.2.2.2.2.1, x8.2.2.2.2.2.2.2.1, x8.2.2.2.2.2.2.2.2⟩ Rv
     ·refine Ce hf (fun hc9 hc9p hf => ?_) fun hc9 hc9p hf => ?_
      ·refine Cd' (fun hc10 => ?_) fun hc10 => ?_
       ·refine Cm (eL c1 y1 y2 y3 y4 y5 y6 y6b γ1 y7 w1 y8 x1 Zc Zc Zc) fun x9 => ?_
        refine Rx ?_; exact Re ⟨x9.1, x9.2.1, x9.2.2.1, x9.2.2.2.1, x9.2.2.2.2.1, x9.2.2.2.2.2.1, x9.2.2.2.2.2.2.1, x9.2.2.2.2.2.2.2.1, x9.2.2.2.2.2.2.2.2⟩ Rv
       ·exact Bool.noConfusion (hc10.symm.trans hc9)
      ·refine Ce hf (fun hc11 hc11p hf => ?_) fun hc11 hc11p hf => ?_
       ·refine Cd' (fun hc12 => ?_) fun hc12 => ?_
        ·refine Cm (eL c1 y1 y2 y3 y4 y5 y6 y6b γ1 y7 w1 y8 x1 Zc Zc Zc) fun x10 => ?_
         refine Rx ?_; exact Re ⟨x10.1, x10.2.1, x10.2.2.1, x10.2.2.2.1, x10.2.2.2.2.1, x10.2.2.2.2.2.1, x10.2.2.2.2.2.2.1, x10.2.2.2.2.2.2.2.1, x10.2.2.2.2.2.2.2.2⟩ Rv
        ·exact Bool.noConfusion (hc12.symm.trans hc11)
       ·refine Ce hf (fun hc13 hc13p hf => ?_) fun hc13 hc13p hf => ?_
        ·refine Cd' (fun hc14 => ?_) fun hc14 => ?_
         ·refine Cm (eL c1 y1 y2 y3 y4 y5 y6 y6b γ1 y7 w1 y8 x1 Zc Zc Zc) fun x11 => ?_
          refine Rx ?_; exact Re ⟨x11.1, x11.2.1, x11.2.2.1, x11.2.2.2.1, x11.2.2.2.2.1, x11.2.2.2.2.2.1, x11.2.2.2.2.2.2.1, x11.2.2.2.2.2.2.2.1, x11.2.2.2.2.2.2.2.2⟩ Rv
         ·exact Bool.noConfusion (hc14.symm.trans hc13)
        ·refine Ce hf (fun hc15 hc15p hf => ?_) fun hc15 hc15p hf => ?_
         ·refine Cd' (fun hc16 => ?_) fun hc16 => ?_
          ·refine Cm (eL c1 y1 y2 y3 y4 y5 y6 y6b γ1 y7 w1 y8 x1 Zc Zc Zc) fun x12 => ?_
           refine Rx ?_; exact Re ⟨x12.1, x12.2.1, x12.2.2.1, x12.2.2.2.1, x12.2.2.2.2.1, x12.2.2.2.2.2.1, x12.2.2.2.2.2.2.1, x12.2.2.2.2.2.2.2.1, x12.2.2.2.2.2.2.2.2⟩ Rv
          ·exact Bool.noConfusion (hc16.symm.trans hc15)
         ·refine Ce hf (fun hc17 hc17p hf => ?_) fun hc17 hc17p hf => ?_
          ·refine Cd' (fun hc18 => ?_) fun hc18 => ?_
           ·refine Cm (eL c1 y1 y2 y3 y4 y5 y6 y6b γ1 y7 w1 y8 x1 Zc Zc Zc) fun x13 => ?_
            refine Rx ?_; exact Re ⟨x13.1, x13.2.1, x13.2.2.1, x13.2.2.2.1, x13.2.2.2.2.1, x13.2.2.2.2.2.1, x13.2.2.2.2.2.2.1, x13.2.2.2.2.2.2.2.1, x13.2.2.2.2.2.2.2.2⟩ Rv
           ·exact Bool.noConfusion (hc18.symm.trans hc17)
          ·refine Ce hf (fun hc19 hc19p hf => ?_) fun hc19 hc19p hf => ?_
           ·refine Cm (eL c1 y1 y2 y3 y4 y5 y6 y6b γ1 y7 w1 y8 x1 Zc Zc Zc) fun x14 => ?_
            refine Rx ?_; exact Re ⟨x14.1, x14.2.1, x14.2.2.1, x14.2.2.2.1, x14.2.2.2.2.1, x14.2.2.2.2.2.1, x14.2.2.2.2.2.2.1, x14.2.2.2.2.2.2.2.1, x14.2.2.2.2.2.2.2.2⟩ Rv
           ·refine Rx ?_; exact Re ⟨y1, y2, y3, y4, y5, y6, y6b, γ1, y7⟩ Rv
end Go.Proofs.YtkjccbdeaflekaaGreatDoor

namespace Go.Proofs.YtkjccbdeaflekaaGreatDoor
open Go Go.Proofs.YtkjccbdeaflekaaGreatDoor.Fw Go.Proofs
def bp (l : List Rec) : Str := l.flatMap (fun r => lf r ++ [10])
theorem gY : bp [] = [] := rfl
theorem j3 (r : Rec) (l : List Rec) : bp (r :: l) = lf r ++ 10 :: bp l := by simp [bp]
theorem gZ (a b : List Rec) : bp (a ++ b) = bp a ++ bp b := by simp [bp]
theorem tP (l : List Rec) : l.length ≤ (bp l).length := by
 induction l with
 | nil => simp
 | cons r l ih => rw [j3]; simp only [List.length_append, List.length_cons]; omega
theorem Ah (r : Rec) : (10 : UInt8) ∉ wordOf r := by
 unfold wordOf
 cases (r.kind == 1) <;> cases (r.kind == 2) <;> simp
theorem xW : ∀ (l : List Int), (10 : UInt8) ∉ glue 32 (l.map Lib.itoa)
 | [] => by simp [glue]
 | n :: l => by
  have h1 : (10 : UInt8) ∉ Lib.itoa n := xS (by decide)
  have h2 := xW l
  simp only [glue, List.map_cons, List.flatMap_cons, List.mem_append, List.mem_cons] at h2 ⊢
  intro h
  rcases h with (h | h) | h
  ·exact absurd h (by decide)
  ·exact h1 h
  ·exact h2 h
theorem pr_nl (r : Rec) : (10 : UInt8) ∉ lf r := by
 intro h
 rcases List.mem_append.1 h with h | h
 ·exact Ah r h
 ·exact xW _ h
abbrev AllR (l : List Rec) : Prop := ∀ r ∈ l, aK r = 0
theorem wG {r : Rec} (hr : aK r = 0) (s0 : Str) (most : Int) (f : Nat) (t : Str) (acc : List Rec) (h : (acc.length : Int) ≠ most) :
  bG s0 most (f + 1) (lf r ++ 10 :: t) acc = bG s0 most f t (acc ++ [r]) := by
 have h1 : ((lf r ++ 10 :: t) != ([] : Str)) = true := by simp
 have h2 : ((acc.length : Int) == most) = false := by simpa using h
 rw [bG]
 simp only [h1, ns t (pr_nl r), vd hr, h2, cond_true, cond_false, Bool.not_true, bne_self_eq_false]
theorem sb (s0 : Str) (most : Int) (t : Str) : ∀ (l acc : List Rec) (f : Nat), AllR l → ((acc.length + l.length : Nat) : Int) ≤ most →
  bG s0 most (f + l.length) (bp l ++ t) acc = bG s0 most f t (acc ++ l)
 | [], acc, f, _, _ => by simp [gY]
 | r :: l, acc, f, hl, hm => by
  simp only [List.length_cons] at hm
  have e : f + (r :: l).length = (f + l.length) + 1 := by simp only [List.length_cons]; omega
  rw [e, j3, List.append_assoc, List.cons_append, wG (hl r (.head _)) s0 most _ _ _ (by omega),
   sb s0 most t l (acc ++ [r]) f (fun x hx => hl x (.tail _ hx)) (by simp only [List.length_append, List.length_cons, List.length_nil]; omega)]
  simp
theorem xP (s0 : Str) (most : Int) (f : Nat) {t : Str} (ht : (10 : UInt8) ∉ t) (acc : List Rec) :
  bG s0 most (f + 1) t acc = (acc, (s0.length : Int) - (t.length : Int), if t = [] then 0 else 8) := by
 rw [bG]
 by_cases h : t = []
 ·subst h
  simp
 ·have h1 : (t != ([] : Str)) = true := by simpa using h
  simp only [h1, po ht, cond_true, Bool.not_false, if_neg h]
theorem vD (most : Int) {l : List Rec} (hl : AllR l) {t : Str} (ht : (10 : UInt8) ∉ t) (hm : (l.length : Int) ≤ most) :
  aD (bp l ++ t) most = (l, ((bp l).length : Int), if t = [] then 0 else 8) := by
 have hlen := tP l
 have e : (bp l ++ t).length + 1 = ((bp l).length - l.length + t.length + 1) + l.length := by simp only [List.length_append]; omega
 unfold aD
 rw [e, sb _ _ _ _ _ _ hl (by simpa using hm), xP _ _ _ ht]
 simp only [List.nil_append, List.length_append]
 congr 2
 omega
theorem qQ (most : Int) {l : List Rec} (hl : AllR l) (hm : (l.length : Int) ≤ most) :
  aD (bp l) most = (l, ((bp l).length : Int), 0) := by
 have := vD most hl (t := []) (by simp) hm
 simpa using this
theorem lZ {a : List Rec} {w : Str} (ha : AllR a) (hn : a.length ≤ 60) (hl : (bp a).length + w.length ≤ 60000) : cn ⟨bp a, w⟩ = 0 := by
 unfold cn
 have h : (decide (((bp a).length : Int) > 60000) || decide ((w.length : Int) > (60000 - ((bp a).length : Int)))) = false := by
  simp only [Bool.or_eq_false_iff, decide_eq_false_iff_not]; omega
 simp only [h, cond_false, qQ 60 ha (by omega)]
theorem tf {a b : List Rec} {t : Str} (ha : AllR a) (hb : AllR b) (hn : a.length + b.length ≤ 60) (ht : (10 : UInt8) ∉ t) (hl : (bp a).length + (bp b ++ t).length ≤ 60000) :
  ar ⟨bp a, bp b ++ t⟩ = (⟨bp (a ++ b), []⟩, a ++ b, 0) := by
 unfold ar
 have h2 : (bp b ++ t).take (bp b).length = bp b := by simp
 simp only [lZ ha (by omega) hl, qQ 60 ha (by omega), vD (60 - (a.length : Int)) hb ht (by omega), bne_self_eq_false, cond_false, Int.toNat_natCast, h2, List.flatten_cons, List.flatten_nil, List.append_nil, gZ]
theorem kn : ∀ {l : List Rec}, AllR l → (bp l).length ≤ 160 * l.length
 | [], _ => by simp [gY]
 | r :: l, h => by
  have h1 := nk (h r (.head _))
  have h2 := kn (fun x hx => h x (.tail r hx))
  rw [j3]
  simp only [List.length_append, List.length_cons]
  omega
theorem zC {a : List Rec} {q : Rec} (ha : AllR a) (hq : aK q = 0) (hn : a.length < 60) : fe ⟨bp a, []⟩ q = (⟨bp a, bp [q]⟩, 0) := by
 have h1 := kn ha
 have h2 := nk hq
 have h3 : cn ⟨bp a, []⟩ = 0 := lZ ha (by omega) (by simp only [List.length_nil]; omega)
 unfold fe
 have h4 : decide ((((lf q).length : Int) + 1) > ((60000 - ((bp a).length : Int)) - (([] : List UInt8).length : Int))) = false := by
  simp only [List.length_nil, decide_eq_false_iff_not]; omega
 simp only [h3, wd, if_pos hq, bne_self_eq_false, cond_false, h4]
 simp [bp]
theorem yn {a b : List Rec} (ha : AllR a) (hb : AllR b) (hn : a.length + b.length ≤ 60) : gz ⟨bp a, bp b⟩ = (⟨bp (a ++ b), []⟩, 0) := by
 have h1 := kn ha
 have h2 := kn hb
 have hab : AllR (a ++ b) := fun x hx => (List.mem_append.1 hx).elim (ha x) (hb x)
 have h3 : cn ⟨bp a, bp b⟩ = 0 := lZ ha (by omega) (by omega)
 have h4 : cn ⟨bp (a ++ b), []⟩ = 0 := lZ hab (by rw [List.length_append]; omega) (by rw [gZ, List.length_append, List.length_nil]; omega)
 unfold gz
 simp only [List.flatten_cons, List.flatten_nil, List.append_nil, ← gZ, h3, h4, bne_self_eq_false, cond_false]
theorem um {c : UInt8} : ∀ {s : Str}, (cutc c s).2.2 = true → s = (cutc c s).1 ++ c :: (cutc c s).2.1
 | [], h => by simp [cutc] at h
 | b :: r, h => by
  rw [cutc] at h ⊢
  cases hb : (b == c) with
  | true => rw [cond_true, eq_of_beq hb]; rfl
  | false =>
   rw [hb, cond_false] at h
   rw [cond_false]
   simp only [List.cons_append]
   rw [← um h]
theorem oA (s0 : Str) (most : Int) : ∀ (f : Nat) (s : Str) (acc : List Rec), s.length < f → (acc.length : Int) ≤ most → ∃ m t, s = bp m ++ t ∧ AllR m ∧ ((acc ++ m).length : Int) ≤ most ∧
  (bG s0 most f s acc).1 = acc ++ m ∧ (bG s0 most f s acc).2.1 = (s0.length : Int) - (t.length : Int) ∧ ((bG s0 most f s acc).2.2 = 0 → t = [])
 | 0, s, acc, hf, _ => absurd hf (Nat.not_lt_zero _)
 | f + 1, s, acc, hf, ha => by
  rw [bG]
  cases h1 : (s != ([] : Str)) with
  | false =>
   have hs : s = [] := by simpa using h1
   subst hs
   exact ⟨[], [], rfl, (fun _ h => by cases h), by simpa using ha, by simp, by simp, fun _ => rfl⟩
  | true =>
   simp only [cond_true]
   cases h2 : (!(cutc 10 s).2.2) with
   | true => simp only [cond_true]; exact ⟨[], s, by simp [gY], (fun _ h => by cases h), by simpa using ha, by simp, rfl, fun h => absurd h (by decide)⟩
   | false =>
    have h2 : (cutc 10 s).2.2 = true := by simpa using h2
    simp only [cond_false]
    cases h3 : ((bv (cutc 10 s).1).2 != 0) with
    | true => simp only [cond_true]; exact ⟨[], s, by simp [gY], (fun _ h => by cases h), by simpa using ha, by simp, rfl, fun h => by rw [h] at h3; cases h3⟩
    | false =>
     simp only [cond_false]
     cases h4 : ((acc.length : Int) == most) with
     | true => simp only [cond_true]; exact ⟨[], s, by simp [gY], (fun _ h => by cases h), by simpa using ha, by simp, rfl, fun h => absurd h (by decide)⟩
     | false =>
      have h4 := beq_eq_false_iff_ne.1 h4
      simp only [cond_false]
      have hp := zD (s := (cutc 10 s).1) (x := (bv (cutc 10 s).1).1) (Prod.ext rfl (ai h3))
      have hlt := rc 10 s h2
      obtain ⟨m, t, g1, g2, g3, g4, g5, g6⟩ := oA s0 most f (cutc 10 s).2.1 (acc ++ [(bv (cutc 10 s).1).1]) (by omega) (by simp only [List.length_append, List.length_cons, List.length_nil]; omega)
      refine ⟨(bv (cutc 10 s).1).1 :: m, t, ?_, ?_, ?_, ?_, g5, g6⟩
      ·have hj := um h2
       rw [j3, hp.2, List.append_assoc, List.cons_append, ← g1]
       exact hj
      ·intro x hx
       rcases List.mem_cons.1 hx with rfl | hx
       ·exact hp.1
       ·exact g2 x hx
      ·simpa using g3
      ·rw [g4]; simp
theorem sa (s : Str) {most : Int} (h : 0 ≤ most) : ∃ m t, s = bp m ++ t ∧ AllR m ∧ (m.length : Int) ≤ most ∧ (aD s most).1 = m ∧ (aD s most).2.1 = ((bp m).length : Int) ∧ ((aD s most).2.2 = 0 → t = []) := by
 obtain ⟨m, t, g1, g2, g3, g4, g5, g6⟩ := oA s most (s.length + 1) s [] (by omega) (by simpa using h)
 refine ⟨m, t, g1, g2, by simpa using g3, (by rw [List.nil_append] at g4; exact g4), ?_, g6⟩
 have : (aD s most).2.1 = (s.length : Int) - (t.length : Int) := g5
 rw [this, g1, List.length_append]; omega
theorem rJ {d : Disk} (h : cn d = 0) : ∃ l, AllR l ∧ l.length ≤ 60 ∧ d.safe = bp l := by
 unfold cn at h
 cases h1 : (decide ((d.safe.length : Int) > 60000) || decide ((d.wait.length : Int) > (60000 - (d.safe.length : Int)))) with
 | true => rw [h1] at h; cases h
 | false =>
  rw [h1, cond_false] at h
  obtain ⟨m, t, g1, g2, g3, g4, g5, g6⟩ := sa d.safe (most := 60) (by decide)
  refine ⟨m, g2, by omega, ?_⟩
  rw [g1, g6 h, List.append_nil]
theorem vc {d : Disk} (h : (ar d).2.2 = 0) : ∃ l, AllR l ∧ l.length ≤ 60 ∧ ar d = (⟨bp l, []⟩, l, 0) ∧ (d.wait = [] → d = ⟨bp l, []⟩) := by
 unfold ar at h ⊢
 cases h1 : (cn d != 0) with
 | true => rw [h1, cond_true] at h; simp only at h; rw [h] at h1; cases h1
 | false =>
  obtain ⟨l, a1, a2, a3⟩ := rJ (ai h1)
  have e1 : aD d.safe 60 = (l, ((bp l).length : Int), 0) := by rw [a3]; exact qQ 60 a1 (by omega)
  obtain ⟨m, t, g1, g2, g3, g4, g5, g6⟩ := sa d.wait (most := 60 - (l.length : Int)) (by omega)
  have hall : AllR (l ++ m) := fun x hx => (List.mem_append.1 hx).elim (a1 x) (g2 x)
  refine ⟨l ++ m, hall, by rw [List.length_append]; omega, ?_, fun hw => ?_⟩
  ·simp only [cond_false, e1, g4, g5, Int.toNat_natCast]
   have e2 : d.wait.take (bp m).length = bp m := by rw [g1, List.take_left]
   rw [e2, a3, gZ]
   simp
  ·have hm : bp m = [] := by
    have := congrArg List.length g1
    rw [hw] at this
    simp only [List.length_nil, List.length_append] at this
    exact List.eq_nil_of_length_eq_zero (by omega)
   obtain ⟨s, w⟩ := d
   simp only at a3 hw
   rw [a3, hw, gZ, hm, List.append_nil]
theorem su {l : List Rec} (ha : AllR l) (hn : l.length ≤ 60) : ar ⟨bp l, []⟩ = (⟨bp l, []⟩, l, 0) := by
 have := tf (a := l) (b := []) (t := []) ha (fun _ h => by cases h) (by simpa using hn) (by simp) (by have := kn ha; simp only [gY, List.nil_append, List.length_nil]; omega)
 simpa [gY] using this
theorem zS (f : Peer → Peer → Bool) (hf : ∀ a b, f a b = true → a = b) (s2 : List Peer) : ∀ (l : List Peer) (k : Nat), l.length + k = s2.length → bV s2 f l k = true → l = s2.drop k
 | [], k, h, _ => by
  simp only [List.length_nil, Nat.zero_add] at h
  rw [h, List.drop_length]
 | r :: l, k, h, h0 => by
  simp only [List.length_cons] at h
  rw [bV] at h0
  cases h1 : (!(f r (gt s2 k))) with
  | true => rw [h1] at h0; cases h0
  | false =>
   rw [h1, cond_false] at h0
   have h1 : f r (gt s2 k) = true := by simpa using h1
   rw [aU (by omega : k < s2.length), ← hf _ _ h1, ← zS f hf s2 l (k + 1) (by omega) h0]
theorem uV {a b : Hub} (h : iB a b = true) : a = b := by
 unfold iB dF at h
 cases h1 : ((a.peers.length : Int) != (b.peers.length : Int)) with
 | true => rw [h1] at h; simp at h
 | false =>
  rw [h1, cond_false] at h
  simp only [Bool.and_eq_true, beq_iff_eq] at h
  obtain ⟨⟨h2, h3⟩, h4⟩ := h
  have h5 := zS ib (fun x y hxy => by
   obtain ⟨x1, x2, x3⟩ := x; obtain ⟨y1, y2, y3⟩ := y
   simp only [ib, Bool.and_eq_true, beq_iff_eq, decide_eq_true_eq] at hxy
   obtain ⟨⟨rfl, rfl⟩, rfl⟩ := hxy; rfl) b.peers a.peers 0 (by simp only [bne_eq_false_iff_eq] at h1; omega) h4
  obtain ⟨a1, a2, a3⟩ := a; obtain ⟨b1, b2, b3⟩ := b
  simp only [List.drop_zero] at h2 h3 h5
  rw [(oL _ _).1 h2, h3, h5]
theorem iU (w : Wld) : ∀ (l : List Client) (k : Nat), l = w.c.drop k → (dl l k = 0 ↔ ∀ i, k ≤ i → i < w.c.length → bH (gt w.c i) (i : Int) = 0)
 | [], k, h => by
  have : w.c.length ≤ k := by have := congrArg List.length h; simp at this; omega
  exact ⟨fun _ i h1 h2 => by omega, fun _ => rfl⟩
 | c :: l, k, h => by
  have hk : k < w.c.length := by
   rcases Nat.lt_or_ge k w.c.length with h' | h'
   ·exact h'
   ·rw [List.drop_of_length_le h'] at h; cases h
  rw [aU hk] at h
  obtain ⟨rfl, h'⟩ := List.cons.inj h
  rw [dl]
  cases h1 : (bH (gt w.c k) (k : Int) != 0) with
  | true =>
   rw [cond_true]
   refine ⟨fun h2 => (by rw [h2] at h1; cases h1), fun h2 => h2 k (Nat.le_refl _) hk⟩
  | false =>
   rw [cond_false, iU w l (k + 1) h']
   constructor
   ·intro h2 i hi hl
    by_cases hik : i = k
    ·rw [hik]; exact ai h1
    ·exact h2 i (by omega) hl
   ·intro h2 i hi hl
    exact h2 i (by omega) hl
structure IsW (w : Wld) (l : List Rec) : Prop where
 three : w.c.length = 3
 mail : cj w.mail = 0
 all : AllR l
 sixty : l.length ≤ 60
 recd : ar w.d = (⟨bp l, []⟩, l, 0)
 up : w.up = true → w.d = ⟨bp l, []⟩ ∧ aB l = (w.h, 0)
 down : w.up = false → w.h = dj
 cli : ∀ k, k < 3 → bH (gt w.c k) (k : Int) = 0
theorem sr : aB [] = (dj, 0) := rfl
theorem gR (w : Wld) : dc w = 0 ↔ ∃ l, IsW w l := by
 constructor
 ·intro h
  unfold dc at h
  rw [je (by decide)] at h
  obtain ⟨h1, h⟩ := h
  have h1 : w.c.length = 3 := by simp only [bne_eq_false_iff_eq] at h1; omega
  cases h2 : (cj w.mail != 0) with
  | true => rw [h2, cond_true] at h; rw [h] at h2; cases h2
  | false =>
  rw [h2, cond_false] at h
  cases h3 : ((ar w.d).2.2 != 0) with
  | true => rw [h3, cond_true] at h; rw [h] at h3; cases h3
  | false =>
  rw [h3, cond_false, je (by decide)] at h
  obtain ⟨h4, h⟩ := h
  obtain ⟨l, a1, a2, a3, a4⟩ := vc (ai h3)
  have key : ∀ r, (bif ((aB r).2 != 0) then (aB r).2 else (bif (!(iB (aB r).1 w.h)) then 4 else dl w.c 0)) = 0 → aB r = (w.h, 0) ∧ ∀ k, k < 3 → bH (gt w.c k) (k : Int) = 0 := by
   intro r hr
   cases h5 : ((aB r).2 != 0) with
   | true => rw [h5, cond_true] at hr; rw [hr] at h5; cases h5
   | false =>
    rw [h5, cond_false, je (by decide)] at hr
    obtain ⟨h6, h7⟩ := hr
    refine ⟨Prod.ext (uV (by simpa using h6)) (ai h5), fun k hk => ?_⟩
    exact (iU w w.c 0 rfl).1 h7 k (Nat.zero_le _) (by omega)
  refine ⟨l, ?_⟩
  rw [a3] at h
  cases hu : w.up with
  | false =>
   rw [hu] at h
   obtain ⟨b1, b2⟩ := key [] h
   rw [sr] at b1
   exact ⟨h1, ai h2, a1, a2, a3, fun hu2 => (by rw [hu] at hu2; cases hu2), fun _ => (congrArg Prod.fst b1).symm, b2⟩
  | true =>
   rw [hu] at h h4
   obtain ⟨b1, b2⟩ := key l h
   have hw : w.d.wait = [] := List.eq_nil_of_length_eq_zero (by simpa using h4)
   exact ⟨h1, ai h2, a1, a2, a3, fun _ => ⟨a4 hw, b1⟩, fun hu2 => (by rw [hu] at hu2; cases hu2), b2⟩
 ·rintro ⟨l, h⟩
  unfold dc
  have e1 : ((w.c.length : Int) != 3) = false := by rw [h.three]; rfl
  have e2 : (cj w.mail != 0) = false := by rw [h.mail]; rfl
  have e3 : ((ar w.d).2.2 != 0) = false := by rw [h.recd]; rfl
  have e4 : dl w.c 0 = 0 := (iU w w.c 0 rfl).2 fun i _ hi => h.cli i (by rw [h.three] at hi; exact hi)
  rw [e1, e2, e3, cond_false, cond_false, cond_false, h.recd]
  cases hu : w.up with
  | false =>
   have e5 : iB (aB []).1 w.h = true := by rw [sr, h.down hu]; exact oH _
   simp only [Bool.false_and, cond_false, Bool.not_false, cond_true, e5, e4, Bool.not_true]
   rfl
  | true =>
   obtain ⟨f1, f2⟩ := h.up hu
   have e5 : w.d.wait = [] := by rw [f1]
   simp only [e5, f2, oH, e4]
   rfl
theorem IsW.hub {w : Wld} {l : List Rec} (h : IsW w l) : IsHub w.h ∧ (w.up = true → w.h.version = (l.length : Int)) := by
 cases hu : w.up with
 | false => rw [h.down hu]; exact ⟨li, fun h => by cases h⟩
 | true =>
  have h1 := (h.up hu).2
  have h2 := ss (l := l) (by rw [h1])
  rw [h1] at h2
  exact ⟨h2.1, fun _ => h2.2.1⟩
theorem qp {w : Wld} (h : dc w = 0) : dt w.h = 0 ∧ w.c.length = 3 ∧ (w.up = true → w.h.version ≤ ((ar w.d).2.1.length : Int)) := by
 obtain ⟨l, h⟩ := (gR w).1 h
 have h1 := h.hub
 refine ⟨(en _).2 h1.1, h.three, fun hu => ?_⟩
 rw [h1.2 hu, h.recd]; exact Int.le_refl _
theorem nL : ∀ (l : List Rec) (r : Rec) (h g : Hub), bS l h.h.l h.h.t h.version h.peers = (g, 0) → (bi g r).2 = 0 →
  bS (l ++ [r]) h.h.l h.h.t h.version h.peers = ((bi g r).1, 0)
 | [], r, h, g, h0, h1 => by
  rw [bS] at h0
  have he : (⟨⟨h.h.l, h.h.t⟩, h.version, h.peers⟩ : Hub) = h := rfl
  have hg : h = g := congrArg Prod.fst h0
  subst hg
  rw [List.nil_append, bS]
  simp only [he, h1, bne_self_eq_false, cond_false, bS]
 | q :: l, r, h, g, h0, h1 => by
  rw [bS] at h0
  rw [List.cons_append, bS]
  have he : (⟨⟨h.h.l, h.h.t⟩, h.version, h.peers⟩ : Hub) = h := rfl
  simp only [he] at h0 ⊢
  cases h2 : ((bi h q).2 != 0) with
  | true =>
   rw [h2, cond_true] at h0
   have h3 : (bi h q).2 = 0 := congrArg Prod.snd h0
   rw [h3] at h2; cases h2
  | false =>
   rw [h2, cond_false] at h0
   rw [cond_false]
   exact nL l r (bi h q).1 g h0 h1
theorem vb {l : List Rec} {r : Rec} {g : Hub} (h0 : aB l = (g, 0)) (h1 : (bi g r).2 = 0) (hn : l.length < 60) : aB (l ++ [r]) = ((bi g r).1, 0) := by
 have hr := uu (l := l) (by rw [h0])
 have e1 : aB l = bS l dj.h.l dj.h.t dj.version dj.peers := hr.2.2
 unfold aB
 have : decide (((l ++ [r]).length : Int) > 60) = false := by simp only [List.length_append, List.length_cons, List.length_nil, decide_eq_false_iff_not]; omega
 rw [this, cond_false]
 exact nL l r dj g (e1.symm.trans h0) h1
theorem vC {h : Hub} {r : Rec} (h0 : (bi h r).2 = 0) : h.version ≠ 60 := by
 intro hv
 have hn := s5 h0
 unfold bi at h0
 have e1 : (aK r != 0) = false := by rw [hn]; rfl
 have e2 : (h.version == 60) = true := by rw [hv]; rfl
 rw [e1, cond_false, e2, cond_true] at h0
 cases h0
theorem sD {w : Wld} {l : List Rec} (h : IsW w l) (hu : w.up = true) (r : Rec) : bC w r = if (bi w.h r).2 = 0 then (0, ⟨(bi w.h r).1, ⟨bp (l ++ [r]), []⟩, w.up, w.c, w.mail⟩) else ((bi w.h r).2, w) := by
 obtain ⟨f1, f2⟩ := h.up hu
 have hh := h.hub
 unfold bC
 rw [AV hh.1]
 by_cases h0 : (bi w.h r).2 = 0
 ·have hv := vC h0
  have hv2 := hh.2 hu
  have hs := h.sixty
  have hq := s5 h0
  have hq1 : AllR [r] := fun x hx => by rw [List.mem_singleton] at hx; subst hx; exact hq
  rw [if_pos h0, f1, zC h.all hq (by omega)]
  simp only [h0, yn h.all hq1 (by simp only [List.length_cons, List.length_nil]; omega), bne_self_eq_false, cond_false]
 ·rw [if_neg h0]
  have : ((bi w.h r).2 != 0) = true := by simpa using h0
  rw [this, cond_true]
theorem uC {w : Wld} {l : List Rec} (h : IsW w l) (hu : w.up = true) {r : Rec} (h0 : (bi w.h r).2 = 0) : IsW ⟨(bi w.h r).1, ⟨bp (l ++ [r]), []⟩, w.up, w.c, w.mail⟩ (l ++ [r]) := by
 obtain ⟨f1, f2⟩ := h.up hu
 have hh := h.hub
 have hv := vC h0
 have hv2 := hh.2 hu
 have hs := h.sixty
 have hq := s5 h0
 have hall : AllR (l ++ [r]) := fun x hx => (List.mem_append.1 hx).elim (h.all x) fun hx => by rw [List.mem_singleton] at hx; subst hx; exact hq
 have hl : (l ++ [r]).length ≤ 60 := by simp only [List.length_append, List.length_cons, List.length_nil]; omega
 exact ⟨h.three, h.mail, hall, hl, su hall hl, fun _ => ⟨rfl, vb f2 h0 (by omega)⟩, fun hd => (by simp only at hd; rw [hu] at hd; cases hd), h.cli⟩
theorem AU (l : List Mail) (m : Mail) : hZ l m = bif cj l != 0 then ([], cj l) else bif cr m != 0 then ([], cr m) else bif decide ((l.length : Int) < 30) then (l ++ [m], 0) else (l, 0) := by
 unfold hZ hY iW iV
 rw [oa]
def posted (l : List Mail) (m : Mail) : List Mail := if cr m = 0 ∧ l.length < 30 then l ++ [m] else l
theorem sY {w : Wld} {l : List Rec} (h : IsW w l) (m : Mail) : dZ w m = ⟨w.h, w.d, w.up, w.c, posted w.mail m⟩ := by
 unfold dZ posted
 rw [AU, h.mail, bne_self_eq_false, cond_false]
 by_cases h1 : cr m = 0
 ·rw [h1, bne_self_eq_false, cond_false]
  by_cases h2 : w.mail.length < 30
  ·have : decide ((w.mail.length : Int) < 30) = true := by simp only [decide_eq_true_eq]; omega
   rw [this, if_pos ⟨rfl, h2⟩]; rfl
  ·have : decide ((w.mail.length : Int) < 30) = false := by simp only [decide_eq_false_iff_not]; omega
   rw [this, if_neg (fun h => h2 h.2)]; rfl
 ·have : (cr m != 0) = true := by simpa using h1
  rw [this, cond_true, if_neg (fun h => h1 h.1)]
  have : (cr m == 0) = false := by simpa using h1
  simp only [this, cond_false]
theorem qG {l : List Mail} (h : cj l = 0) (m : Mail) : cj (posted l m) = 0 := by
 unfold posted
 split
 ·rename_i h1
  obtain ⟨h2, h3⟩ := (eO l).1 h
  refine (eO _).2 ⟨by simp only [List.length_append, List.length_cons, List.length_nil]; omega, fun x hx => ?_⟩
  rcases List.mem_append.1 hx with hx | hx
  ·exact h3 x hx
  ·rw [List.mem_singleton] at hx; subst hx; exact h1.1
 ·exact h
theorem IsW.withMail {w : Wld} {l : List Rec} (h : IsW w l) {q : List Mail} (hq : cj q = 0) : IsW ⟨w.h, w.d, w.up, w.c, q⟩ l :=
 ⟨h.three, hq, h.all, h.sixty, h.recd, h.up, h.down, h.cli⟩
theorem IsW.withCli {w : Wld} {l : List Rec} (h : IsW w l) {k : Nat} {c : Client} (hk : k < 3) (hc : bH c (k : Int) = 0) : IsW ⟨w.h, w.d, w.up, w.c.set k c, w.mail⟩ l :=
 ⟨by simp only [List.length_set]; exact h.three, h.mail, h.all, h.sixty, h.recd, h.up, h.down, fun j hj => by
  by_cases hjk : j = k
  ·subst hjk
   have : gt (w.c.set j c) j = c := by simp [gt, List.getD_eq_getElem?_getD, h.three, hj]
   simp only [this]; exact hc
  ·have : gt (w.c.set k c) j = gt w.c j := by simp [gt, List.getD_eq_getElem?_getD, List.getElem?_set_ne (Ne.symm hjk)]
   simp only [this]; exact h.cli j hj⟩
theorem AR {l : List Mail} {k : Int} {t : Bool} (h0 : (aL l k t).2.2 = 0) : cj (aL l k t).1 = 0 := by
 obtain ⟨h1, h2, h3, h4⟩ := lz h0
 obtain ⟨h5, h6⟩ := (eO l).1 h1
 rw [h4]
 cases t with
 | true => exact h1
 | false =>
  refine (eO _).2 ⟨?_, fun x hx => ?_⟩
  ·simp only [cond_false, List.length_append, List.length_take, List.length_drop]; omega
  ·rcases List.mem_append.1 hx with hx | hx
   ·exact h6 x (List.mem_of_mem_take hx)
   ·exact h6 x (List.mem_of_mem_drop hx)
theorem zF {c : Client} {me : Int} {m : Mail} (h : (bz c me m).2 = 0) : bH (bz c me m).1 me = 0 := by
 obtain ⟨hc, hs, _, _, h1⟩ := zE h
 rcases h1 with h1 | ⟨v, hv, hst, h1⟩
 ·rw [h1]; exact (fg _ _).2 hc
 ·rw [h1]; exact (fg _ _).2 (xV hc hs hst hv).1
theorem yB {life time : Int} {k : Nat} (hk : k < 3) (h : (dk life time).2 = 0) : bH (dk life time).1 (k : Int) = 0 ∧ (dk life time).1 = ⟨life, time, 0, [], 0, ⟨[], [], []⟩⟩ := by
 unfold dk at h ⊢
 cases h1 : (((decide (life < 1) || decide (life > 50)) || decide (time < 0)) || decide (time > 10000)) with
 | true => rw [h1] at h; cases h
 | false =>
  simp only [Bool.or_eq_false_iff, decide_eq_false_iff_not] at h1
  rw [cond_false]
  refine ⟨(fg _ _).2 ⟨by omega, by simp only; omega, by simp, (gD (⟨[], [], []⟩ : View)).1 (by decide), fun h => by simp only at h; omega, fun _ => rfl, by simp, fun i hi => by simp at hi⟩, rfl⟩
abbrev opRec (o : Op) : Rec := ⟨1, 0, 0, [], o⟩
abbrev lT (w : Wld) (who : Int) : Rec := ⟨2, who, (gt w.h.peers who.toNat).life + 1, [], ⟨0, 0, 0, 0, 0, 0, 0⟩⟩
abbrev oo (who : Int) (roots : List Int) : Rec := ⟨3, who, 0, roots, ⟨0, 0, 0, 0, 0, 0, 0⟩⟩
abbrev zO (who : Int) (o : Op) : Mail := ⟨1, who, 0, 0, 0, 0, 0, o, ⟨[], [], []⟩, ⟨[], [], [], []⟩⟩
def ub (l : List Mail) (x : Happening) : List Mail := bif x.kind == 8 then l else l.take x.n.toNat ++ l.drop (x.n + 1).toNat
structure Shown (w : Wld) (l : List Rec) (x : Happening) (m : Mail) : Prop where
 sees : (bQ w.h x.who).2 = 0
 life : (gt w.h.peers x.who.toNat).life ≠ 0
 case : m = ⟨2, x.who, (gt w.h.peers x.who.toNat).life, (gt w.h.peers x.who.toNat).seq, fc w.h, w.h.version, 0, ⟨0, 0, 0, 0, 0, 0, 0⟩, (bQ w.h x.who).1, ⟨[], [], [], []⟩⟩ ∨
  (0 ≤ x.n ∧ x.n < w.h.version ∧ ∃ g : Hub, aB (l.take x.n.toNat) = (g, 0) ∧ (gt g.peers x.who.toNat).life = (gt w.h.peers x.who.toNat).life ∧ (gt g.peers x.who.toNat).roots = (gt w.h.peers x.who.toNat).roots ∧ (bQ g x.who).2 = 0 ∧
   (fl (bQ g x.who).1 (bQ w.h x.who).1).2 = 0 ∧
   m = ⟨3, x.who, (gt w.h.peers x.who.toNat).life, (gt w.h.peers x.who.toNat).seq, fc w.h, w.h.version, x.n, ⟨0, 0, 0, 0, 0, 0, 0⟩, ⟨[], [], []⟩, (fl (bQ g x.who).1 (bQ w.h x.who).1).1⟩)
inductive Hap (w : Wld) (l : List Rec) (x : Happening) : Wld → List Rec → Prop
 | hear (hx : x.kind = 7 ∨ x.kind = 8) (hn : 0 ≤ x.n ∧ x.n < (w.mail.length : Int)) (m : Mail) (hm : m = gt w.mail x.n.toNat) (hk : m.kind ≠ 1) (hh : (bz (gt w.c m.who.toNat) m.who m).2 = 0) :
   Hap w l x ⟨w.h, w.d, w.up, w.c.set m.who.toNat (bz (gt w.c m.who.toNat) m.who m).1, ub w.mail x⟩ l
 | got (hx : x.kind = 7 ∨ x.kind = 8) (hn : 0 ≤ x.n ∧ x.n < (w.mail.length : Int)) (m : Mail) (hm : m = gt w.mail x.n.toNat) (hk : m.kind = 1) (hu : w.up = true) (h0 : (bi w.h (opRec m.o)).2 = 0) :
   Hap w l x ⟨(bi w.h (opRec m.o)).1, ⟨bp (l ++ [opRec m.o]), []⟩, w.up, w.c, ub w.mail x⟩ (l ++ [opRec m.o])
 | late (hx : x.kind = 7 ∨ x.kind = 8) (hn : 0 ≤ x.n ∧ x.n < (w.mail.length : Int)) (m : Mail) (hm : m = gt w.mail x.n.toNat) (hk : m.kind = 1) (hu : w.up = true) (h0 : (bi w.h (opRec m.o)).2 ≠ 0) :
   Hap w l x ⟨w.h, w.d, w.up, w.c, ub w.mail x⟩ l
 | lose (hx : x.kind = 9) (hn : 0 ≤ x.n ∧ x.n < (w.mail.length : Int)) : Hap w l x ⟨w.h, w.d, w.up, w.c, w.mail.take x.n.toNat ++ w.mail.drop (x.n + 1).toNat⟩ l
 | crash (hx : x.kind = 10) (hu : w.up = true) : Hap w l x ⟨dj, w.d, false, w.c, w.mail⟩ l
 | boot (hx : x.kind = 11) (hu : w.up = false) (h0 : (aB l).2 = 0) : Hap w l x ⟨(aB l).1, ⟨bp l, []⟩, true, w.c, w.mail⟩ l
 | move (hx : x.kind = 1) (hw : 0 ≤ x.who ∧ x.who < 3) (h0 : (dq (gt w.c x.who.toNat) x.who x.node x.parent x.name).2.2 = 0) :
   Hap w l x ⟨w.h, w.d, w.up, w.c.set x.who.toNat (dq (gt w.c x.who.toNat) x.who x.node x.parent x.name).1, posted w.mail (zO x.who (dq (gt w.c x.who.toNat) x.who x.node x.parent x.name).2.1)⟩ l
 | again (hx : x.kind = 2) (hw : 0 ≤ x.who ∧ x.who < 3) (hn : 0 ≤ x.n ∧ x.n < ((gt w.c x.who.toNat).pending.length : Int)) :
   Hap w l x ⟨w.h, w.d, w.up, w.c, posted w.mail (zO x.who (gt (gt w.c x.who.toNat).pending x.n.toNat))⟩ l
 | began (hx : x.kind = 6) (hw : 0 ≤ x.who ∧ x.who < 3) (hu : w.up = true) (h0 : (bi w.h (lT w x.who)).2 = 0) (h1 : (dk ((gt w.h.peers x.who.toNat).life + 1) (fc (bi w.h (lT w x.who)).1)).2 = 0) :
   Hap w l x ⟨(bi w.h (lT w x.who)).1, ⟨bp (l ++ [lT w x.who]), []⟩, w.up, w.c.set x.who.toNat (dk ((gt w.h.peers x.who.toNat).life + 1) (fc (bi w.h (lT w x.who)).1)).1, w.mail⟩ (l ++ [lT w x.who])
 | roots (hx : x.kind = 5) (hw : 0 ≤ x.who ∧ x.who < 3) (hu : w.up = true) (h0 : (bi w.h (oo x.who x.roots)).2 = 0) :
   Hap w l x ⟨(bi w.h (oo x.who x.roots)).1, ⟨bp (l ++ [oo x.who x.roots]), []⟩, w.up, w.c, w.mail⟩ (l ++ [oo x.who x.roots])
 | shown (hx : x.kind = 3 ∨ x.kind = 4) (hw : 0 ≤ x.who ∧ x.who < 3) (hu : w.up = true) (m : Mail) (hm : Shown w l x m) : Hap w l x ⟨w.h, w.d, w.up, w.c, posted w.mail m⟩ l
theorem Hap.keeps {w w' : Wld} {l l' : List Rec} {x : Happening} (h : IsW w l) (hp : Hap w l x w' l') : IsW w' l' := by
 have hleft : ∀ (_ : x.kind = 7 ∨ x.kind = 8) (_ : 0 ≤ x.n ∧ x.n < (w.mail.length : Int)), cj (ub w.mail x) = 0 := fun _ hn => by
  obtain ⟨h5, h6⟩ := (eO _).1 h.mail
  unfold ub
  cases (x.kind == 8) with
  | true => exact h.mail
  | false =>
   refine (eO _).2 ⟨?_, fun y hy => ?_⟩
   ·simp only [cond_false, List.length_append, List.length_take, List.length_drop]; omega
   ·rcases List.mem_append.1 hy with hy | hy
    ·exact h6 y (List.mem_of_mem_take hy)
    ·exact h6 y (List.mem_of_mem_drop hy)
 cases hp with
 | hear hx hn m hm hk hh =>
  have hw : 0 ≤ m.who ∧ m.who < 3 := by rw [hm]; exact n9 (((eO _).1 h.mail).2 _ (im (by omega)))
  refine (h.withCli (k := m.who.toNat) (by omega) ?_).withMail (hleft hx hn)
  rw [Int.toNat_of_nonneg hw.1]; exact zF hh
 | got hx hn m hm hk hu h0 => exact uC (h.withMail (hleft hx hn)) hu h0
 | late hx hn m hm hk hu h0 => exact h.withMail (hleft hx hn)
 | lose hx hn =>
  obtain ⟨h5, h6⟩ := (eO _).1 h.mail
  refine h.withMail ((eO _).2 ⟨?_, fun y hy => ?_⟩)
  ·simp only [List.length_append, List.length_take, List.length_drop]; omega
  ·rcases List.mem_append.1 hy with hy | hy
   ·exact h6 y (List.mem_of_mem_take hy)
   ·exact h6 y (List.mem_of_mem_drop hy)
 | crash hx hu => exact ⟨h.three, h.mail, h.all, h.sixty, h.recd, fun hu => (by cases hu), fun _ => rfl, h.cli⟩
 | boot hx hu h0 => exact ⟨h.three, h.mail, h.all, h.sixty, su h.all h.sixty, fun _ => ⟨rfl, Prod.ext rfl h0⟩, fun hu => (by cases hu), h.cli⟩
 | move hx hw h0 =>
  obtain ⟨a1, a2, a3, a4, a5, a6, a7⟩ := wj h0
  refine (h.withCli (k := x.who.toNat) (by omega) ?_).withMail (qG h.mail _)
  rw [a7, Int.toNat_of_nonneg hw.1]
  exact (fg _ _).2 (t6 a1 a2 a3 a4 a5 a6)
 | again hx hw hn => exact h.withMail (qG h.mail _)
 | began hx hw hu h0 h1 => exact (uC h hu h0).withCli (k := x.who.toNat) (by omega) (yB (by omega) h1).1
 | roots hx hw hu h0 => exact uC h hu h0
 | shown hx hw hu m hm => exact h.withMail (qG h.mail m)
theorem vG {w : Wld} {l : List Rec} {x : Happening} (h : IsW w l) (hx : x.kind = 7 ∨ x.kind = 8) (h0 : (cX w x).1 = 0) : ∃ l', Hap w l x (cX w x).2 l' := by
 unfold cX at h0 ⊢
 cases h1 : ((aL w.mail x.n (x.kind == 8)).2.2 != 0) with
 | true => rw [h1, cond_true] at h0; simp only at h0; rw [h0] at h1; cases h1
 | false =>
 obtain ⟨_, t2, t3, t4⟩ := lz (ai h1)
 rw [h1, cond_false] at h0
 rw [cond_false]
 rw [t4] at h0 ⊢
 cases h2 : ((gt w.mail x.n.toNat).kind != 1) with
 | true =>
  simp only [h2, cond_true] at h0 ⊢
  cases h3 : ((bz (gt w.c (gt w.mail x.n.toNat).who.toNat) (gt w.mail x.n.toNat).who (gt w.mail x.n.toNat)).2 == 0) with
  | false => rw [h3, cond_false] at h0; simp only at h0; rw [h0] at h3; cases h3
  | true => exact ⟨l, .hear hx ⟨t2, t3⟩ _ rfl (bne_iff_ne.1 h2) (eq_of_beq h3)⟩
 | false =>
  simp only [h2, cond_false] at h0 ⊢
  cases hu : w.up with
  | false => rw [hu] at h0; cases h0
  | true =>
   simp only [Bool.not_true, cond_false]
   have hT : cj (bif x.kind == 8 then w.mail else w.mail.take x.n.toNat ++ w.mail.drop (x.n + 1).toNat) = 0 := by
    have := AR (ai h1); rwa [t4] at this
   have hw := h.withMail hT
   rw [hu] at hw
   rw [sD hw rfl]
   by_cases hn : (bi w.h (opRec (gt w.mail x.n.toNat).o)).2 = 0
   ·rw [if_pos hn]
    have := Hap.got (l := l) hx ⟨t2, t3⟩ _ rfl (ai h2) hu hn
    rw [hu] at this
    exact ⟨_, this⟩
   ·rw [if_neg hn]
    have := Hap.late (l := l) hx ⟨t2, t3⟩ _ rfl (ai h2) hu hn
    rw [hu] at this
    exact ⟨_, this⟩
theorem tS {w : Wld} {l : List Rec} {x : Happening} (h : IsW w l) (hk : x.kind = 10 ∨ x.kind = 11) (h0 : (dX w x).1 = 0) : Hap w l x (dX w x).2 l := by
 unfold dX at h0 ⊢
 cases h1 : (w.up == (x.kind == 11)) with
 | true => rw [h1] at h0; cases h0
 | false =>
 rw [h1, cond_false] at h0
 rw [cond_false]
 rcases hk with hk | hk
 ·have e1 : (x.kind == 10) = true := by rw [hk]; rfl
  have e2 : (x.kind == 11) = false := by rw [hk]; rfl
  rw [e1, cond_true]
  refine .crash hk ?_
  rw [e2] at h1
  cases hu : w.up with
  | true => rfl
  | false => rw [hu] at h1; cases h1
 ·have e1 : (x.kind == 10) = false := by rw [hk]; rfl
  have e2 : (x.kind == 11) = true := by rw [hk]; rfl
  rw [e1, cond_false] at h0 ⊢
  simp only [h.recd, bne_self_eq_false, cond_false] at h0 ⊢
  cases h3 : ((aB l).2 == 0) with
  | false => rw [h3, cond_false] at h0; simp only at h0; rw [h0] at h3; cases h3
  | true =>
   refine .boot hk ?_ (eq_of_beq h3)
   rw [e2] at h1
   cases hu : w.up with
   | false => rfl
   | true => rw [hu] at h1; cases h1
theorem yL {w : Wld} {l : List Rec} {x : Happening} (h : IsW w l) (hx : x.kind = 3 ∨ x.kind = 4) (hw : 0 ≤ x.who ∧ x.who < 3) (hu : w.up = true) (h0 : (eF w x).1 = 0) : Hap w l x (eF w x).2 l := by
 unfold eF at h0 ⊢
 cases h1 : ((bQ w.h x.who).2 != 0) with
 | true => rw [h1, cond_true] at h0; simp only at h0; rw [h0] at h1; cases h1
 | false =>
 rw [h1, cond_false] at h0
 rw [cond_false]
 cases h2 : ((gt w.h.peers x.who.toNat).life == 0) with
 | true => rw [h2] at h0; cases h0
 | false =>
 rw [h2, cond_false] at h0
 rw [cond_false]
 have hl := beq_eq_false_iff_ne.1 h2
 cases h3 : (x.kind == 4) with
 | false =>
  rw [cond_false]
  simp only
  rw [sY h]
  exact .shown hx hw hu _ ⟨ai h1, hl, .inl rfl⟩
 | true =>
  rw [h3, cond_true] at h0
  rw [cond_true]
  cases h4 : (decide (x.n < 0) || decide (x.n ≥ w.h.version)) with
  | true => rw [h4] at h0; cases h0
  | false =>
  rw [h4, cond_false] at h0
  rw [cond_false]
  simp only [Bool.or_eq_false_iff, decide_eq_false_iff_not] at h4
  simp only [h.recd, bne_self_eq_false, cond_false] at h0 ⊢
  cases h5 : ((aB (l.take x.n.toNat)).2 != 0) with
  | true => rw [h5, cond_true] at h0; simp only at h0; rw [h0] at h5; cases h5
  | false =>
  rw [h5, cond_false] at h0
  rw [cond_false]
  have h5 := ai h5
  generalize hG : aB (l.take x.n.toNat) = G at *
  obtain ⟨g, e⟩ := G
  simp only at h5
  subst h5
  simp only at h0 ⊢
  cases h6 : (((gt g.peers x.who.toNat).life != (gt w.h.peers x.who.toNat).life) || (!(decide ((gt g.peers x.who.toNat).roots = (gt w.h.peers x.who.toNat).roots)))) with
  | true => rw [h6] at h0; cases h0
  | false =>
  rw [h6, cond_false] at h0
  rw [cond_false]
  simp only [Bool.or_eq_false_iff, bne_eq_false_iff_eq, Bool.not_eq_false', decide_eq_true_eq] at h6
  cases h7 : ((bQ g x.who).2 != 0) with
  | true => rw [h7, cond_true] at h0; simp only at h0; rw [h0] at h7; cases h7
  | false =>
  rw [h7, cond_false] at h0
  rw [cond_false]
  cases h8 : ((fl (bQ g x.who).1 (bQ w.h x.who).1).2 != 0) with
  | true => rw [h8, cond_true] at h0; simp only at h0; rw [h0] at h8; cases h8
  | false =>
  rw [cond_false]
  simp only
  rw [sY h]
  exact .shown hx hw hu _ ⟨ai h1, hl, .inr ⟨by omega, by omega, g, hG, h6.1, h6.2, ai h7, ai h8, rfl⟩⟩
theorem tY {w : Wld} {l : List Rec} {x : Happening} (h : IsW w l) (hx : 1 ≤ x.kind ∧ x.kind ≤ 6) (h0 : (aM w x).1 = 0) : ∃ l', Hap w l x (aM w x).2 l' := by
 unfold aM at h0 ⊢
 cases h1 : (decide (x.who < 0) || decide (x.who ≥ (w.c.length : Int))) with
 | true => rw [h1] at h0; cases h0
 | false =>
 have hw : 0 ≤ x.who ∧ x.who < 3 := by
  simp only [h.three, Bool.or_eq_false_iff, decide_eq_false_iff_not] at h1; omega
 rw [h1, cond_false] at h0
 rw [cond_false]
 cases h2 : (x.kind == 1) with
 | true =>
  rw [h2, cond_true] at h0
  rw [cond_true]
  cases h3 : ((dq (gt w.c x.who.toNat) x.who x.node x.parent x.name).2.2 != 0) with
  | true => rw [h3, cond_true] at h0; simp only at h0; rw [h0] at h3; cases h3
  | false =>
   rw [cond_false]
   obtain ⟨a1, a2, a3, a4, a5, a6, a7⟩ := wj (ai h3)
   have hc : bH (dq (gt w.c x.who.toNat) x.who x.node x.parent x.name).1 ((x.who.toNat : Nat) : Int) = 0 := by
    rw [a7, Int.toNat_of_nonneg hw.1]; exact (fg _ _).2 (t6 a1 a2 a3 a4 a5 a6)
   simp only
   rw [sY (h.withCli (k := x.who.toNat) (by omega) hc)]
   exact ⟨l, .move (eq_of_beq h2) hw (ai h3)⟩
 | false =>
 rw [h2, cond_false] at h0
 rw [cond_false]
 cases h3 : (x.kind == 2) with
 | true =>
  rw [h3, cond_true] at h0
  rw [cond_true]
  cases h4 : (decide (x.n < 0) || decide (x.n ≥ ((gt w.c x.who.toNat).pending.length : Int))) with
  | true => rw [h4] at h0; cases h0
  | false =>
   simp only [Bool.or_eq_false_iff, decide_eq_false_iff_not] at h4
   rw [cond_false]
   simp only
   rw [sY h]
   exact ⟨l, .again (eq_of_beq h3) hw (by omega)⟩
 | false =>
 rw [h3, cond_false] at h0
 rw [cond_false]
 cases hu : w.up with
 | false => rw [hu] at h0; cases h0
 | true =>
 rw [hu, Bool.not_true, cond_false] at h0
 rw [Bool.not_true, cond_false]
 cases h4 : (x.kind == 6) with
 | true =>
  rw [h4, cond_true] at h0
  rw [cond_true]
  simp only at h0 ⊢
  unfold db at h0 ⊢
  rw [sD h hu] at h0 ⊢
  by_cases hn : (bi w.h (lT w x.who)).2 = 0
  ·rw [if_pos hn] at h0 ⊢
   simp only [bne_self_eq_false, cond_false] at h0 ⊢
   cases h5 : ((dk ((gt w.h.peers x.who.toNat).life + 1) (fc (bi w.h (lT w x.who)).1)).2 == 0) with
   | false => rw [h5, cond_false] at h0; simp only at h0; rw [h0] at h5; cases h5
   | true => exact ⟨_, .began (eq_of_beq h4) hw hu hn (eq_of_beq h5)⟩
  ·rw [if_neg hn] at h0
   have : ((bi w.h (lT w x.who)).2 != 0) = true := by simpa using hn
   simp only [this, cond_true] at h0
   exact absurd h0 hn
 | false =>
 rw [h4, cond_false] at h0
 rw [cond_false]
 cases h5 : (x.kind == 5) with
 | true =>
  rw [h5, cond_true] at h0
  rw [cond_true]
  simp only at h0 ⊢
  rw [sD h hu] at h0 ⊢
  by_cases hn : (bi w.h (oo x.who x.roots)).2 = 0
  ·rw [if_pos hn]; exact ⟨_, .roots (eq_of_beq h5) hw hu hn⟩
  ·rw [if_neg hn] at h0; exact absurd h0 hn
 | false =>
  rw [h5, cond_false] at h0
  rw [cond_false]
  simp only [beq_eq_false_iff_ne] at h2 h3 h4 h5
  exact ⟨l, yL h (by omega) hw hu h0⟩
theorem wI {w : Wld} {l : List Rec} {x : Happening} (h : IsW w l) (h0 : (bF w x).1 = 0) : ∃ l', Hap w l x (bF w x).2 l' := by
 have hc : ∀ (_ : 1 ≤ x.kind ∧ x.kind ≤ 6) (z : Int × Wld), z = ((aM w x).1, (aM w x).2) → z.1 = 0 → ∃ l', Hap w l x z.2 l' := fun hx z hz h0 => by
  subst hz; exact tY h hx h0
 unfold bF at h0 ⊢
 cases h1 : (x.kind == 7) with
 | true => rw [h1, cond_true] at h0; rw [cond_true]; exact vG h (.inl (eq_of_beq h1)) h0
 | false =>
 rw [h1, cond_false] at h0; rw [cond_false]
 cases h2 : (x.kind == 8) with
 | true => rw [h2, cond_true] at h0; rw [cond_true]; exact vG h (.inr (eq_of_beq h2)) h0
 | false =>
 rw [h2, cond_false] at h0; rw [cond_false]
 cases h3 : (x.kind == 9) with
 | true =>
  rw [h3, cond_true] at h0
  rw [cond_true]
  cases h4 : ((aL w.mail x.n false).2.2 == 0) with
  | true =>
   obtain ⟨_, t2, t3, t4⟩ := lz (eq_of_beq h4)
   rw [cond_true, t4]
   exact ⟨l, .lose (eq_of_beq h3) ⟨t2, t3⟩⟩
  | false => rw [h4, cond_false] at h0; simp only at h0; rw [h0] at h4; cases h4
 | false =>
 rw [h3, cond_false] at h0; rw [cond_false]
 cases h4 : (x.kind == 10) with
 | true => rw [h4, cond_true] at h0; rw [cond_true]; exact ⟨l, tS h (.inl (eq_of_beq h4)) h0⟩
 | false =>
 rw [h4, cond_false] at h0; rw [cond_false]
 cases h5 : (x.kind == 11) with
 | true => rw [h5, cond_true] at h0; rw [cond_true]; exact ⟨l, tS h (.inr (eq_of_beq h5)) h0⟩
 | false =>
 rw [h5, cond_false] at h0; rw [cond_false]
 cases h6 : (x.kind == 1) with
 | true => rw [h6, cond_true] at h0; rw [cond_true]; exact hc (by rw [eq_of_beq h6]; decide) _ rfl h0
 | false =>
 rw [h6, cond_false] at h0; rw [cond_false]
 cases h7 : (x.kind == 2) with
 | true => rw [h7, cond_true] at h0; rw [cond_true]; exact hc (by rw [eq_of_beq h7]; decide) _ rfl h0
 | false =>
 rw [h7, cond_false] at h0; rw [cond_false]
 cases h8 : (x.kind == 3) with
 | true => rw [h8, cond_true] at h0; rw [cond_true]; exact hc (by rw [eq_of_beq h8]; decide) _ rfl h0
 | false =>
 rw [h8, cond_false] at h0; rw [cond_false]
 cases h9 : (x.kind == 4) with
 | true => rw [h9, cond_true] at h0; rw [cond_true]; exact hc (by rw [eq_of_beq h9]; decide) _ rfl h0
 | false =>
 rw [h9, cond_false] at h0; rw [cond_false]
 cases h10 : (x.kind == 5) with
 | true => rw [h10, cond_true] at h0; rw [cond_true]; exact hc (by rw [eq_of_beq h10]; decide) _ rfl h0
 | false =>
 rw [h10, cond_false] at h0; rw [cond_false]
 cases h11 : (x.kind == 6) with
 | true => rw [h11, cond_true] at h0; rw [cond_true]; exact hc (by rw [eq_of_beq h11]; decide) _ rfl h0
 | false => rw [h11] at h0; cases h0
theorem pL {w : Wld} {x : Happening} (h : dc w = 0) (h0 : (bF w x).1 = 0) : dc (bF w x).2 = 0 := by
 obtain ⟨l, hl⟩ := (gR w).1 h
 obtain ⟨l', hp⟩ := wI hl h0
 exact (gR _).2 ⟨l', hp.keeps hl⟩
end Go.Proofs.YtkjccbdeaflekaaGreatDoor

set_option maxHeartbeats 2000000
namespace Go.Proofs.YtkjccbdeaflekaaGreatDoor
open Go Go.Proofs.YtkjccbdeaflekaaGreatDoor.Fw Go.Proofs
attribute [local irreducible] RdL RdN VarP LibP RW CW
def iK  : List Happening → (List Int) → Wld → (Wld × (List Int) × Int)
 | [], said1, w2 => (w2, said1, 0)
 | pn1 :: rn1, said1, w2 => (bif ((bF w2 pn1).1 == 0) then (iK rn1 (said1 ++ [(bF w2 pn1).1]) (bF w2 pn1).2) else (iK rn1 (said1 ++ [(bF w2 pn1).1]) w2))
def dY (w1 : Wld) (l1 : List Happening) : Wld × (List Int) × Int :=
 (bif ((dc w1) != 0) then ((⟨(⟨(⟨[], []⟩ : History), 0, ([] : List Peer)⟩ : Hub), (⟨[], []⟩ : Disk), false, ([] : List Client), ([] : List Mail)⟩ : Wld), ([] : List Int), (dc w1)) else (bif decide ((l1.length : Int) > 100) then ((⟨(⟨(⟨[], []⟩ : History), 0, ([] : List Peer)⟩ : Hub), (⟨[], []⟩ : Disk), false, ([] : List Client), ([] : List Mail)⟩ : Wld), ([] : List Int), 2) else (iK l1 [] w1)))
theorem rD (y1 : SlV) (y2 : SlV) (y3 : SlV) (y4 : SlV) (y5 : SlV) (y6 : SlV) (y7 : SlV) (w1 : Wld) (y8 : SlV) (l1 : List Happening) : Does Tryz.prog 7 [.agg ⟨cW y1 y2 y3 y4 y5 y6 y7 w1⟩, y8.val l1.length] [RdL EStep y1 w1.h.h.l, RdL EPlace y2 w1.h.h.t, RdN NPeer y3 w1.h.peers, RdL EByte y4 w1.d.safe, RdL EByte y5 w1.d.wait, RdN NClient y6 w1.c, RdN NMail y7 w1.mail, RdN NHap y8 l1, LibP Tryz.prog] (fun (X : SlV × SlV × SlV × SlV × SlV × SlV × SlV × SlV) => .tuple #[.agg ⟨cW X.1 X.2.1 X.2.2.1 X.2.2.2.1 X.2.2.2.2.1 X.2.2.2.2.2.1 X.2.2.2.2.2.2.1 (dY w1 l1).1⟩, X.2.2.2.2.2.2.2.val (dY w1 l1).2.1.length, .int .i64 (dY w1 l1).2.2]) (fun X => [RdL EStep X.1 (dY w1 l1).1.h.h.l, RdL EPlace X.2.1 (dY w1 l1).1.h.h.t, RdN NPeer X.2.2.1 (dY w1 l1).1.h.peers, RdL EByte X.2.2.2.1 (dY w1 l1).1.d.safe, RdL EByte X.2.2.2.2.1 (dY w1 l1).1.d.wait, RdN NClient X.2.2.2.2.2.1 (dY w1 l1).1.c, RdN NMail X.2.2.2.2.2.2.1 (dY w1 l1).1.mail, RdL EInt X.2.2.2.2.2.2.2 (dY w1 l1).2.1]) := by
 refine Dp aH Tryz.func7 Tryz.ntmps7 Tryz.results7 fun C => ?_
 refine Pc EStep y1 w1.h.h.l 88 fun hlen1 => ?_
 refine Pc EPlace y2 w1.h.h.t 24 fun hlen2 => ?_
 refine Pn NPeer y3 w1.h.peers 40 fun hlen3 => ?_
 refine Pc EByte y4 w1.d.safe 1 fun hlen4 => ?_
 refine Pc EByte y5 w1.d.wait 1 fun hlen5 => ?_
 refine Pn NClient y6 w1.c 128 fun hlen6 => ?_
 refine Pn NMail y7 w1.mail 280 fun hlen7 => ?_
 refine Pn NHap y8 l1 72 fun hlen8 => ?_
 refine BxT fun g1 => ?_
 refine AlT fun g2 => ?_
 refine Ck (jM y1 y2 y3 y4 y5 y6 y7 w1) fun _ => ?_
 have hf := Ri (dY.eq_1 w1 l1)
 refine Cn hf (fun hc1 hc1p hf => ?_) fun hc1 hc1p hf => ?_
 ·refine Tx ?_
  refine Fc EStep ?_
  refine Fc EPlace ?_
  refine Ft NPeer ?_
  refine Fc EByte ?_
  refine Ft NClient ?_
  refine Ft NMail ?_
  refine Fc EInt ?_
  refine Rx ?_; exact Re ⟨Z0, Z0, Z0, Z0, Z0, Z0, Z0, Z0⟩ Rv
 ·refine Cp hf (fun hc2 hc2p hf => ?_) fun hc2 hc2p hf => ?_
  ·refine Tx ?_
   refine Fc EStep ?_
   refine Fc EPlace ?_
   refine Ft NPeer ?_
   refine Fc EByte ?_
   refine Ft NClient ?_
   refine Ft NMail ?_
   refine Fc EInt ?_
   refine Rx ?_; exact Re ⟨Z0, Z0, Z0, Z0, Z0, Z0, Z0, Z0⟩ Rv
  ·refine Cm (ma y1 y2 y3 y4 y5 y6 y7 w1) fun x1 => ?_
   refine rw_le (ao NClient.E 63 x1.2.2.2.2.2.1 x1.2.2.2.2.2.2.1 (zipG x1.2.2.2.2.2.2.2.1 0 w1.c) Uo) ?_
   refine Fk NClient x1.2.2.2.2.2.1 x1.2.2.2.2.2.2.2.1 w1.c ?_
   refine Tx ?_
   (repeat refine aI ?_); refine Lp [2,4,5,6,25,26] [true, false] (fun (i_ : List Int × SlV × Option Nat × Nat × Wld × SlV × SlV × SlV × SlV × SlV × SlV × SlV) => match i_ with | ⟨said1, x2, x2b, n1, w2, x3, x4, x5, x6, x7, x8, x9⟩ => (⟨[(8, .v (x2.val said1.length)), (27, .v (.int .i64 (n1 : Int)))], [⟨g1, 37, cW x3 x4 x5 x6 x7 x8 x9 w2⟩], [ownL EInt 40 x2 x2b said1], [RdL EStep x3 w2.h.h.l, RdL EPlace x4 w2.h.h.t, RdN NPeer x5 w2.h.peers, RdL EByte x6 w2.d.safe, RdL EByte x7 w2.d.wait, RdN NClient x8 w2.c, RdN NMail x9 w2.mail], (n1 ≤ l1.length) ∧ (said1.length ≤ n1) ∧ (dc w2 = 0) ∧ (iK (l1.drop n1) said1 w2) = (dY w1 l1), l1.length - n1⟩ : Ls)) ⟨[], ⟨none, 0⟩, none, 0, w1, x1.1, x1.2.1, x1.2.2.1, x1.2.2.2.1, x1.2.2.2.2.1, x1.2.2.2.2.2.1, x1.2.2.2.2.2.2.2.2⟩ (Sc (Sc (Sc (Sc (Sc (Sc Sn)))))) (.keep (.drop (.nil))) ⟨Nat.zero_le _, (by first | exact Nat.le_refl _ | exact Nat.zero_le _ | omega), (ai (by assumption)), hf.symm⟩ (Le.trans (eu EInt 40) Le4) ?_
   rintro ⟨said1, x2, x2b, n1, w2, x3, x4, x5, x6, x7, x8, x9⟩ ⟨hkn1, hsaid1, hinv, hf1⟩
   simp only [Lc]
   refine Cu (fun hlt0 => ?_) fun hge0 => ?_
   ·refine Tx ?_
    refine e8 NHap (X := y8) (l := l1) Mm fun (γ1 : Nat → SlV) => ?_
    refine Sq (Xn NHap n1) ?_
    refine Sq (q_is (v' := .agg ⟨cA (γ1 n1) (gt l1 n1)⟩) (ij NHap γ1 rfl rfl Zf rfl rfl Mm (fun _ => by first | assumption | omega)) rfl) ?_
    refine Fg NHap γ1 l1 n1 0 ?_
    refine AlT fun g3 => ?_
    refine Cm (ma x3 x4 x5 x6 x7 x8 x9 w2) fun x10 => ?_
    refine AlT fun g4 => ?_
    refine Cm (o6 g4 x10.1 x10.2.1 x10.2.2.1 x10.2.2.2.1 x10.2.2.2.2.1 x10.2.2.2.2.2.1 x10.2.2.2.2.2.2.1 x10.2.2.2.2.2.2.2.1 x10.2.2.2.2.2.2.2.2 w2 (γ1 n1) (gt l1 n1) (qp (by first | assumption | exact hinv | exact ai hc1)).1 (qp (by first | assumption | exact hinv | exact ai hc1)).2.1 (qp (by first | assumption | exact hinv | exact ai hc1)).2.2) fun x11 => ?_
    refine rw_le (ao NClient.E 63 x11.2.2.2.2.2.1 x11.2.2.2.2.2.2.1 (zipG x11.2.2.2.2.2.2.2.1 0 (bF w2 (gt l1 n1)).2.c) Uo) ?_
    refine Fk NClient x11.2.2.2.2.2.1 x11.2.2.2.2.2.2.2.1 (bF w2 (gt l1 n1)).2.c ?_
    have hf := Ri hf1.symm
    rw [aU hlt0, iK] at hf
    refine Ce hf (fun hc4 hc4p hf => ?_) fun hc4 hc4p hf => ?_
    ·refine Bl EInt [(bF w2 (gt l1 n1)).1] fun x12 x12b => ?_
     refine Ap EInt 8 said1 [(bF w2 (gt l1 n1)).1] x2b fun x13 x13b => ?_
     refine Tt ?_
     refine ⟨⟨(said1 ++ [(bF w2 (gt l1 n1)).1]), x13, x13b, (n1 + 1), (bF w2 (gt l1 n1)).2, x11.1, x11.2.1, x11.2.2.1, x11.2.2.2.1, x11.2.2.2.2.1, x11.2.2.2.2.2.1, x11.2.2.2.2.2.2.2.2⟩, ⟨hlt0, Zl, (by first | exact hinv | exact pL hinv (eq_of_beq (by assumption))), hf.symm⟩, Oo, Le4⟩
    ·refine Bl EInt [(bF w2 (gt l1 n1)).1] fun x14 x14b => ?_
     refine Ap EInt 8 said1 [(bF w2 (gt l1 n1)).1] x2b fun x15 x15b => ?_
     refine Tt ?_
     refine ⟨⟨(said1 ++ [(bF w2 (gt l1 n1)).1]), x15, x15b, (n1 + 1), w2, x3, x4, x5, x6, x7, x8, x9⟩, ⟨hlt0, Zl, (by first | exact hinv | exact pL hinv (eq_of_beq (by assumption))), hf.symm⟩, Oo, Le4⟩
   ·refine Tx ?_
    refine cw_le (ao EInt 40 x2 x2b said1 Uo) ?_
    have hf := Ri hf1.symm
    rw [List.drop_of_length_le hge0, iK] at hf
    refine Rx ?_; exact Re ⟨x3, x4, x5, x6, x7, x8, x9, x2⟩ Rv
def ee  : List Rec → (List Op) → ((List Op) × Int)
 | [], out1 => (out1, 0)
 | pn1 :: rn1, out1 => (bif (pn1.kind == 1) then (ee rn1 (out1 ++ [pn1.o])) else (ee rn1 out1))
def ct (w1 : Wld) : (List Op) × Int :=
 (bif ((dc w1) != 0) then (([] : List Op), (dc w1)) else (ee (ar w1.d).2.1 []))
theorem kg (y1 : SlV) (y2 : SlV) (y3 : SlV) (y4 : SlV) (y5 : SlV) (y6 : SlV) (y7 : SlV) (w1 : Wld) : Does Tryz.prog 25 [.agg ⟨cW y1 y2 y3 y4 y5 y6 y7 w1⟩] [RdL EStep y1 w1.h.h.l, RdL EPlace y2 w1.h.h.t, RdN NPeer y3 w1.h.peers, RdL EByte y4 w1.d.safe, RdL EByte y5 w1.d.wait, RdN NClient y6 w1.c, RdN NMail y7 w1.mail, LibP Tryz.prog] (fun (X : SlV) => .tuple #[X.val (ct w1).1.length, .int .i64 (ct w1).2]) (fun X => [RdL EOp X (ct w1).1]) := by
 refine Dp aH Tryz.func25 Tryz.ntmps25 Tryz.results25 fun C => ?_
 refine Pc EStep y1 w1.h.h.l 88 fun hlen1 => ?_
 refine Pc EPlace y2 w1.h.h.t 24 fun hlen2 => ?_
 refine Pn NPeer y3 w1.h.peers 40 fun hlen3 => ?_
 refine Pc EByte y4 w1.d.safe 1 fun hlen4 => ?_
 refine Pc EByte y5 w1.d.wait 1 fun hlen5 => ?_
 refine Pn NClient y6 w1.c 128 fun hlen6 => ?_
 refine Pn NMail y7 w1.mail 280 fun hlen7 => ?_
 refine BxT fun g1 => ?_
 refine Ck (jM y1 y2 y3 y4 y5 y6 y7 w1) fun _ => ?_
 have hf := Ri (ct.eq_1 w1)
 refine Cn hf (fun hc1 hc1p hf => ?_) fun hc1 hc1p hf => ?_
 ·refine Tx ?_
  refine Fc EOp ?_
  refine Rx ?_; exact Re Z0 (Vt (Vt Vn))
 ·refine Ck (ge y4 y5 w1.d) fun x1 => ?_
  refine AlT fun g2 => ?_
  refine Tx ?_
  refine Pn NRec x1.2.2 (ar w1.d).2.1 104 fun hlen8 => ?_
  (repeat refine aI ?_); refine Lp [2,3,23,24] [true, true] (fun (i_ : List Op × SlV × Option Nat × Nat) => match i_ with | ⟨out1, x2, x2b, n1⟩ => (⟨[(8, .v (x2.val out1.length)), (25, .v (.int .i64 (n1 : Int)))], [], [ownL EOp 76 x2 x2b out1], [], (n1 ≤ (ar w1.d).2.1.length) ∧ (out1.length ≤ n1) ∧ (ee ((ar w1.d).2.1.drop n1) out1) = (ct w1), (ar w1.d).2.1.length - n1⟩ : Ls)) ⟨[], ⟨none, 0⟩, none, 0⟩ (Sc (Sc (Sc (Sc Sn)))) (.keep (.keep (.nil))) ⟨Nat.zero_le _, (by first | exact Nat.le_refl _ | exact Nat.zero_le _ | omega), hf.symm⟩ (Le.trans (eu EOp 76) Le4) ?_
  rintro ⟨out1, x2, x2b, n1⟩ ⟨hkn1, hout1, hf1⟩
  simp only [Lc]
  refine Cu (fun hlt0 => ?_) fun hge0 => ?_
  ·refine Tx ?_
   refine e8 NRec (X := x1.2.2) (l := (ar w1.d).2.1) Mm fun (γ1 : Nat → SlV) => ?_
   refine Sq (Xn NRec n1) ?_
   refine Sq (q_is (v' := .agg ⟨cR (γ1 n1) (gt (ar w1.d).2.1 n1)⟩) (ij NRec γ1 rfl rfl Zf rfl rfl Mm (fun _ => by first | assumption | omega)) rfl) ?_
   refine Fg NRec γ1 (ar w1.d).2.1 n1 0 ?_
   refine AlT fun g3 => ?_
   have hf := Ri hf1.symm
   rw [aU hlt0, ee] at hf
   refine Ce hf (fun hc3 hc3p hf => ?_) fun hc3 hc3p hf => ?_
   ·refine Bl EOp [(gt (ar w1.d).2.1 n1).o] fun x3 x3b => ?_
    refine Ap EOp 56 out1 [(gt (ar w1.d).2.1 n1).o] x2b fun x4 x4b => ?_
    refine Tt ?_
    refine ⟨⟨(out1 ++ [(gt (ar w1.d).2.1 n1).o]), x4, x4b, (n1 + 1)⟩, ⟨hlt0, Zl, hf.symm⟩, Oo, Le4⟩
   ·refine Tt ?_
    refine ⟨⟨out1, x2, x2b, (n1 + 1)⟩, ⟨hlt0, Zl, hf.symm⟩, Oo, Le4⟩
  ·refine Tx ?_
   refine cw_le (ao EOp 76 x2 x2b out1 Uo) ?_
   have hf := Ri hf1.symm
   rw [List.drop_of_length_le hge0, ee] at hf
   refine Rx ?_; exact Re x2 Rv
def dP (w1 : Wld) (version1 : Int) (who1 : Int) : View × Int :=
 (bif ((dc w1) != 0) then ((⟨[], [], []⟩ : View), (dc w1)) else (bif (decide (version1 < 0) || decide (version1 > ((ar w1.d).2.1.length : Int))) then ((⟨[], [], []⟩ : View), 5) else (bif ((aB ((ar w1.d).2.1.take version1.toNat)).2 != 0) then ((⟨[], [], []⟩ : View), (aB ((ar w1.d).2.1.take version1.toNat)).2) else (bif (decide (who1 < 0) || decide (who1 ≥ ((aB ((ar w1.d).2.1.take version1.toNat)).1.peers.length : Int))) then ((⟨[], [], []⟩ : View), 5) else ((cF (aB ((ar w1.d).2.1.take version1.toNat)).1.h.t (gt (aB ((ar w1.d).2.1.take version1.toNat)).1.peers who1.toNat).roots).1, (cF (aB ((ar w1.d).2.1.take version1.toNat)).1.h.t (gt (aB ((ar w1.d).2.1.take version1.toNat)).1.peers who1.toNat).roots).2)))))
theorem jW (y1 : SlV) (y2 : SlV) (y3 : SlV) (y4 : SlV) (y5 : SlV) (y6 : SlV) (y7 : SlV) (w1 : Wld) (version1 : Int) (who1 : Int) : Does Tryz.prog 23 [.agg ⟨cW y1 y2 y3 y4 y5 y6 y7 w1⟩, .int .i64 version1, .int .i64 who1] [RdL EStep y1 w1.h.h.l, RdL EPlace y2 w1.h.h.t, RdN NPeer y3 w1.h.peers, RdL EByte y4 w1.d.safe, RdL EByte y5 w1.d.wait, RdN NClient y6 w1.c, RdN NMail y7 w1.mail, LibP Tryz.prog] (fun (X : SlV × SlV × SlV) => .tuple #[.agg ⟨cV X.1 X.2.1 X.2.2 (dP w1 version1 who1).1⟩, .int .i64 (dP w1 version1 who1).2]) (fun X => [RdL EInt X.1 (dP w1 version1 who1).1.roots, RdL EPlace X.2.1 (dP w1 version1 who1).1.known, RdL EPlace X.2.2 (dP w1 version1 who1).1.way]) := by
 refine Dp aH Tryz.func23 Tryz.ntmps23 Tryz.results23 fun C => ?_
 refine Pc EStep y1 w1.h.h.l 88 fun hlen1 => ?_
 refine Pc EPlace y2 w1.h.h.t 24 fun hlen2 => ?_
 refine Pn NPeer y3 w1.h.peers 40 fun hlen3 => ?_
 refine Pc EByte y4 w1.d.safe 1 fun hlen4 => ?_
 refine Pc EByte y5 w1.d.wait 1 fun hlen5 => ?_
 refine Pn NClient y6 w1.c 128 fun hlen6 => ?_
 refine Pn NMail y7 w1.mail 280 fun hlen7 => ?_
 refine BxT fun g1 => ?_
 refine AlT fun g2 => ?_
 refine Ck (jM y1 y2 y3 y4 y5 y6 y7 w1) fun _ => ?_
 have hf := Ri (dP.eq_1 w1 version1 who1)
 refine Cn hf (fun hc1 hc1p hf => ?_) fun hc1 hc1p hf => ?_
 ·refine Tx ?_
  refine Fc EInt ?_
  refine Fc EPlace ?_
  refine Rx ?_; exact Re ⟨Z0, Z0, Z0⟩ Rv
 ·refine Ck (ge y4 y5 w1.d) fun x1 => ?_
  refine AlT fun g3 => ?_
  refine Ch hf (fun hc2 hf => ?_) fun hc2 hf => ?_
  ·refine Tx ?_
   refine Fc EInt ?_
   refine Fc EPlace ?_
   refine Rx ?_; exact Re ⟨Z0, Z0, Z0⟩ Rv
  ·have hvr := hc2
   simp only [Bool.or_eq_false_iff, decide_eq_false_iff_not] at hvr
   refine Sy Tz (uL NRec version1.toNat rfl rfl Zf rfl Zf rfl rfl Mm Zo Zo) ?_
   refine dC (F := RdN NRec x1.2.2 ((ar w1.d).2.1.take version1.toNat)) [RdN NRec x1.2.2 (ar w1.d).2.1] Sm (fun M w h => (allF1 h).take _) ?_
   refine Ck (hI x1.2.2 ((ar w1.d).2.1.take version1.toNat)) fun x2 => ?_
   generalize hS1 : (aB ((ar w1.d).2.1.take version1.toNat)) = S1
   try rw [hS1] at hf
   refine AlT fun g4 => ?_
   refine Cn hf (fun hc3 hc3p hf => ?_) fun hc3 hc3p hf => ?_
   ·refine Tx ?_
    refine Fc EInt ?_
    refine Fc EPlace ?_
    refine Rx ?_; exact Re ⟨Z0, Z0, Z0⟩ Rv
   ·refine Ch hf (fun hc4 hf => ?_) fun hc4 hf => ?_
    ·refine Tx ?_
     refine Fc EInt ?_
     refine Fc EPlace ?_
     refine Rx ?_; exact Re ⟨Z0, Z0, Z0⟩ Rv
    ·have hwr := hc4
     simp only [Bool.or_eq_false_iff, decide_eq_false_iff_not] at hwr
     refine Tx ?_
     (repeat refine aI ?_); refine aq (fun j => match j with | 12 => some [g2] | _ => some []) ?_
     refine Dx (.range 6) ?_
     refine e8 NPeer (X := x2.2.2) (l := S1.1.peers) Mm fun (γ1 : Nat → SlV) => ?_
     refine Rb 6 rfl (Xn NPeer who1.toNat) ?_
     refine Rb 7 rfl Xf ?_
     refine Rb 8 rfl (iy NPeer γ1 (v := (γ1 who1.toNat).val (gt S1.1.peers who1.toNat).roots.length) rfl rfl Zf rfl rfl Mm (fun _ => by first | assumption | omega) rfl) ?_
     refine Fg NPeer γ1 S1.1.peers who1.toNat 0 ?_
     refine Rn 9 ?_
     refine Ck (jx x2.2.1 S1.1.h.t (γ1 who1.toNat) (gt S1.1.peers who1.toNat).roots) fun x3 => ?_
     generalize hS2 : (cF S1.1.h.t (gt S1.1.peers who1.toNat).roots) = S2
     try rw [hS2] at hf
     refine Dx [10,11] ?_
     refine Rn 12 ?_
     refine Wa ?_
     refine Ra 13 rfl Qp ?_
     refine Re0 ?_
     refine Rx ?_; exact Re ⟨x3.1, x3.2.1, x3.2.2⟩ Rv
def gO (e1 : Int) : Bool :=
 (e1 != 0)
theorem lN (e1 : Int) : Does Tryz.prog 71 [.int .i64 e1] [] (fun (_ : Unit) => .bool (gO e1)) (fun _ => []) := by
 refine Dp aH Tryz.func71 Tryz.ntmps71 Tryz.results71 fun C => ?_
 have hf := Ri (gO.eq_1 e1)
 exact Ru
def gw  : Bool :=
 (((((((((((dY ej [(⟨6, 0, 0, 0, 0, 0, ([] : List Int)⟩ : Happening), (⟨5, 0, 0, 0, 0, 0, [0]⟩ : Happening), (⟨1, 0, 0, 3, 0, 0, ([] : List Int)⟩ : Happening), (⟨7, 0, 0, 0, 0, 0, ([] : List Int)⟩ : Happening), (⟨10, 0, 0, 0, 0, 0, ([] : List Int)⟩ : Happening)]).2.2 == 0) && ((ct (dY ej [(⟨6, 0, 0, 0, 0, 0, ([] : List Int)⟩ : Happening), (⟨5, 0, 0, 0, 0, 0, [0]⟩ : Happening), (⟨1, 0, 0, 3, 0, 0, ([] : List Int)⟩ : Happening), (⟨7, 0, 0, 0, 0, 0, ([] : List Int)⟩ : Happening), (⟨10, 0, 0, 0, 0, 0, ([] : List Int)⟩ : Happening)]).1).2 == 0)) && ((dP (dY ej [(⟨6, 0, 0, 0, 0, 0, ([] : List Int)⟩ : Happening), (⟨5, 0, 0, 0, 0, 0, [0]⟩ : Happening), (⟨1, 0, 0, 3, 0, 0, ([] : List Int)⟩ : Happening), (⟨7, 0, 0, 0, 0, 0, ([] : List Int)⟩ : Happening), (⟨10, 0, 0, 0, 0, 0, ([] : List Int)⟩ : Happening)]).1 2 0).2 == 0)) && ((dP (dY ej [(⟨6, 0, 0, 0, 0, 0, ([] : List Int)⟩ : Happening), (⟨5, 0, 0, 0, 0, 0, [0]⟩ : Happening), (⟨1, 0, 0, 3, 0, 0, ([] : List Int)⟩ : Happening), (⟨7, 0, 0, 0, 0, 0, ([] : List Int)⟩ : Happening), (⟨10, 0, 0, 0, 0, 0, ([] : List Int)⟩ : Happening)]).1 3 0).2 == 0)) && ((dP (dY ej [(⟨6, 0, 0, 0, 0, 0, ([] : List Int)⟩ : Happening), (⟨5, 0, 0, 0, 0, 0, [0]⟩ : Happening), (⟨1, 0, 0, 3, 0, 0, ([] : List Int)⟩ : Happening), (⟨7, 0, 0, 0, 0, 0, ([] : List Int)⟩ : Happening), (⟨10, 0, 0, 0, 0, 0, ([] : List Int)⟩ : Happening)]).1 4 0).2 == 5)) && (!(f0 (dY ej [(⟨6, 0, 0, 0, 0, 0, ([] : List Int)⟩ : Happening), (⟨5, 0, 0, 0, 0, 0, [0]⟩ : Happening), (⟨1, 0, 0, 3, 0, 0, ([] : List Int)⟩ : Happening), (⟨7, 0, 0, 0, 0, 0, ([] : List Int)⟩ : Happening), (⟨10, 0, 0, 0, 0, 0, ([] : List Int)⟩ : Happening)]).2.1 gO))) && (((ct (dY ej [(⟨6, 0, 0, 0, 0, 0, ([] : List Int)⟩ : Happening), (⟨5, 0, 0, 0, 0, 0, [0]⟩ : Happening), (⟨1, 0, 0, 3, 0, 0, ([] : List Int)⟩ : Happening), (⟨7, 0, 0, 0, 0, 0, ([] : List Int)⟩ : Happening), (⟨10, 0, 0, 0, 0, 0, ([] : List Int)⟩ : Happening)]).1).1.length : Int) == 1)) && ((gt (ct (dY ej [(⟨6, 0, 0, 0, 0, 0, ([] : List Int)⟩ : Happening), (⟨5, 0, 0, 0, 0, 0, [0]⟩ : Happening), (⟨1, 0, 0, 3, 0, 0, ([] : List Int)⟩ : Happening), (⟨7, 0, 0, 0, 0, 0, ([] : List Int)⟩ : Happening), (⟨10, 0, 0, 0, 0, 0, ([] : List Int)⟩ : Happening)]).1).1 0).node == 3)) && (((dP (dY ej [(⟨6, 0, 0, 0, 0, 0, ([] : List Int)⟩ : Happening), (⟨5, 0, 0, 0, 0, 0, [0]⟩ : Happening), (⟨1, 0, 0, 3, 0, 0, ([] : List Int)⟩ : Happening), (⟨7, 0, 0, 0, 0, 0, ([] : List Int)⟩ : Happening), (⟨10, 0, 0, 0, 0, 0, ([] : List Int)⟩ : Happening)]).1 2 0).1.known.length : Int) == 0)) && (((dP (dY ej [(⟨6, 0, 0, 0, 0, 0, ([] : List Int)⟩ : Happening), (⟨5, 0, 0, 0, 0, 0, [0]⟩ : Happening), (⟨1, 0, 0, 3, 0, 0, ([] : List Int)⟩ : Happening), (⟨7, 0, 0, 0, 0, 0, ([] : List Int)⟩ : Happening), (⟨10, 0, 0, 0, 0, 0, ([] : List Int)⟩ : Happening)]).1 3 0).1.known.length : Int) == 1))
theorem jF  : Does Tryz.prog 20 [] [LibP Tryz.prog] (fun (_ : Unit) => .bool gw) (fun _ => []) := by
 refine Dp aH Tryz.func20 Tryz.ntmps20 Tryz.results20 fun C => ?_
 refine Ck (rE ) fun x1 => ?_
 refine Rp rfl rfl rfl rfl ?_
 refine Bl EInt [0] fun x2 x2b => ?_
 refine Tx ?_
 refine Fr EInt ?_
 refine rw_le (ao EInt 3 x2 x2b [0] Uo) ?_
 refine rS NHap.E [(Z0, (⟨6, 0, 0, 0, 0, 0, ([] : List Int)⟩ : Happening)), (x2, (⟨5, 0, 0, 0, 0, 0, [0]⟩ : Happening)), (Z0, (⟨1, 0, 0, 3, 0, 0, ([] : List Int)⟩ : Happening)), (Z0, (⟨7, 0, 0, 0, 0, 0, ([] : List Int)⟩ : Happening)), (Z0, (⟨10, 0, 0, 0, 0, 0, ([] : List Int)⟩ : Happening))] .sq (am rfl) rfl rfl rfl rfl rfl rfl rfl rfl rfl rfl rfl rfl rfl (wL [.agg ⟨[.int .i64 6, .int .i64 0, .int .i64 0, .int .i64 0, .int .i64 0, .int .i64 0, .slice none 0 0]⟩, .agg ⟨[.int .i64 5, .int .i64 0, .int .i64 0, .int .i64 0, .int .i64 0, .int .i64 0, x2.val [0].length]⟩, .agg ⟨[.int .i64 1, .int .i64 0, .int .i64 0, .int .i64 3, .int .i64 0, .int .i64 0, .slice none 0 0]⟩, .agg ⟨[.int .i64 7, .int .i64 0, .int .i64 0, .int .i64 0, .int .i64 0, .int .i64 0, .slice none 0 0]⟩, .agg ⟨[.int .i64 10, .int .i64 0, .int .i64 0, .int .i64 0, .int .i64 0, .int .i64 0, .slice none 0 0]⟩] rfl (by intro v hv; simp only [List.mem_cons, List.not_mem_nil, or_false] at hv; rcases hv with rfl | rfl | rfl | rfl | rfl <;> rfl) rfl rfl) rfl fun x3 x3b => ?_
 refine rw_le (ao NHap.E 48 x3 x3b [(Z0, (⟨6, 0, 0, 0, 0, 0, ([] : List Int)⟩ : Happening)), (x2, (⟨5, 0, 0, 0, 0, 0, [0]⟩ : Happening)), (Z0, (⟨1, 0, 0, 3, 0, 0, ([] : List Int)⟩ : Happening)), (Z0, (⟨7, 0, 0, 0, 0, 0, ([] : List Int)⟩ : Happening)), (Z0, (⟨10, 0, 0, 0, 0, 0, ([] : List Int)⟩ : Happening))] Uo) ?_
 refine dC (F := RdN NHap x3 [(⟨6, 0, 0, 0, 0, 0, ([] : List Int)⟩ : Happening), (⟨5, 0, 0, 0, 0, 0, [0]⟩ : Happening), (⟨1, 0, 0, 3, 0, 0, ([] : List Int)⟩ : Happening), (⟨7, 0, 0, 0, 0, 0, ([] : List Int)⟩ : Happening), (⟨10, 0, 0, 0, 0, 0, ([] : List Int)⟩ : Happening)]) [RdL NHap.E x3 [(Z0, (⟨6, 0, 0, 0, 0, 0, ([] : List Int)⟩ : Happening)), (x2, (⟨5, 0, 0, 0, 0, 0, [0]⟩ : Happening)), (Z0, (⟨1, 0, 0, 3, 0, 0, ([] : List Int)⟩ : Happening)), (Z0, (⟨7, 0, 0, 0, 0, 0, ([] : List Int)⟩ : Happening)), (Z0, (⟨10, 0, 0, 0, 0, 0, ([] : List Int)⟩ : Happening))], RdL EInt Z0 ([] : List Int), RdL EInt x2 [0], RdL EInt Z0 ([] : List Int), RdL EInt Z0 ([] : List Int), RdL EInt Z0 ([] : List Int)] Sm (fun M w h => RdN.of NHap (hs := [(Z0, (⟨6, 0, 0, 0, 0, 0, ([] : List Int)⟩ : Happening)), (x2, (⟨5, 0, 0, 0, 0, 0, [0]⟩ : Happening)), (Z0, (⟨1, 0, 0, 3, 0, 0, ([] : List Int)⟩ : Happening)), (Z0, (⟨7, 0, 0, 0, 0, 0, ([] : List Int)⟩ : Happening)), (Z0, (⟨10, 0, 0, 0, 0, 0, ([] : List Int)⟩ : Happening))]) rfl (h _ (.head _)) (aE (dA Sm h) (aE (dA Sm h) (aE (dA Sm h) (aE (dA Sm h) (aE (dA Sm h) (fun p hp => by cases hp))))))) ?_
 refine Ck (rD x1.1 x1.2.1 x1.2.2.1 x1.2.2.2.1 x1.2.2.2.2.1 x1.2.2.2.2.2.1 x1.2.2.2.2.2.2 ej x3 [(⟨6, 0, 0, 0, 0, 0, ([] : List Int)⟩ : Happening), (⟨5, 0, 0, 0, 0, 0, [0]⟩ : Happening), (⟨1, 0, 0, 3, 0, 0, ([] : List Int)⟩ : Happening), (⟨7, 0, 0, 0, 0, 0, ([] : List Int)⟩ : Happening), (⟨10, 0, 0, 0, 0, 0, ([] : List Int)⟩ : Happening)]) fun x4 => ?_
 generalize hS1 : (dY ej [(⟨6, 0, 0, 0, 0, 0, ([] : List Int)⟩ : Happening), (⟨5, 0, 0, 0, 0, 0, [0]⟩ : Happening), (⟨1, 0, 0, 3, 0, 0, ([] : List Int)⟩ : Happening), (⟨7, 0, 0, 0, 0, 0, ([] : List Int)⟩ : Happening), (⟨10, 0, 0, 0, 0, 0, ([] : List Int)⟩ : Happening)]) = S1
 have hf := Ri gw.eq_1
 try rw [hS1] at hf
 refine AlT fun g1 => ?_
 refine Ck (kg x4.1 x4.2.1 x4.2.2.1 x4.2.2.2.1 x4.2.2.2.2.1 x4.2.2.2.2.2.1 x4.2.2.2.2.2.2.1 S1.1) fun x5 => ?_
 refine Ck (jW x4.1 x4.2.1 x4.2.2.1 x4.2.2.2.1 x4.2.2.2.2.1 x4.2.2.2.2.2.1 x4.2.2.2.2.2.2.1 S1.1 2 0) fun x6 => ?_
 refine AlT fun g2 => ?_
 refine Ck (jW x4.1 x4.2.1 x4.2.2.1 x4.2.2.2.1 x4.2.2.2.2.1 x4.2.2.2.2.2.1 x4.2.2.2.2.2.2.1 S1.1 3 0) fun x7 => ?_
 refine AlT fun g3 => ?_
 refine Ck (jW x4.1 x4.2.1 x4.2.2.1 x4.2.2.2.1 x4.2.2.2.2.1 x4.2.2.2.2.2.1 x4.2.2.2.2.2.2.1 S1.1 4 0) fun x8 => ?_
 refine AlT fun g4 => ?_
 refine Cy (fun hG_ => jB x4.2.2.2.2.2.2.2 S1.2.1 _ _ _ gO Kr (fun a0_ => lN a0_)) ?_
 refine Tx ?_
 refine Sg Gz (Xi EOp 0) ?_
 refine Sg Gz Xf ?_
 refine Sg Gz (X1 EOp) ?_
 exact Ru
end Go.Proofs.YtkjccbdeaflekaaGreatDoor
