/- Part of this claim. No condition. -/
import Derived.Test.YtkjccbdeaflekaaGreatDoorK4
import Derived.Test.YtkjccbdeaflekaaGreatDoorK3
set_option linter.unusedVariables false
set_option linter.unusedSimpArgs false
set_option maxHeartbeats 2000000
namespace Go.Proofs.YtkjccbdeaflekaaGreatDoor
open Go Go.Proofs.YtkjccbdeaflekaaGreatDoor.Fw Go.Proofs
attribute [local irreducible] RdL RdN VarP RW CW
def kJ (v1 : View) : View :=
 v1
theorem fS (y1 : SlV) (y2 : SlV) (y3 : SlV) (v1 : View) : DoesG Tryz.prog 131 [.agg ⟨cV y1 y2 y3 v1⟩] [RdL EInt y1 v1.roots, RdL EPlace y2 v1.known, RdL EPlace y3 v1.way] ⟨[], []⟩ (fun (X : SlV × Option Nat × SlV × Option Nat × SlV × Option Nat) => .agg ⟨cV X.1 X.2.2.1 X.2.2.2.2.1 (kJ v1)⟩) (fun X => []) (fun X => ⟨[], [ownL EInt 3 X.1 X.2.1 (kJ v1).roots, ownL EPlace 99 X.2.2.1 X.2.2.2.1 (kJ v1).known, ownL EPlace 99 X.2.2.2.2.1 X.2.2.2.2.2 (kJ v1).way]⟩) := by
 refine Dq aK Tryz.func131 Tryz.ntmps131 Tryz.results131 fun C => ?_
 refine Pc EInt y1 v1.roots 8 fun hlen1 => ?_
 refine Pc EPlace y2 v1.known 24 fun hlen2 => ?_
 refine Pc EPlace y3 v1.way 24 fun hlen3 => ?_
 refine BxT fun g1 => ?_
 refine AlT fun g2 => ?_
 refine dD ?_
 (repeat refine aD ?_); refine ap (fun j => match j with | 10 => some [g2] | _ => some []) ?_
 refine Dx [0,1,3,4,6,7] ?_
 refine Rn 2 ?_
 refine Cm (bX y1 v1.roots) fun x1 => ?_
 refine Rn 5 ?_
 refine Cm (ct y2 v1.known) fun x2 => ?_
 refine Rn 8 ?_
 refine Cm (ct y3 v1.way) fun x3 => ?_
 refine Ra 9 rfl Qp ?_
 refine Rn 10 ?_
 refine Wa ?_
 refine Re0 ?_
 (repeat refine aD ?_)
 have hf := Ri (kJ.eq_1 v1)
 refine Rx ?_; exact Re ⟨x1.1, x1.2, x2.1, x2.2, x3.1, x3.2⟩ Rv
def iE (d1 : Delta) : Delta :=
 d1
theorem kZ (y1 : SlV) (y2 : SlV) (y3 : SlV) (y4 : SlV) (d1 : Delta) : DoesG Tryz.prog 132 [.agg ⟨cD y1 y2 y3 y4 d1⟩] [RdL EInt y1 d1.gone, RdL EPlace y2 d1.here, RdL EInt y3 d1.wayGone, RdL EPlace y4 d1.wayHere] ⟨[], []⟩ (fun (X : SlV × Option Nat × SlV × Option Nat × SlV × Option Nat × SlV × Option Nat) => .agg ⟨cD X.1 X.2.2.1 X.2.2.2.2.1 X.2.2.2.2.2.2.1 (iE d1)⟩) (fun X => []) (fun X => ⟨[], [ownL EInt 3 X.1 X.2.1 (iE d1).gone, ownL EPlace 99 X.2.2.1 X.2.2.2.1 (iE d1).here, ownL EInt 3 X.2.2.2.2.1 X.2.2.2.2.2.1 (iE d1).wayGone, ownL EPlace 99 X.2.2.2.2.2.2.1 X.2.2.2.2.2.2.2 (iE d1).wayHere]⟩) := by
 refine Dq aK Tryz.func132 Tryz.ntmps132 Tryz.results132 fun C => ?_
 refine Pc EInt y1 d1.gone 8 fun hlen1 => ?_
 refine Pc EPlace y2 d1.here 24 fun hlen2 => ?_
 refine Pc EInt y3 d1.wayGone 8 fun hlen3 => ?_
 refine Pc EPlace y4 d1.wayHere 24 fun hlen4 => ?_
 refine BxT fun g1 => ?_
 refine AlT fun g2 => ?_
 refine dD ?_
 (repeat refine aD ?_); refine ap (fun j => match j with | 13 => some [g2] | _ => some []) ?_
 refine Dx [0,1,3,4,6,7,9,10] ?_
 refine Rn 2 ?_
 refine Cm (bX y1 d1.gone) fun x1 => ?_
 refine Rn 5 ?_
 refine Cm (ct y2 d1.here) fun x2 => ?_
 refine Rn 8 ?_
 refine Cm (bX y3 d1.wayGone) fun x3 => ?_
 refine Rn 11 ?_
 refine Cm (ct y4 d1.wayHere) fun x4 => ?_
 refine Ra 12 rfl Qp ?_
 refine Rn 13 ?_
 refine Wa ?_
 refine Re0 ?_
 (repeat refine aD ?_)
 have hf := Ri (iE.eq_1 d1)
 refine Rx ?_; exact Re ⟨x1.1, x1.2, x2.1, x2.2, x3.1, x3.2, x4.1, x4.2⟩ Rv
def fF (a1 : Mail) (b1 : Mail) : Bool :=
 ((((((((((a1.kind == b1.kind) && (a1.who == b1.who)) && (a1.life == b1.life)) && (a1.seq == b1.seq)) && (a1.time == b1.time)) && (a1.version == b1.version)) && (a1.frm == b1.frm)) && decide (a1.o = b1.o)) && (eW a1.v b1.v)) && (jM a1.d b1.d))
theorem im (y1 : SlV) (y2 : SlV) (y3 : SlV) (y4 : SlV) (y5 : SlV) (y6 : SlV) (y7 : SlV) (a1 : Mail) (y8 : SlV) (y9 : SlV) (y10 : SlV) (y11 : SlV) (y12 : SlV) (y13 : SlV) (y14 : SlV) (b1 : Mail) : Does Tryz.prog 114 [.agg ⟨cM y1 y2 y3 y4 y5 y6 y7 a1⟩, .agg ⟨cM y8 y9 y10 y11 y12 y13 y14 b1⟩] [RdL EInt y1 a1.v.roots, RdL EPlace y2 a1.v.known, RdL EPlace y3 a1.v.way, RdL EInt y4 a1.d.gone, RdL EPlace y5 a1.d.here, RdL EInt y6 a1.d.wayGone, RdL EPlace y7 a1.d.wayHere, RdL EInt y8 b1.v.roots, RdL EPlace y9 b1.v.known, RdL EPlace y10 b1.v.way, RdL EInt y11 b1.d.gone, RdL EPlace y12 b1.d.here, RdL EInt y13 b1.d.wayGone, RdL EPlace y14 b1.d.wayHere] (fun (_ : Unit) => .bool (fF a1 b1)) (fun _ => []) := by
 refine Dp aK Tryz.func114 Tryz.ntmps114 Tryz.results114 fun C => ?_
 refine Pc EInt y1 a1.v.roots 8 fun hlen1 => ?_
 refine Pc EPlace y2 a1.v.known 24 fun hlen2 => ?_
 refine Pc EPlace y3 a1.v.way 24 fun hlen3 => ?_
 refine Pc EInt y4 a1.d.gone 8 fun hlen4 => ?_
 refine Pc EPlace y5 a1.d.here 24 fun hlen5 => ?_
 refine Pc EInt y6 a1.d.wayGone 8 fun hlen6 => ?_
 refine Pc EPlace y7 a1.d.wayHere 24 fun hlen7 => ?_
 refine Pc EInt y8 b1.v.roots 8 fun hlen8 => ?_
 refine Pc EPlace y9 b1.v.known 24 fun hlen9 => ?_
 refine Pc EPlace y10 b1.v.way 24 fun hlen10 => ?_
 refine Pc EInt y11 b1.d.gone 8 fun hlen11 => ?_
 refine Pc EPlace y12 b1.d.here 24 fun hlen12 => ?_
 refine Pc EInt y13 b1.d.wayGone 8 fun hlen13 => ?_
 refine Pc EPlace y14 b1.d.wayHere 24 fun hlen14 => ?_
 refine BxT fun g1 => ?_
 refine BxT fun g2 => ?_
 refine Tx ?_
 refine Sg Gz (q_eqE wm (qT a1.o b1.o) rfl rfl Bt rfl Bt rfl rfl) ?_
 refine Cy (fun hG_ => jk y1 y2 y3 a1.v y8 y9 y10 b1.v) ?_
 refine Cy (fun hG_ => ot y4 y5 y6 y7 a1.d y11 y12 y13 y14 b1.d) ?_
 have hf := Ri (fF.eq_1 a1 b1)
 exact Ru
def bI (m1 : Mail) : Int :=
 (bif (decide (m1.kind < 1) || decide (m1.kind > 3)) then 4 else (bif (decide (m1.who < 0) || decide (m1.who ≥ 3)) then 5 else (bif (m1.kind == 1) then (bif (!(fF m1 (⟨m1.kind, m1.who, 0, 0, 0, 0, 0, m1.o, (⟨[], [], []⟩ : View), (⟨[], [], [], []⟩ : Delta)⟩ : Mail))) then 4 else (bif (m1.o.who != m1.who) then 4 else (co m1.o))) else (bif (m1.kind == 2) then (bif (!(fF m1 (⟨m1.kind, m1.who, m1.life, m1.seq, m1.time, m1.version, 0, (⟨0, 0, 0, 0, 0, 0, 0⟩ : Op), m1.v, (⟨[], [], [], []⟩ : Delta)⟩ : Mail))) then 4 else (bif (((((((((decide (m1.life < 1) || decide (m1.life > 50)) || decide (m1.seq < 0)) || decide (m1.seq > 30)) || decide (m1.time < 0)) || decide (m1.time > 10000)) || decide (m1.version < 1)) || decide (m1.version > 60)) || decide (m1.frm < 0)) || decide (m1.frm ≥ m1.version)) then 3 else (bz m1.v))) else (bif (m1.kind == 3) then (bif (!(fF m1 (⟨m1.kind, m1.who, m1.life, m1.seq, m1.time, m1.version, m1.frm, (⟨0, 0, 0, 0, 0, 0, 0⟩ : Op), (⟨[], [], []⟩ : View), m1.d⟩ : Mail))) then 4 else (bif (((((((((decide (m1.life < 1) || decide (m1.life > 50)) || decide (m1.seq < 0)) || decide (m1.seq > 30)) || decide (m1.time < 0)) || decide (m1.time > 10000)) || decide (m1.version < 1)) || decide (m1.version > 60)) || decide (m1.frm < 0)) || decide (m1.frm ≥ m1.version)) then 3 else (bG m1.d))) else (bif (!(fF m1 (⟨m1.kind, m1.who, 0, 0, 0, 0, 0, (⟨0, 0, 0, 0, 0, 0, 0⟩ : Op), (⟨[], [], []⟩ : View), (⟨[], [], [], []⟩ : Delta)⟩ : Mail))) then 4 else (bif (((((((((decide (m1.life < 1) || decide (m1.life > 50)) || decide (m1.seq < 0)) || decide (m1.seq > 30)) || decide (m1.time < 0)) || decide (m1.time > 10000)) || decide (m1.version < 1)) || decide (m1.version > 60)) || decide (m1.frm < 0)) || decide (m1.frm ≥ m1.version)) then 3 else (bG m1.d))))))))
theorem oO (y1 : SlV) (y2 : SlV) (y3 : SlV) (y4 : SlV) (y5 : SlV) (y6 : SlV) (y7 : SlV) (m1 : Mail) : Does Tryz.prog 106 [.agg ⟨cM y1 y2 y3 y4 y5 y6 y7 m1⟩] [RdL EInt y1 m1.v.roots, RdL EPlace y2 m1.v.known, RdL EPlace y3 m1.v.way, RdL EInt y4 m1.d.gone, RdL EPlace y5 m1.d.here, RdL EInt y6 m1.d.wayGone, RdL EPlace y7 m1.d.wayHere] (fun (_ : Unit) => .int .i64 (bI m1)) (fun _ => []) := by
 refine Dp aK Tryz.func106 Tryz.ntmps106 Tryz.results106 fun C => ?_
 refine Pc EInt y1 m1.v.roots 8 fun hlen1 => ?_
 refine Pc EPlace y2 m1.v.known 24 fun hlen2 => ?_
 refine Pc EPlace y3 m1.v.way 24 fun hlen3 => ?_
 refine Pc EInt y4 m1.d.gone 8 fun hlen4 => ?_
 refine Pc EPlace y5 m1.d.here 24 fun hlen5 => ?_
 refine Pc EInt y6 m1.d.wayGone 8 fun hlen6 => ?_
 refine Pc EPlace y7 m1.d.wayHere 24 fun hlen7 => ?_
 refine BxT fun g1 => ?_
 have hf := Ri (bI.eq_1 m1)
 refine Ch hf (fun hc1 hf => ?_) fun hc1 hf => ?_
 ·exact Ru
 ·refine Ch hf (fun hc2 hf => ?_) fun hc2 hf => ?_
  ·exact Ru
  ·refine AlT fun g2 => ?_
   refine Ce hf (fun hc3 hc3p hf => ?_) fun hc3 hc3p hf => ?_
   ·refine Tx ?_
    refine Wp ?_
    refine Tx ?_
    refine Fr EInt ?_
    refine Fr EPlace ?_
    refine Ck (im y1 y2 y3 y4 y5 y6 y7 m1 Z0 Z0 Z0 Z0 Z0 Z0 Z0 (⟨m1.kind, m1.who, 0, 0, 0, 0, 0, m1.o, (⟨[], [], []⟩ : View), (⟨[], [], [], []⟩ : Delta)⟩ : Mail)) fun _ => ?_
    refine Ch hf (fun hc4 hf => ?_) fun hc4 hf => ?_
    ·exact Ru
    ·refine Cd' (fun hc5 => ?_) fun hc5 => ?_
     ·refine Cn hf (fun hc6 hc6p hf => ?_) fun hc6 hc6p hf => ?_
      ·exact Ru
      ·refine Ck (dN m1.o) fun _ => ?_
       exact Ru
     ·exact Bool.noConfusion (hc5.symm.trans hc3)
   ·refine Ce hf (fun hc7 hc7p hf => ?_) fun hc7 hc7p hf => ?_
    ·(repeat refine aD ?_); refine ap (fun j => match j with | 11 => some [g2] | 13 => some [g2] | 15 => some [g2] | 17 => some [g2] | 19 => some [g2] | _ => some []) ?_
     refine Dx [0,1] ?_
     refine Rq (Fa 2 [4,5,6,7,8,9,10,11]) (.drop Sa) Xv ?_
     refine Rq (Fa 3 [4,5,6,7,8,9,10,11]) (.drop Sa) (q_ld1 rfl rfl Zf rfl Mm rfl) ?_
     refine Rq (Fa 4 [6,7,8,9,10,11,12,13]) (.drop Sa) Xv ?_
     refine Rq (Fa 5 [6,7,8,9,10,11,12,13]) (.drop Sa) (q_ld1 rfl rfl Zf rfl Mm rfl) ?_
     refine Rq (Fa 6 [8,9,10,11,12,13,14,15]) (.drop Sa) Xv ?_
     refine Rq (Fa 7 [8,9,10,11,12,13,14,15]) (.drop Sa) (q_ld1 rfl rfl Zf rfl Mm rfl) ?_
     refine Rq (Fa 8 [10,11,12,13,14,15,16,17]) (.drop Sa) Xv ?_
     refine Rq (Fa 9 [10,11,12,13,14,15,16,17]) (.drop Sa) (q_ldP rfl rfl Zf rfl Mm rfl) ?_
     refine Ra 10 rfl Qp ?_
     refine Rn 11 ?_
     refine W1 ?_
     refine Ra 12 rfl Qp ?_
     refine Rn 13 ?_
     refine W1 ?_
     refine Ra 14 rfl Qp ?_
     refine Rn 15 ?_
     refine W1 ?_
     refine Ra 16 rfl Qp ?_
     refine Rn 17 ?_
     refine W1 ?_
     refine Ra 18 rfl Qp ?_
     refine Rn 19 ?_
     refine Wp ?_
     refine Re0 ?_
     refine Tx ?_
     refine Fr EInt ?_
     refine Fr EPlace ?_
     refine Ck (im y1 y2 y3 y4 y5 y6 y7 m1 y1 y2 y3 Z0 Z0 Z0 Z0 (⟨m1.kind, m1.who, m1.life, m1.seq, m1.time, m1.version, 0, (⟨0, 0, 0, 0, 0, 0, 0⟩ : Op), m1.v, (⟨[], [], [], []⟩ : Delta)⟩ : Mail)) fun _ => ?_
     refine Ch hf (fun hc8 hf => ?_) fun hc8 hf => ?_
     ·exact Ru
     ·refine Cd' (fun hc9 => ?_) fun hc9 => ?_
      ·exact Bool.noConfusion (hc9.symm.trans hc3)
      ·refine Ch hf (fun hc10 hf => ?_) fun hc10 hf => ?_
       ·exact Ru
       ·refine Cd' (fun hc11 => ?_) fun hc11 => ?_
        ·refine Ck (eD y1 y2 y3 m1.v) fun _ => ?_
         exact Ru
        ·exact Bool.noConfusion (hc11.symm.trans hc7)
    ·refine Ce hf (fun hc12 hc12p hf => ?_) fun hc12 hc12p hf => ?_
     ·(repeat refine aD ?_); refine ap (fun j => match j with | 13 => some [g2] | 15 => some [g2] | 17 => some [g2] | 19 => some [g2] | 21 => some [g2] | 23 => some [g2] | _ => some []) ?_
      refine Dx [0,1] ?_
      refine Rq (Fa 2 [4,5,6,7,8,9,10,11,12,13]) (.drop Sa) Xv ?_
      refine Rq (Fa 3 [4,5,6,7,8,9,10,11,12,13]) (.drop Sa) (q_ld1 rfl rfl Zf rfl Mm rfl) ?_
      refine Rq (Fa 4 [6,7,8,9,10,11,12,13,14,15]) (.drop Sa) Xv ?_
      refine Rq (Fa 5 [6,7,8,9,10,11,12,13,14,15]) (.drop Sa) (q_ld1 rfl rfl Zf rfl Mm rfl) ?_
      refine Rq (Fa 6 [8,9,10,11,12,13,14,15,16,17]) (.drop Sa) Xv ?_
      refine Rq (Fa 7 [8,9,10,11,12,13,14,15,16,17]) (.drop Sa) (q_ld1 rfl rfl Zf rfl Mm rfl) ?_
      refine Rq (Fa 8 [10,11,12,13,14,15,16,17,18,19]) (.drop Sa) Xv ?_
      refine Rq (Fa 9 [10,11,12,13,14,15,16,17,18,19]) (.drop Sa) (q_ld1 rfl rfl Zf rfl Mm rfl) ?_
      refine Rq (Fa 10 [12,13,14,15,16,17,18,19,20,21]) (.drop Sa) Xv ?_
      refine Rq (Fa 11 [12,13,14,15,16,17,18,19,20,21]) (.drop Sa) (q_ldP rfl rfl Zf rfl Mm rfl) ?_
      refine Ra 12 rfl Qp ?_
      refine Rn 13 ?_
      refine W1 ?_
      refine Ra 14 rfl Qp ?_
      refine Rn 15 ?_
      refine W1 ?_
      refine Ra 16 rfl Qp ?_
      refine Rn 17 ?_
      refine W1 ?_
      refine Ra 18 rfl Qp ?_
      refine Rn 19 ?_
      refine W1 ?_
      refine Ra 20 rfl Qp ?_
      refine Rn 21 ?_
      refine W1 ?_
      refine Ra 22 rfl Qp ?_
      refine Rn 23 ?_
      refine Wp ?_
      refine Re0 ?_
      refine Tx ?_
      refine Fr EInt ?_
      refine Fr EPlace ?_
      refine Ck (im y1 y2 y3 y4 y5 y6 y7 m1 Z0 Z0 Z0 y4 y5 y6 y7 (⟨m1.kind, m1.who, m1.life, m1.seq, m1.time, m1.version, m1.frm, (⟨0, 0, 0, 0, 0, 0, 0⟩ : Op), (⟨[], [], []⟩ : View), m1.d⟩ : Mail)) fun _ => ?_
      refine Ch hf (fun hc13 hf => ?_) fun hc13 hf => ?_
      ·exact Ru
      ·refine Cd' (fun hc14 => ?_) fun hc14 => ?_
       ·exact Bool.noConfusion (hc14.symm.trans hc3)
       ·refine Ch hf (fun hc15 hf => ?_) fun hc15 hf => ?_
        ·exact Ru
        ·refine Cd' (fun hc16 => ?_) fun hc16 => ?_
         ·exact Bool.noConfusion (hc16.symm.trans hc7)
         ·refine Ck (ii y4 y5 y6 y7 m1.d) fun _ => ?_
          exact Ru
     ·refine Tx ?_
      refine Fr EInt ?_
      refine Fr EPlace ?_
      refine Ck (im y1 y2 y3 y4 y5 y6 y7 m1 Z0 Z0 Z0 Z0 Z0 Z0 Z0 (⟨m1.kind, m1.who, 0, 0, 0, 0, 0, (⟨0, 0, 0, 0, 0, 0, 0⟩ : Op), (⟨[], [], []⟩ : View), (⟨[], [], [], []⟩ : Delta)⟩ : Mail)) fun _ => ?_
      refine Ch hf (fun hc17 hf => ?_) fun hc17 hf => ?_
      ·exact Ru
      ·refine Cd' (fun hc18 => ?_) fun hc18 => ?_
       ·exact Bool.noConfusion (hc18.symm.trans hc3)
       ·refine Ch hf (fun hc19 hf => ?_) fun hc19 hf => ?_
        ·exact Ru
        ·refine Cd' (fun hc20 => ?_) fun hc20 => ?_
         ·exact Bool.noConfusion (hc20.symm.trans hc7)
         ·refine Ck (ii y4 y5 y6 y7 m1.d) fun _ => ?_
          exact Ru
def eK  : List Mail → Int
 | [] => 0
 | pn1 :: rn1 => (bif ((bI pn1) != 0) then (bI pn1) else (eK rn1))
def bJ (l1 : List Mail) : Int :=
 (bif decide ((l1.length : Int) > 30) then 2 else (eK l1))
theorem fR (y1 : SlV) (l1 : List Mail) : Does Tryz.prog 62 [y1.val l1.length] [RdN NMail y1 l1] (fun (_ : Unit) => .int .i64 (bJ l1)) (fun _ => []) := by
 refine Dp aK Tryz.func62 Tryz.ntmps62 Tryz.results62 fun C => ?_
 refine Pn NMail y1 l1 280 fun hlen1 => ?_
 have hf := Ri (bJ.eq_1 l1)
 refine Cp hf (fun hc1 hc1p hf => ?_) fun hc1 hc1p hf => ?_
 ·exact Ru
 ·refine Lq Nat [2,9,10] [] (fun n1 => ⟨[(11, .v (.int .i64 (n1 : Int)))], [], [], [], (n1 ≤ l1.length) ∧ (eK (l1.drop n1)) = (bJ l1), l1.length - n1⟩) 0 ⟨Nat.zero_le _, hf.symm⟩ ?_
  rintro n1 ⟨hkn1, hf1⟩
  simp only [Lc]
  refine Cu (fun hlt0 => ?_) fun hge0 => ?_
  ·refine Tx ?_
   refine fl NMail (X := y1) (l := l1) Mm fun (γ1 : Nat → SlV × SlV × SlV × SlV × SlV × SlV × SlV) => ?_
   refine Sq (Xn NMail n1) ?_
   refine Sq (q_is (v' := .agg ⟨cM (γ1 n1).1 (γ1 n1).2.1 (γ1 n1).2.2.1 (γ1 n1).2.2.2.1 (γ1 n1).2.2.2.2.1 (γ1 n1).2.2.2.2.2.1 (γ1 n1).2.2.2.2.2.2 (gt l1 n1)⟩) (fY NMail γ1 rfl rfl Zf rfl rfl Mm (fun _ => by first | assumption | omega)) rfl) ?_
   refine Fg NMail γ1 l1 n1 0 ?_
   refine Fg NMail γ1 l1 n1 1 ?_
   refine Fg NMail γ1 l1 n1 2 ?_
   refine Fg NMail γ1 l1 n1 3 ?_
   refine Fg NMail γ1 l1 n1 4 ?_
   refine Fg NMail γ1 l1 n1 5 ?_
   refine Fg NMail γ1 l1 n1 6 ?_
   refine AlT fun g1 => ?_
   refine Ck (oO (γ1 n1).1 (γ1 n1).2.1 (γ1 n1).2.2.1 (γ1 n1).2.2.2.1 (γ1 n1).2.2.2.2.1 (γ1 n1).2.2.2.2.2.1 (γ1 n1).2.2.2.2.2.2 (gt l1 n1)) fun _ => ?_
   have hf := Ri hf1.symm
   rw [bd hlt0, eK] at hf
   refine Cn hf (fun hc3 hc3p hf => ?_) fun hc3 hc3p hf => ?_
   ·exact Ru
   ·refine Tt ?_
    refine ⟨(n1 + 1), ⟨hlt0, hf.symm⟩, Oo, Le4⟩
  ·have hf := Ri hf1.symm
   rw [List.drop_of_length_le hge0, eK] at hf
   exact Ru
theorem jW (x : SlV) (l : List (NMail.G × Mail)) : DoesG Tryz.prog 130 [x.val l.length] [RdL NMail.E x l] ⟨[], []⟩ (fun (X : SlV × Option Nat) => X.1.val l.length) (fun _ => []) (fun X => ⟨[], [ownL NMail.E 108 X.1 X.2 l]⟩) := by
 refine Dq aK Tryz.func130 Tryz.ntmps130 Tryz.results130 fun C => ?_
 refine dx (φ := l.length * NMail.E.by_ ≤ 140737488355328) [RdL NMail.E x l] Sm (fun M w h => (allF1 h).len) fun hlen => ?_
 refine Sy Tz (jZ rfl rfl Zf rfl) ?_
 refine dD ?_
 (repeat refine aD ?_); refine ij rfl rfl (fun hc0 => ?_) (fun hc0 => ?_)
 ·refine dx [RdL NMail.E x l] Sm (fun M w h => (allF1 h).nil_of hc0) fun hnil => ?_
  subst hnil
  refine cw_le (eH NMail.E 108) ?_
  refine Tx ?_
  (repeat refine aD ?_); refine di ?_
  exact ⟨(⟨none, 0⟩, none), _, (.cons (.tmp rfl) .nil), rfl, .nil _, .nil _, Sp⟩
 ·refine Bl NMail.E [] fun x1 x1b => ?_
  refine Rp rfl rfl rfl rfl ?_
  refine iC NMail.E [] l (b := x1b) .sq (fun _ _ => .inl ⟨_, rfl⟩) (al rfl) rfl rfl rfl rfl rfl rfl rfl (fun _ _ => Uo) rfl rfl rfl rfl rfl rfl rfl (kP Mm) (by simpa using hlen) fun x2 x2b => ?_
  refine Tx ?_
  (repeat refine aD ?_); refine di ?_
  exact ⟨(x2, x2b), _, (.cons (.tmp rfl) .nil), rfl, .nil _, .nil _, Sp⟩
theorem kG (x : SlV) (γ : Nat → NMail.G) (l : List Mail) : DoesG Tryz.prog 130 [x.val l.length] [RdG NMail x γ l] ⟨[], []⟩ (fun (X : SlV × Option Nat) => X.1.val l.length) (fun _ => []) (fun X => ⟨[], [ownL NMail.E 108 X.1 X.2 (zipG γ 0 l)]⟩) := by
 have := jW x (zipG γ 0 l)
 rw [cv] at this
 exact this
def dp  : List Mail → Nat → (List Mail) → (List Mail)
 | [], n1, l2 => l2
 | pn1 :: rn1, n1, l2 => (dp rn1 (n1 + 1) (l2.set n1 (gt l2 n1)))
def eN (l1 : List Mail) : List Mail :=
 (dp l1 0 l1)
theorem pv (y1 : SlV) (l1 : List Mail) : DoesG Tryz.prog 82 [y1.val l1.length] [RdN NMail y1 l1] ⟨[], []⟩ (fun (X : SlV × Option Nat × (Nat → SlV × SlV × SlV × SlV × SlV × SlV × SlV)) => X.1.val (eN l1).length) (fun X => [FactsG NMail X.2.2 (eN l1)]) (fun X => ⟨[], [ownL NMail.E 108 X.1 X.2.1 (zipG X.2.2 0 (eN l1))]⟩) := by
 refine Dq aK Tryz.func82 Tryz.ntmps82 Tryz.results82 fun C => ?_
 refine Pn NMail y1 l1 280 fun hlen1 => ?_
 refine Tx ?_
 refine fl NMail (X := y1) (l := l1) Mm fun (γ1 : Nat → SlV × SlV × SlV × SlV × SlV × SlV × SlV) => ?_
 refine Cm (kG y1 γ1 l1) fun x1 => ?_
 refine Lq (List Mail × (Nat → SlV × SlV × SlV × SlV × SlV × SlV × SlV) × Nat) [2,8] [] (fun ⟨l2, γ2, n1⟩ => ⟨[(0, .v (x1.1.val l2.length)), (7, .v (x1.1.val l2.length)), (9, .v (.int .i64 (n1 : Int)))], [], [ownL NMail.E 108 x1.1 x1.2 (zipG γ2 0 l2)], [FactsG NMail γ2 l2], (n1 ≤ l1.length) ∧ (l2.length = l1.length) ∧ (dp (l1.drop n1) n1 l2) = (eN l1), l1.length - n1⟩) ⟨l1, γ1, 0⟩ ⟨Nat.zero_le _, rfl, (by simp only [eN, Cf] : (eN l1) = (dp l1 0 l1)).symm⟩ ?_
 rintro ⟨l2, γ2, n1⟩ ⟨hkn1, hll, hf1⟩
 simp only [Lc]
 refine Cu (fun hlt0 => ?_) fun hge0 => ?_
 ·refine Tx ?_
  refine Oq NMail.E x1.1 (zipG γ2 0 l2) .sq (fm NMail γ2 n1 rfl rfl Zf rfl Zf rfl rfl rfl (.head _) rfl Zf Za) ?_
  refine Oq NMail.E x1.1 (zipG γ2 0 l2) .sq (q_is (v' := .agg ⟨cM (γ2 n1).1 (γ2 n1).2.1 (γ2 n1).2.2.1 (γ2 n1).2.2.2.1 (γ2 n1).2.2.2.2.1 (γ2 n1).2.2.2.2.2.1 (γ2 n1).2.2.2.2.2.2 (gt l2 n1)⟩) (fY NMail γ2 rfl rfl Zf rfl rfl (.head _) Za) rfl) ?_
  refine Fg NMail γ2 l2 n1 0 ?_
  refine Fg NMail γ2 l2 n1 1 ?_
  refine Fg NMail γ2 l2 n1 2 ?_
  refine Fg NMail γ2 l2 n1 3 ?_
  refine Fg NMail γ2 l2 n1 4 ?_
  refine Fg NMail γ2 l2 n1 5 ?_
  refine Fg NMail γ2 l2 n1 6 ?_
  refine AlT fun g1 => ?_
  refine Tx ?_
  (repeat refine aD ?_); refine ap (fun j => match j with | 12 => some x1.2.toList | 15 => some x1.2.toList | _ => some []) ?_
  refine Dx [0,1] ?_
  refine Rq (Fa 2 [3,4,5,6,7,8,9,10,11,12]) Sa Xv ?_
  refine Rq (Fa 3 [4,5,6,7,8,9,10,11,12]) Sa Xv ?_
  refine Dx [4,5,7,8] ?_
  refine Rn 6 ?_
  refine Cm (fS (γ2 n1).1 (γ2 n1).2.1 (γ2 n1).2.2.1 (gt l2 n1).v) fun x4 => ?_
  refine Rn 9 ?_
  refine Cm (kZ (γ2 n1).2.2.2.1 (γ2 n1).2.2.2.2.1 (γ2 n1).2.2.2.2.2.1 (γ2 n1).2.2.2.2.2.2 (gt l2 n1).d) fun x5 => ?_
  refine Oq NMail.E x1.1 (zipG γ2 0 l2) (Fb 10 []) (fm NMail γ2 n1 rfl rfl Zf rfl Zf rfl rfl rfl (.head _) rfl Zf Za) ?_
  refine Ra 11 rfl Xf ?_
  refine Rn 12 ?_
  refine rw_le (ar EInt 3 x4.1 x4.2.1 (gt l2 n1).v.roots Uo) ?_
  refine rw_le (ar EPlace 99 x4.2.2.1 x4.2.2.2.1 (gt l2 n1).v.known Uo) ?_
  refine rw_le (ar EPlace 99 x4.2.2.2.2.1 x4.2.2.2.2.2 (gt l2 n1).v.way Uo) ?_
  refine Wn NMail γ2 l2 n1 14 (x4.1, x4.2.2.1, x4.2.2.2.2.1, (γ2 n1).2.2.2.1, (γ2 n1).2.2.2.2.1, (γ2 n1).2.2.2.2.2.1, (γ2 n1).2.2.2.2.2.2) (gt l2 n1) x1.2 ?_
  refine Fg NMail γ2 l2 n1 3 ?_
  refine Fg NMail γ2 l2 n1 4 ?_
  refine Fg NMail γ2 l2 n1 5 ?_
  refine Fg NMail γ2 l2 n1 6 ?_
  refine Fu NMail γ2 l2 n1 (x4.1, x4.2.2.1, x4.2.2.2.2.1, (γ2 n1).2.2.2.1, (γ2 n1).2.2.2.2.1, (γ2 n1).2.2.2.2.2.1, (γ2 n1).2.2.2.2.2.2) (gt l2 n1) ?_
  have hv1 : x1.1.val l2.length = x1.1.val (l2.set n1 (gt l2 n1)).length := congrArg (SlV.val x1.1) List.length_set.symm
  try rw [hv1]
  refine Oq NMail.E x1.1 (zipG (updG γ2 n1 (x4.1, x4.2.2.1, x4.2.2.2.2.1, (γ2 n1).2.2.2.1, (γ2 n1).2.2.2.2.1, (γ2 n1).2.2.2.2.2.1, (γ2 n1).2.2.2.2.2.2)) 0 (l2.set n1 (gt l2 n1))) (Fb 13 []) (fm NMail (updG γ2 n1 (x4.1, x4.2.2.1, x4.2.2.2.2.1, (γ2 n1).2.2.2.1, (γ2 n1).2.2.2.2.1, (γ2 n1).2.2.2.2.2.1, (γ2 n1).2.2.2.2.2.2)) n1 rfl rfl Zf rfl Zf rfl rfl rfl (.head _) rfl Zf Za) ?_
  refine Ra 14 rfl Xf ?_
  refine Rn 15 ?_
  refine rw_le (ar EInt 3 x5.1 x5.2.1 (gt l2 n1).d.gone Uo) ?_
  refine rw_le (ar EPlace 99 x5.2.2.1 x5.2.2.2.1 (gt l2 n1).d.here Uo) ?_
  refine rw_le (ar EInt 3 x5.2.2.2.2.1 x5.2.2.2.2.2.1 (gt l2 n1).d.wayGone Uo) ?_
  refine rw_le (ar EPlace 99 x5.2.2.2.2.2.2.1 x5.2.2.2.2.2.2.2 (gt l2 n1).d.wayHere Uo) ?_
  refine sg NMail γ2 l2 n1 17 (x4.1, x4.2.2.1, x4.2.2.2.2.1, (γ2 n1).2.2.2.1, (γ2 n1).2.2.2.2.1, (γ2 n1).2.2.2.2.2.1, (γ2 n1).2.2.2.2.2.2) (gt l2 n1) (x4.1, x4.2.2.1, x4.2.2.2.2.1, x5.1, x5.2.2.1, x5.2.2.2.2.1, x5.2.2.2.2.2.2.1) (gt l2 n1) (e := 108) (X := x1.1) (b := x1.2) (.an rfl rfl) (.inr (fun g h => by simp [h])) (al rfl) rfl rfl rfl rfl rfl rfl rfl rfl rfl rfl rfl Zb rfl Uo ?_
  refine Fu NMail γ2 l2 n1 (x4.1, x4.2.2.1, x4.2.2.2.2.1, x5.1, x5.2.2.1, x5.2.2.2.2.1, x5.2.2.2.2.2.2.1) (gt l2 n1) ?_
  refine Re0 ?_
  refine Tt ?_
  refine ⟨⟨(l2.set n1 (gt l2 n1)), (updG γ2 n1 (x4.1, x4.2.2.1, x4.2.2.2.2.1, x5.1, x5.2.2.1, x5.2.2.2.2.1, x5.2.2.2.2.2.2.1)), (n1 + 1)⟩, ⟨hlt0, (by (try simp only [List.length_set]); omega), (by rw [← hf1, bd hlt0]; simp only [dp, Cf] : (eN l1) = (dp (l1.drop (n1 + 1)) (n1 + 1) (l2.set n1 (gt l2 n1)))).symm⟩, Oo, Le4⟩
 ·have hf := Ri hf1.symm
  rw [List.drop_of_length_le hge0, dp] at hf
  refine Rx ?_; exact Re ⟨x1.1, x1.2, γ2⟩ Rv
theorem lE : ∀ (r : List Mail) (n : Nat) (l : List Mail), dp r n l = l
 | [], _, _ => rfl
 | _ :: r, n, l => by
  have : l.set n (gt l n) = l := by
   by_cases h : n < l.length
   ·rw [gt_eq h]; exact List.set_getElem_self h
   ·exact List.set_eq_of_length_le (Nat.le_of_not_lt h)
  rw [dp, this]; exact lE r (n + 1) l
theorem nL (l : List Mail) : eN l = l := lE l 0 l
theorem gI (y1 : SlV) (l1 : List Mail) : DoesG Tryz.prog 82 [y1.val l1.length] [RdN NMail y1 l1] ⟨[], []⟩ (fun (X : SlV × Option Nat × (Nat → SlV × SlV × SlV × SlV × SlV × SlV × SlV)) => X.1.val l1.length) (fun X => [FactsG NMail X.2.2 l1]) (fun X => ⟨[], [ownL NMail.E 108 X.1 X.2.1 (zipG X.2.2 0 l1)]⟩) := by
 have := pv y1 l1
 rw [nL] at this
 exact this
def gp (l1 : List Mail) (m1 : Mail) : (List Mail) × Int :=
 (bif decide ((l1.length : Int) < 30) then ((l1 ++ [m1]), 0) else (l1, 0))
def gq (l1 : List Mail) (m1 : Mail) : (List Mail) × Int :=
 (bif ((bJ [m1]) != 0) then (([] : List Mail), (bJ [m1])) else (gp l1 m1))
def fG (l1 : List Mail) (m1 : Mail) : (List Mail) × Int :=
 (bif ((bJ l1) != 0) then (([] : List Mail), (bJ l1)) else (gq l1 m1))
def fH (l1 : List Mail) (m1 : Mail) : (List Mail) × Int :=
 (fG l1 m1)
theorem pu (y1 : SlV) (l1 : List Mail) (y2 : SlV) (y3 : SlV) (y4 : SlV) (y5 : SlV) (y6 : SlV) (y7 : SlV) (y8 : SlV) (m1 : Mail) : Does Tryz.prog 179 [y1.val l1.length, .agg ⟨cM y2 y3 y4 y5 y6 y7 y8 m1⟩] [RdN NMail y1 l1, RdL EInt y2 m1.v.roots, RdL EPlace y3 m1.v.known, RdL EPlace y4 m1.v.way, RdL EInt y5 m1.d.gone, RdL EPlace y6 m1.d.here, RdL EInt y7 m1.d.wayGone, RdL EPlace y8 m1.d.wayHere] (fun (X : SlV) => .tuple #[X.val (fH l1 m1).1.length, .int .i64 (fH l1 m1).2]) (fun X => [RdN NMail X (fH l1 m1).1]) := by
 refine Dp aK Tryz.func179 Tryz.ntmps179 Tryz.results179 fun C => ?_
 refine Pn NMail y1 l1 280 fun hlen1 => ?_
 refine Pc EInt y2 m1.v.roots 8 fun hlen2 => ?_
 refine Pc EPlace y3 m1.v.known 24 fun hlen3 => ?_
 refine Pc EPlace y4 m1.v.way 24 fun hlen4 => ?_
 refine Pc EInt y5 m1.d.gone 8 fun hlen5 => ?_
 refine Pc EPlace y6 m1.d.here 24 fun hlen6 => ?_
 refine Pc EInt y7 m1.d.wayGone 8 fun hlen7 => ?_
 refine Pc EPlace y8 m1.d.wayHere 24 fun hlen8 => ?_
 refine BxT fun g1 => ?_
 refine Bl NMail.E [((y2, y3, y4, y5, y6, y7, y8), m1)] (hfill := mo rfl rfl) fun x1 x1b => ?_
 refine Sq (lm rfl rfl Zf rfl rfl rfl rfl) ?_
 refine Tx ?_
 refine cw_le (ar NMail.E 108 x1 x1b [((y2, y3, y4, y5, y6, y7, y8), m1)] Uo) ?_
 refine pW (F := RdN NMail x1 [m1]) [RdL NMail.E x1 [((y2, y3, y4, y5, y6, y7, y8), m1)], RdL EInt y2 m1.v.roots, RdL EPlace y3 m1.v.known, RdL EPlace y4 m1.v.way, RdL EInt y5 m1.d.gone, RdL EPlace y6 m1.d.here, RdL EInt y7 m1.d.wayGone, RdL EPlace y8 m1.d.wayHere] Sm (fun M w h => RdN.of NMail (hs := [((y2, y3, y4, y5, y6, y7, y8), m1)]) rfl (h _ (.head _)) (aF (eC Sm h) (fun p hp => by cases hp))) ?_
 refine Lq Nat [0,3,4,5,12] [true] (fun n1 => ⟨[(13, .v (.int .i64 (n1 : Int)))], [], [], [], (n1 ≤ 2) ∧ (match n1 with | 0 => (fG l1 m1) | 1 => (gq l1 m1) | _ => (gp l1 m1)) = (fH l1 m1), 2 - n1⟩) 0 ⟨Nat.zero_le _, (by simp only [fH, Cf] : (fH l1 m1) = (fG l1 m1)).symm⟩ ?_
 rintro n1 ⟨hkn1, hf1⟩
 simp only [Lc]
 have hkn13 : n1 = 0 ∨ n1 = 1 ∨ n1 = 2 := by omega
 rcases hkn13 with rfl | rfl | rfl
 ·have hf1 : (fG l1 m1) = (fH l1 m1) := hf1
  refine Cd' (fun hc1 => ?_) fun hc1 => ?_
  ·refine Sy Tz (q_ixL 0 rfl rfl Zf rfl Zf rfl rfl rfl rfl rfl) ?_
   refine Ck (fR y1 l1) fun _ => ?_
   have hf := Ri hf1.symm
   rw [fG] at hf
   refine Cn hf (fun hc2 hc2p hf => ?_) fun hc2 hc2p hf => ?_
   ·refine Tx ?_
    refine Ft NMail ?_
    refine Rx ?_; exact Re Z0 (Vt (Vt Vn))
   ·refine Tt ?_
    refine ⟨1, ⟨by omega, hf.symm⟩, (show 2 - 1 < 2 - 0 by decide), Le4⟩
  ·exact Bool.noConfusion (hc1.symm.trans (decide_eq_true (by decide)))
 ·have hf1 : (gq l1 m1) = (fH l1 m1) := hf1
  refine Cd' (fun hc3 => ?_) fun hc3 => ?_
  ·refine Sy Tz (q_ixL 1 rfl rfl Zf rfl Zf rfl rfl rfl rfl rfl) ?_
   refine Ck (fR x1 [m1]) fun _ => ?_
   have hf := Ri hf1.symm
   rw [gq] at hf
   refine Cn hf (fun hc4 hc4p hf => ?_) fun hc4 hc4p hf => ?_
   ·refine Tx ?_
    refine Ft NMail ?_
    refine Rx ?_; exact Re Z0 (Vt (Vt Vn))
   ·refine Tt ?_
    refine ⟨2, ⟨by omega, hf.symm⟩, (show 2 - 2 < 2 - 1 by decide), Le4⟩
  ·exact Bool.noConfusion (hc3.symm.trans (decide_eq_true (by decide)))
 ·have hf1 : (gp l1 m1) = (fH l1 m1) := hf1
  refine Cd' (fun hc5 => ?_) fun hc5 => ?_
  ·exact Bool.noConfusion (hc5.symm.trans (decide_eq_false (by decide)))
  ·refine Cm (gI y1 l1) fun x2 => ?_
   have hf := Ri hf1.symm
   rw [gp] at hf
   refine Cp hf (fun hc6 hc6p hf => ?_) fun hc6 hc6p hf => ?_
   ·refine Bl NMail.E [((y2, y3, y4, y5, y6, y7, y8), m1)] (hfill := mo rfl rfl) fun x3 x3b => ?_
    refine rw_le (ar NMail.E 108 x3 x3b [((y2, y3, y4, y5, y6, y7, y8), m1)] Uo) ?_
    refine dU (F := RdN NMail x3 [m1]) [RdL NMail.E x3 [((y2, y3, y4, y5, y6, y7, y8), m1)], RdL EInt y2 m1.v.roots, RdL EPlace y3 m1.v.known, RdL EPlace y4 m1.v.way, RdL EInt y5 m1.d.gone, RdL EPlace y6 m1.d.here, RdL EInt y7 m1.d.wayGone, RdL EPlace y8 m1.d.wayHere] Sm (fun M w h => RdN.of NMail (hs := [((y2, y3, y4, y5, y6, y7, y8), m1)]) rfl (h _ (.head _)) (aF (eC Sm h) (fun p hp => by cases hp))) ?_
    refine Cm (gI x3 [m1]) fun x4 => ?_
    refine mI NMail x2.2.2 x4.2.2 l1 [m1] (b := x2.2.1) .sq (fun _ _ => .inl ⟨_, rfl⟩) (al rfl) rfl rfl rfl rfl rfl rfl rfl (fun _ _ => Uo) rfl rfl rfl rfl rfl rfl rfl (o6 (e := 108) (b := x4.2.1) Mm) (by have h30 : l1.length < 30 := (by omega); exact Nat.le_trans (Nat.mul_le_mul_right 280 (Nat.succ_le_succ (Nat.le_of_lt h30))) (by decide)) fun x5 x5b => ?_
    refine dU (F := FactsG NMail (appG x2.2.2 l1.length x4.2.2) (l1 ++ [m1])) [FactsG NMail x2.2.2 l1, FactsG NMail x4.2.2 [m1]] Sm (fun M w h => FactsG.app NMail (h _ (.head _)) (h _ (.tail _ (.head _)))) ?_
    refine Tx ?_
    refine cw_le (ar NMail.E 108 x5 x5b (zipG (appG x2.2.2 l1.length x4.2.2) 0 (l1 ++ [m1])) Uo) ?_
    refine Fj NMail x5 (appG x2.2.2 l1.length x4.2.2) (l1 ++ [m1]) ?_
    refine Rx ?_; exact Re x5 Rv
   ·refine Tx ?_
    refine cw_le (ar NMail.E 108 x2.1 x2.2.1 (zipG x2.2.2 0 l1) Uo) ?_
    refine Fj NMail x2.1 x2.2.2 l1 ?_
    refine Rx ?_; exact Re x2.1 Rv
theorem jx (X : SlV) (b : Option Nat) (l : List (NMail.G × Mail)) (i j : Nat) (hij : i ≤ j) (hj : j ≤ l.length) : DoesG Tryz.prog 136 [X.val l.length, .int .i64 (i : Int), .int .i64 (j : Int)] [] ⟨[], [ownL NMail.E 108 X b l]⟩ (fun (_ : Unit) => X.val (l.take i ++ l.drop j).length) (fun _ => []) (fun _ => ⟨[], [ownL NMail.E 108 X b (l.take i ++ l.drop j)]⟩) := by
 refine Dq aK Tryz.func136 Tryz.ntmps136 Tryz.results136 fun C => ?_
 refine xl NMail.E (e := 108) (X := X) (b := b) (l := l) Mm fun hcap => ?_
 refine iX NMail.E (e := 108) (X := X) (b := b) (l := l) Mm fun hl63 hlby => ?_
 have hlen : (l.take i ++ l.drop j).length = i + (l.length - j) := by simp; omega
 refine Sy Tz (q_sl3 (k0 := i) (h := j) (m := l.length) rfl rfl Zf rfl Zf rfl Zf rfl Zf rfl rfl Zf Zf Zf (fun _ => hij) (fun _ => hj) (fun _ => hcap.1)) ?_
 refine Cd' (fun hc1 => ?_) fun hc1 => ?_
 ·have hc1p := eq_of_beq hc1
  have hl1 : l.take i ++ l.drop j = l := by rw [show j = i by omega]; exact List.take_append_drop i l
  refine Tx ?_
  refine di ?_
  rw [hl1]
  exact ⟨(), _, (.cons (.tmp rfl) .nil), rfl, .nil _, .nil _, Sp⟩
 ·refine Tx ?_
  (repeat refine aD ?_); refine ap (fun k => match k with | 6 => some b.toList | _ => some []) ?_
  refine Dx [0,1] ?_
  refine Oq NMail.E X l (Fb 2 [3,4,5]) (wd NMail.E (l := l) i rfl rfl Zf rfl Zf rfl rfl (.head _) Zf Zo) ?_
  refine Dx [3,4] ?_
  refine Rb 5 rfl (qw NMail.E (l := l) (X := X) j rfl rfl Zf rfl Zf rfl rfl Zf (fun _ => hj)) ?_
  refine Rn 6 ?_
  refine qr NMail.E l i j (e := 108) (X := X) (b := b) (.an rfl rfl) (.inr (fun g h => by simp [h])) (al rfl) rfl rfl rfl rfl rfl rfl rfl rfl rfl hij hj Uo ?_
  refine Ra 7 rfl Qp ?_
  refine Re0 ?_
  refine Sy Tz (wf (k0 := (l.take i ++ l.drop j).length) (h := l.length) rfl rfl Zf rfl Zf rfl Zf rfl rfl Zf Zf Zo (fun _ => hcap.1)) ?_
  refine t6 NMail.E (l.take i ++ l.drop j) l.length (e := 108) (X := X) (b := b) .sq (.inl ⟨_, rfl⟩) (al rfl) rfl rfl rfl rfl rfl rfl rfl rfl rfl rfl (by omega) hcap.1 Mm ?_
  refine Tx ?_
  refine di ?_
  exact ⟨(), _, (.cons (.tmp rfl) .nil), rfl, .nil _, .nil _, Sp⟩
theorem jU (X : SlV) (b : Option Nat) (γ : Nat → NMail.G) (l : List Mail) (i j : Nat) (hij : i ≤ j) (hj : j ≤ l.length) : DoesG Tryz.prog 136 [X.val l.length, .int .i64 (i : Int), .int .i64 (j : Int)] [] ⟨[], [ownL NMail.E 108 X b (zipG γ 0 l)]⟩ (fun (_ : Unit) => X.val (l.take i ++ l.drop j).length) (fun _ => []) (fun _ => ⟨[], [ownL NMail.E 108 X b (zipG (appG γ i (dropG γ j)) 0 (l.take i ++ l.drop j))]⟩) := by
 have := jx X b (zipG γ 0 l) i j hij (by rw [cv]; exact hj)
 rw [vl γ l i j (by omega), cv, cv] at this
 exact this
theorem kB (X : SlV) (b : Option Nat) (γ : Nat → NMail.G) (l : List Mail) (i j : Int) (h0 : 0 ≤ i) (hij : i ≤ j) (hj : j ≤ (l.length : Int)) : DoesG Tryz.prog 136 [X.val l.length, .int .i64 i, .int .i64 j] [] ⟨[], [ownL NMail.E 108 X b (zipG γ 0 l)]⟩ (fun (_ : Unit) => X.val (l.take i.toNat ++ l.drop j.toNat).length) (fun (_ : Unit) => []) (fun (_ : Unit) => ⟨[], [ownL NMail.E 108 X b (zipG (appG γ i.toNat (dropG γ j.toNat)) 0 (l.take i.toNat ++ l.drop j.toNat))]⟩) := by
 have := jU X b γ l i.toNat j.toNat (by omega) (by omega)
 rw [Int.toNat_of_nonneg h0, Int.toNat_of_nonneg (Int.le_trans h0 hij)] at this
 exact this
theorem kH (X : SlV) (b : Option Nat) (l : List (NMail.G × Mail)) (k h : Nat) (hk : k < h) (hh : h ≤ l.length) : DoesG Tryz.prog 130 [.slice (slA X.a X.c k NMail.E.esz) (h - k) (X.c - k)] [] ⟨[], [ownL NMail.E 108 X b l]⟩ (fun (Y : SlV × Option Nat) => Y.1.val ((l.drop k).take (h - k)).length) (fun (_ : SlV × Option Nat) => []) (fun (Y : SlV × Option Nat) => ⟨[], [ownL NMail.E 108 Y.1 Y.2 ((l.drop k).take (h - k)), ownL NMail.E 108 X b l]⟩) := by
 refine Dq aK Tryz.func130 Tryz.ntmps130 Tryz.results130 fun C => ?_
 have hl1 : ((l.drop k).take (h - k)).length = h - k := by simp; omega
 refine iX NMail.E (e := 108) (X := X) (b := b) (l := l) Mm fun hl63 hlby => ?_
 refine vI NMail.E (e := 108) (X := X) (b := b) (l := l) Mm (by omega) fun hsome => ?_
 have hs2 : (slA X.a X.c k NMail.E.esz).isNone = false := vt hsome
 refine Sy Tz (jZ rfl rfl Zf rfl) ?_
 refine dD ?_
 (repeat refine aD ?_); refine ij rfl rfl (fun hc0 => ?_) (fun hc0 => ?_)
 ·exact Bool.noConfusion (hs2.symm.trans hc0)
 ·refine Bl NMail.E [] fun x1 x1b => ?_
  refine Rp rfl rfl rfl rfl ?_
  refine iC NMail.E [] ((l.drop k).take (h - k)) (b := x1b) .sq (fun _ _ => .inl ⟨_, rfl⟩) (al rfl) rfl rfl rfl rfl rfl rfl rfl (fun _ _ => Uo) rfl rfl rfl rfl rfl rfl rfl (by rw [hl1]; exact tk (e := 108) (X := X) (b := b) (by omega) hh Mm) (by rw [hl1]; exact Nat.le_trans (Nat.mul_le_mul_right _ (by simp; omega)) hlby) fun x2 x2b => ?_
  refine Tx ?_
  (repeat refine aD ?_); refine di ?_
  exact ⟨(x2, x2b), _, (.cons (.tmp rfl) .nil), rfl, .nil _, .nil _, Sp⟩
theorem kO (X : SlV) (b : Option Nat) (γ : Nat → NMail.G) (l : List Mail) (k h : Nat) (hk : k < h) (hh : h ≤ l.length) : DoesG Tryz.prog 130 [.slice (slA X.a X.c k NMail.E.esz) (h - k) (X.c - k)] [] ⟨[], [ownL NMail.E 108 X b (zipG γ 0 l)]⟩ (fun (Y : SlV × Option Nat) => Y.1.val ((l.drop k).take (h - k)).length) (fun (_ : SlV × Option Nat) => []) (fun (Y : SlV × Option Nat) => ⟨[], [ownL NMail.E 108 Y.1 Y.2 (zipG (dropG γ k) 0 ((l.drop k).take (h - k))), ownL NMail.E 108 X b (zipG γ 0 l)]⟩) := by
 have := kH X b (zipG γ 0 l) k h hk (by rw [cv]; exact hh)
 rw [vm γ l k (h - k), cv] at this
 exact this
theorem pw (X0 : SlV) (b0 : Option Nat) (γ0 : Nat → SlV × SlV × SlV × SlV × SlV × SlV × SlV) (l0 : List Mail) (k0 h0 : Nat) (hk0 : k0 < h0) (hh0 : h0 ≤ l0.length) (l1 : List Mail) (hl1 : l1 = (l0.drop k0).take (h0 - k0)) : DoesG Tryz.prog 82 [.slice (slA X0.a X0.c k0 NMail.E.esz) (h0 - k0) (X0.c - k0)] [FactsG NMail γ0 l0] ⟨[], [ownL NMail.E 108 X0 b0 (zipG γ0 0 l0)]⟩ (fun (X : SlV × Option Nat × (Nat → SlV × SlV × SlV × SlV × SlV × SlV × SlV)) => X.1.val (eN l1).length) (fun (X : SlV × Option Nat × (Nat → SlV × SlV × SlV × SlV × SlV × SlV × SlV)) => [FactsG NMail X.2.2 (eN l1)]) (fun (X : SlV × Option Nat × (Nat → SlV × SlV × SlV × SlV × SlV × SlV × SlV)) => ⟨[], [ownL NMail.E 108 X.1 X.2.1 (zipG X.2.2 0 (eN l1)), ownL NMail.E 108 X0 b0 (zipG γ0 0 l0)]⟩) := by
 refine Dq aK Tryz.func82 Tryz.ntmps82 Tryz.results82 fun C => ?_
 have hlen0 : l1.length = h0 - k0 := by rw [hl1]; simp; omega
 refine iX NMail.E (e := 108) (X := X0) (b := b0) (l := zipG γ0 0 l0) Mm fun hl63 hlby => ?_
 have hl63 : l0.length ≤ 9223372036854775807 := Nat.le_trans (Nat.le_of_eq (cv γ0 0 l0).symm) hl63
 have hlby : l0.length * 280 ≤ 140737488355328 := Nat.le_trans (Nat.le_of_eq (congrArg (· * 280) (cv γ0 0 l0).symm)) hlby
 have hlen1 : l1.length * 280 ≤ 140737488355328 := Nat.le_trans (Nat.mul_le_mul_right 280 (by omega)) hlby
 refine Tx ?_
 refine pG (kO X0 b0 γ0 l0 k0 h0 hk0 hh0) .sq (.inl ⟨_, rfl⟩) (al rfl) rfl rfl rfl Kr rfl rfl Sm (.nil _) (.cons (.here _ _) (.nil _)) ?_
 intro x1
 simp only [← hl1, List.cons_append, List.nil_append]
 refine dU (F := FactsG NMail (dropG γ0 k0) l1) [FactsG NMail γ0 l0] Sm (fun M w h => by rw [hl1]; exact FactsG.take NMail _ (FactsG.drop NMail k0 (allF1 h))) ?_
 refine Lq (List Mail × (Nat → SlV × SlV × SlV × SlV × SlV × SlV × SlV) × Nat) [2,8] [] (fun ⟨l2, γ2, n1⟩ => ⟨[(0, .v (x1.1.val l2.length)), (7, .v (x1.1.val l2.length)), (9, .v (.int .i64 (n1 : Int)))], [], [ownL NMail.E 108 x1.1 x1.2 (zipG γ2 0 l2), ownL NMail.E 108 X0 b0 (zipG γ0 0 l0)], [FactsG NMail γ2 l2], (n1 ≤ l1.length) ∧ (l2.length = l1.length) ∧ (dp (l1.drop n1) n1 l2) = (eN l1), l1.length - n1⟩) ⟨l1, (dropG γ0 k0), 0⟩ ⟨Nat.zero_le _, rfl, (by simp only [eN, Cf] : (eN l1) = (dp l1 0 l1)).symm⟩ ?_
 rintro ⟨l2, γ2, n1⟩ ⟨hkn1, hll, hf1⟩
 simp only [Lc]
 refine Cu (fun hlt0 => ?_) fun hge0 => ?_
 ·refine Tx ?_
  refine Oq NMail.E x1.1 (zipG γ2 0 l2) .sq (fm NMail γ2 n1 rfl rfl Zf rfl Zf rfl rfl rfl (.head _) rfl Zf Za) ?_
  refine Oq NMail.E x1.1 (zipG γ2 0 l2) .sq (q_is (v' := .agg ⟨cM (γ2 n1).1 (γ2 n1).2.1 (γ2 n1).2.2.1 (γ2 n1).2.2.2.1 (γ2 n1).2.2.2.2.1 (γ2 n1).2.2.2.2.2.1 (γ2 n1).2.2.2.2.2.2 (gt l2 n1)⟩) (fY NMail γ2 rfl rfl Zf rfl rfl (.head _) Za) rfl) ?_
  refine Fg NMail γ2 l2 n1 0 ?_
  refine Fg NMail γ2 l2 n1 1 ?_
  refine Fg NMail γ2 l2 n1 2 ?_
  refine Fg NMail γ2 l2 n1 3 ?_
  refine Fg NMail γ2 l2 n1 4 ?_
  refine Fg NMail γ2 l2 n1 5 ?_
  refine Fg NMail γ2 l2 n1 6 ?_
  refine AlT fun g1 => ?_
  refine Tx ?_
  (repeat refine aD ?_); refine ap (fun j => match j with | 12 => some x1.2.toList | 15 => some x1.2.toList | _ => some []) ?_
  refine Dx [0,1] ?_
  refine Rq (Fa 2 [3,4,5,6,7,8,9,10,11,12]) Sa Xv ?_
  refine Rq (Fa 3 [4,5,6,7,8,9,10,11,12]) Sa Xv ?_
  refine Dx [4,5,7,8] ?_
  refine Rn 6 ?_
  refine Cm (fS (γ2 n1).1 (γ2 n1).2.1 (γ2 n1).2.2.1 (gt l2 n1).v) fun x4 => ?_
  refine Rn 9 ?_
  refine Cm (kZ (γ2 n1).2.2.2.1 (γ2 n1).2.2.2.2.1 (γ2 n1).2.2.2.2.2.1 (γ2 n1).2.2.2.2.2.2 (gt l2 n1).d) fun x5 => ?_
  refine Oq NMail.E x1.1 (zipG γ2 0 l2) (Fb 10 []) (fm NMail γ2 n1 rfl rfl Zf rfl Zf rfl rfl rfl (.head _) rfl Zf Za) ?_
  refine Ra 11 rfl Xf ?_
  refine Rn 12 ?_
  refine rw_le (ar EInt 3 x4.1 x4.2.1 (gt l2 n1).v.roots Uo) ?_
  refine rw_le (ar EPlace 99 x4.2.2.1 x4.2.2.2.1 (gt l2 n1).v.known Uo) ?_
  refine rw_le (ar EPlace 99 x4.2.2.2.2.1 x4.2.2.2.2.2 (gt l2 n1).v.way Uo) ?_
  refine Wn NMail γ2 l2 n1 14 (x4.1, x4.2.2.1, x4.2.2.2.2.1, (γ2 n1).2.2.2.1, (γ2 n1).2.2.2.2.1, (γ2 n1).2.2.2.2.2.1, (γ2 n1).2.2.2.2.2.2) (gt l2 n1) x1.2 ?_
  refine Fg NMail γ2 l2 n1 3 ?_
  refine Fg NMail γ2 l2 n1 4 ?_
  refine Fg NMail γ2 l2 n1 5 ?_
  refine Fg NMail γ2 l2 n1 6 ?_
  refine Fu NMail γ2 l2 n1 (x4.1, x4.2.2.1, x4.2.2.2.2.1, (γ2 n1).2.2.2.1, (γ2 n1).2.2.2.2.1, (γ2 n1).2.2.2.2.2.1, (γ2 n1).2.2.2.2.2.2) (gt l2 n1) ?_
  have hv1 : x1.1.val l2.length = x1.1.val (l2.set n1 (gt l2 n1)).length := congrArg (SlV.val x1.1) List.length_set.symm
  try rw [hv1]
  refine Oq NMail.E x1.1 (zipG (updG γ2 n1 (x4.1, x4.2.2.1, x4.2.2.2.2.1, (γ2 n1).2.2.2.1, (γ2 n1).2.2.2.2.1, (γ2 n1).2.2.2.2.2.1, (γ2 n1).2.2.2.2.2.2)) 0 (l2.set n1 (gt l2 n1))) (Fb 13 []) (fm NMail (updG γ2 n1 (x4.1, x4.2.2.1, x4.2.2.2.2.1, (γ2 n1).2.2.2.1, (γ2 n1).2.2.2.2.1, (γ2 n1).2.2.2.2.2.1, (γ2 n1).2.2.2.2.2.2)) n1 rfl rfl Zf rfl Zf rfl rfl rfl (.head _) rfl Zf Za) ?_
  refine Ra 14 rfl Xf ?_
  refine Rn 15 ?_
  refine rw_le (ar EInt 3 x5.1 x5.2.1 (gt l2 n1).d.gone Uo) ?_
  refine rw_le (ar EPlace 99 x5.2.2.1 x5.2.2.2.1 (gt l2 n1).d.here Uo) ?_
  refine rw_le (ar EInt 3 x5.2.2.2.2.1 x5.2.2.2.2.2.1 (gt l2 n1).d.wayGone Uo) ?_
  refine rw_le (ar EPlace 99 x5.2.2.2.2.2.2.1 x5.2.2.2.2.2.2.2 (gt l2 n1).d.wayHere Uo) ?_
  refine sg NMail γ2 l2 n1 17 (x4.1, x4.2.2.1, x4.2.2.2.2.1, (γ2 n1).2.2.2.1, (γ2 n1).2.2.2.2.1, (γ2 n1).2.2.2.2.2.1, (γ2 n1).2.2.2.2.2.2) (gt l2 n1) (x4.1, x4.2.2.1, x4.2.2.2.2.1, x5.1, x5.2.2.1, x5.2.2.2.2.1, x5.2.2.2.2.2.2.1) (gt l2 n1) (e := 108) (X := x1.1) (b := x1.2) (.an rfl rfl) (.inr (fun g h => by simp [h])) (al rfl) rfl rfl rfl rfl rfl rfl rfl rfl rfl rfl rfl Zb rfl Uo ?_
  refine Fu NMail γ2 l2 n1 (x4.1, x4.2.2.1, x4.2.2.2.2.1, x5.1, x5.2.2.1, x5.2.2.2.2.1, x5.2.2.2.2.2.2.1) (gt l2 n1) ?_
  refine Re0 ?_
  refine Tt ?_
  refine ⟨⟨(l2.set n1 (gt l2 n1)), (updG γ2 n1 (x4.1, x4.2.2.1, x4.2.2.2.2.1, x5.1, x5.2.2.1, x5.2.2.2.2.1, x5.2.2.2.2.2.2.1)), (n1 + 1)⟩, ⟨hlt0, (by (try simp only [List.length_set]); omega), (by rw [← hf1, bd hlt0]; simp only [dp, Cf] : (eN l1) = (dp (l1.drop (n1 + 1)) (n1 + 1) (l2.set n1 (gt l2 n1)))).symm⟩, Oo, Le4⟩
 ·have hf := Ri hf1.symm
  rw [List.drop_of_length_le hge0, dp] at hf
  refine Rx ?_; exact Re ⟨x1.1, x1.2, γ2⟩ Rv
theorem qi (X0 : SlV) (b0 : Option Nat) (γ0 : Nat → SlV × SlV × SlV × SlV × SlV × SlV × SlV) (l0 : List Mail) (k0 h0 : Nat) (hk0 : k0 < h0) (hh0 : h0 ≤ l0.length) : DoesG Tryz.prog 82 [.slice (slA X0.a X0.c k0 NMail.E.esz) (h0 - k0) (X0.c - k0)] [FactsG NMail γ0 l0] ⟨[], [ownL NMail.E 108 X0 b0 (zipG γ0 0 l0)]⟩ (fun (X : SlV × Option Nat × (Nat → SlV × SlV × SlV × SlV × SlV × SlV × SlV)) => X.1.val ((l0.drop k0).take (h0 - k0)).length) (fun (X : SlV × Option Nat × (Nat → SlV × SlV × SlV × SlV × SlV × SlV × SlV)) => [FactsG NMail X.2.2 ((l0.drop k0).take (h0 - k0))]) (fun (X : SlV × Option Nat × (Nat → SlV × SlV × SlV × SlV × SlV × SlV × SlV)) => ⟨[], [ownL NMail.E 108 X.1 X.2.1 (zipG X.2.2 0 ((l0.drop k0).take (h0 - k0))), ownL NMail.E 108 X0 b0 (zipG γ0 0 l0)]⟩) := by
 have := pw X0 b0 γ0 l0 k0 h0 hk0 hh0 _ rfl
 rw [nL] at this
 exact this
def az (l1 : List Mail) (k1 : Int) (twice1 : Bool) : (List Mail) × Mail × Int :=
 (bif ((bJ l1) != 0) then (([] : List Mail), (⟨0, 0, 0, 0, 0, 0, 0, (⟨0, 0, 0, 0, 0, 0, 0⟩ : Op), (⟨[], [], []⟩ : View), (⟨[], [], [], []⟩ : Delta)⟩ : Mail), (bJ l1)) else (bif (decide (k1 < 0) || decide (k1 ≥ (l1.length : Int))) then (([] : List Mail), (⟨0, 0, 0, 0, 0, 0, 0, (⟨0, 0, 0, 0, 0, 0, 0⟩ : Op), (⟨[], [], []⟩ : View), (⟨[], [], [], []⟩ : Delta)⟩ : Mail), 5) else (bif (!twice1) then ((l1.take k1.toNat ++ l1.drop (k1 + 1).toNat), (gt ((l1.drop k1.toNat).take ((k1 + 1).toNat - k1.toNat)) 0), 0) else (l1, (gt ((l1.drop k1.toNat).take ((k1 + 1).toNat - k1.toNat)) 0), 0))))
theorem ip (y1 : SlV) (l1 : List Mail) (k1 : Int) (twice1 : Bool) : Does Tryz.prog 86 [y1.val l1.length, .int .i64 k1, .bool twice1] [RdN NMail y1 l1] (fun (X : SlV × SlV × SlV × SlV × SlV × SlV × SlV × SlV) => .tuple #[X.1.val (az l1 k1 twice1).1.length, .agg ⟨cM X.2.1 X.2.2.1 X.2.2.2.1 X.2.2.2.2.1 X.2.2.2.2.2.1 X.2.2.2.2.2.2.1 X.2.2.2.2.2.2.2 (az l1 k1 twice1).2.1⟩, .int .i64 (az l1 k1 twice1).2.2]) (fun X => [RdN NMail X.1 (az l1 k1 twice1).1, RdL EInt X.2.1 (az l1 k1 twice1).2.1.v.roots, RdL EPlace X.2.2.1 (az l1 k1 twice1).2.1.v.known, RdL EPlace X.2.2.2.1 (az l1 k1 twice1).2.1.v.way, RdL EInt X.2.2.2.2.1 (az l1 k1 twice1).2.1.d.gone, RdL EPlace X.2.2.2.2.2.1 (az l1 k1 twice1).2.1.d.here, RdL EInt X.2.2.2.2.2.2.1 (az l1 k1 twice1).2.1.d.wayGone, RdL EPlace X.2.2.2.2.2.2.2 (az l1 k1 twice1).2.1.d.wayHere]) := by
 refine Dp aK Tryz.func86 Tryz.ntmps86 Tryz.results86 fun C => ?_
 refine Pn NMail y1 l1 280 fun hlen1 => ?_
 refine AlT fun g1 => ?_
 refine Ck (fR y1 l1) fun _ => ?_
 have hf := Ri (az.eq_1 l1 k1 twice1)
 refine Cn hf (fun hc1 hc1p hf => ?_) fun hc1 hc1p hf => ?_
 ·refine Tx ?_
  refine Ft NMail ?_
  refine Fc EInt ?_
  refine Fc EPlace ?_
  refine Rx ?_; exact Re ⟨Z0, Z0, Z0, Z0, Z0, Z0, Z0, Z0⟩ Rv
 ·refine Ch hf (fun hc2 hf => ?_) fun hc2 hf => ?_
  ·refine Tx ?_
   refine Ft NMail ?_
   refine Fc EInt ?_
   refine Fc EPlace ?_
   refine Rx ?_; exact Re ⟨Z0, Z0, Z0, Z0, Z0, Z0, Z0, Z0⟩ Rv
  ·have hkb := hc2
   simp only [Bool.or_eq_false_iff, decide_eq_false_iff_not] at hkb
   refine Cm (gI y1 l1) fun x1 => ?_
   refine Tx ?_
   refine Sq Xp ?_
   refine wO NMail.E (e := 108) (X := x1.1) (b := x1.2.1) (l := (zipG x1.2.2 0 l1)) Mm fun hcap1 => ?_
   have hcap1 : l1.length ≤ x1.1.c ∧ x1.1.c ≤ 9223372036854775807 := ⟨Nat.le_trans (Nat.le_of_eq (cv x1.2.2 0 l1).symm) hcap1.1, hcap1.2⟩
   refine Sq (wf (k0 := k1.toNat) (h := (k1 + 1).toNat) rfl rfl Zf rfl Zf rfl Zf rfl rfl Zo Zo Zo Zo) ?_
   refine Cm (qi x1.1 x1.2.1 x1.2.2 l1 k1.toNat (k1 + 1).toNat (by omega) (by omega)) fun x2 => ?_
   have hln1 : ((l1.drop k1.toNat).take ((k1 + 1).toNat - k1.toNat)).length = (k1 + 1).toNat - k1.toNat := by simp only [List.length_take, List.length_drop]; omega
   refine Oq NMail.E x2.1 (zipG x2.2.2 0 ((l1.drop k1.toNat).take ((k1 + 1).toNat - k1.toNat))) .sq (fm NMail x2.2.2 0 rfl rfl Zf rfl Zf rfl rfl rfl (.head _) rfl Zf Za) ?_
   refine Oq NMail.E x2.1 (zipG x2.2.2 0 ((l1.drop k1.toNat).take ((k1 + 1).toNat - k1.toNat))) .sq (q_is (v' := .agg ⟨cM (x2.2.2 0).1 (x2.2.2 0).2.1 (x2.2.2 0).2.2.1 (x2.2.2 0).2.2.2.1 (x2.2.2 0).2.2.2.2.1 (x2.2.2 0).2.2.2.2.2.1 (x2.2.2 0).2.2.2.2.2.2 (gt ((l1.drop k1.toNat).take ((k1 + 1).toNat - k1.toNat)) 0)⟩) (fY NMail x2.2.2 rfl rfl Zf rfl rfl (.head _) Za) rfl) ?_
   refine Fg NMail x2.2.2 ((l1.drop k1.toNat).take ((k1 + 1).toNat - k1.toNat)) 0 0 ?_
   refine Fg NMail x2.2.2 ((l1.drop k1.toNat).take ((k1 + 1).toNat - k1.toNat)) 0 1 ?_
   refine Fg NMail x2.2.2 ((l1.drop k1.toNat).take ((k1 + 1).toNat - k1.toNat)) 0 2 ?_
   refine Fg NMail x2.2.2 ((l1.drop k1.toNat).take ((k1 + 1).toNat - k1.toNat)) 0 3 ?_
   refine Fg NMail x2.2.2 ((l1.drop k1.toNat).take ((k1 + 1).toNat - k1.toNat)) 0 4 ?_
   refine Fg NMail x2.2.2 ((l1.drop k1.toNat).take ((k1 + 1).toNat - k1.toNat)) 0 5 ?_
   refine Fg NMail x2.2.2 ((l1.drop k1.toNat).take ((k1 + 1).toNat - k1.toNat)) 0 6 ?_
   refine AlT fun g2 => ?_
   refine Ch hf (fun hc3 hf => ?_) fun hc3 hf => ?_
   ·refine Cm (kB x1.1 x1.2.1 x1.2.2 l1 k1 (k1 + 1) (by omega) (by omega) (by omega)) fun _ => ?_
    refine dU (F := FactsG NMail (appG x1.2.2 k1.toNat (dropG x1.2.2 (k1 + 1).toNat)) (l1.take k1.toNat ++ l1.drop (k1 + 1).toNat)) [FactsG NMail x1.2.2 l1] Sm (fun M w h => FactsG.del NMail _ _ (by omega) (allF1 h)) ?_
    refine Tx ?_
    (repeat refine aD ?_); refine ap (fun j => match j with | 3 => some [g1] | _ => some []) ?_
    refine Dx [0,1,2] ?_
    refine Rn 3 ?_
    refine Wa ?_
    refine Ra 4 rfl Qp ?_
    refine Re0 ?_
    (repeat refine aD ?_)
    refine cw_le (ar NMail.E 108 x1.1 x1.2.1 (zipG (appG x1.2.2 k1.toNat (dropG x1.2.2 (k1 + 1).toNat)) 0 (l1.take k1.toNat ++ l1.drop (k1 + 1).toNat)) Uo) ?_
    refine Fj NMail x1.1 (appG x1.2.2 k1.toNat (dropG x1.2.2 (k1 + 1).toNat)) (l1.take k1.toNat ++ l1.drop (k1 + 1).toNat) ?_
    refine Rx ?_; exact Re ⟨x1.1, (x2.2.2 0).1, (x2.2.2 0).2.1, (x2.2.2 0).2.2.1, (x2.2.2 0).2.2.2.1, (x2.2.2 0).2.2.2.2.1, (x2.2.2 0).2.2.2.2.2.1, (x2.2.2 0).2.2.2.2.2.2⟩ Rv
   ·refine Tx ?_
    (repeat refine aD ?_); refine ap (fun j => match j with | 3 => some [g1] | _ => some []) ?_
    refine Dx [0,1,2] ?_
    refine Rn 3 ?_
    refine Wa ?_
    refine Ra 4 rfl Qp ?_
    refine Re0 ?_
    (repeat refine aD ?_)
    refine cw_le (ar NMail.E 108 x1.1 x1.2.1 (zipG x1.2.2 0 l1) Uo) ?_
    refine Fj NMail x1.1 x1.2.2 l1 ?_
    refine Rx ?_; exact Re ⟨x1.1, (x2.2.2 0).1, (x2.2.2 0).2.1, (x2.2.2 0).2.2.1, (x2.2.2 0).2.2.2.1, (x2.2.2 0).2.2.2.2.1, (x2.2.2 0).2.2.2.2.2.1, (x2.2.2 0).2.2.2.2.2.2⟩ Rv
theorem rl {l : List Mail} {k : Int} {t : Bool} (h : (az l k t).2.2 = 0) : bJ l = 0 ∧ 0 ≤ k ∧ k < (l.length : Int) := by
 unfold az at h
 cases h1 : (bJ l != 0) with
 | true => rw [h1, cond_true] at h; simp only at h; rw [h] at h1; cases h1
 | false =>
  rw [h1, cond_false] at h
  cases h2 : (decide (k < 0) || decide (k ≥ (l.length : Int))) with
  | true => rw [h2, cond_true] at h; cases h
  | false =>
   simp only [Bool.or_eq_false_iff, decide_eq_false_iff_not] at h2
   exact ⟨ai h1, by omega, by omega⟩
end Go.Proofs.YtkjccbdeaflekaaGreatDoor

namespace Go.Proofs.YtkjccbdeaflekaaGreatDoor
open Go Go.Proofs.YtkjccbdeaflekaaGreatDoor.Fw
def insR {α : Type} (lt : α → α → Bool) (x : α) : List α → List α → List α
 | [], s => x :: s
 | y :: r, s => bif lt x y then insR lt x r (y :: s) else (y :: r).reverse ++ x :: s
theorem oe {α : Type} (lt : α → α → Bool) (x : α) : ∀ (r s : List α), insR lt x r s = (r.dropWhile (lt x)).reverse ++ x :: ((r.takeWhile (lt x)).reverse ++ s)
 | [], s => rfl
 | y :: r, s => by
  rw [insR]
  cases h : lt x y with
  | true => rw [cond_true, oe lt x r]; simp [List.dropWhile_cons, List.takeWhile_cons, h]
  | false => simp [List.dropWhile_cons, List.takeWhile_cons, h]
def isort {α : Type} (lt : α → α → Bool) : List α → List α → List α
 | acc, [] => acc
 | acc, x :: r => isort lt (insR lt x acc.reverse []) r
theorem vB {α : Type} (lt : α → α → Bool) (x : α) (r s : List α) : (insR lt x r s).length = r.length + s.length + 1 := by
 rw [oe]
 have := congrArg List.length (List.takeWhile_append_dropWhile (p := lt x) (l := r))
 simp only [List.length_append] at this
 simp; omega
theorem uI {α : Type} (lt : α → α → Bool) (x : α) (r s : List α) : (insR lt x r s).Perm (x :: (r.reverse ++ s)) := by
 rw [oe]
 refine List.perm_middle.trans (.cons _ ?_)
 rw [← List.append_assoc, ← List.reverse_append, List.takeWhile_append_dropWhile]
theorem mL {α : Type} (lt : α → α → Bool) : ∀ (r acc : List α), (isort lt acc r).Perm (acc ++ r)
 | [], acc => by simp [isort]
 | x :: r, acc => by
  rw [isort]
  refine (mL lt r _).trans ?_
  refine ((uI lt x acc.reverse []).append_right r).trans ?_
  simp only [List.reverse_reverse, List.append_nil, List.cons_append]
  exact List.perm_middle.symm
theorem vC {α : Type} (lt : α → α → Bool) (x : α) (r s : List α) : insR lt x r s = insR lt x r [] ++ s := by simp [oe]
theorem jI {α : Type} [Inhabited α] (A : List α) (b : α) (C : List α) (i : Nat) (h : i = A.length) : gt (A ++ b :: C) i = b := by subst h; simp [gt]
theorem iK {α : Type} (A : List α) (b c : α) (C : List α) (i : Nat) (h : i = A.length) : (A ++ b :: C).set i c = A ++ c :: C := by subst h; simp
def Sorted {α : Type} (lt : α → α → Bool) (l : List α) : Prop := l.Pairwise (fun a b => lt b a = false)
theorem rB {α : Type} {lt : α → α → Bool} (htr : ∀ a b c, lt c b = false → lt b a = false → lt c a = false) (has : ∀ a b, lt a b = true → lt b a = false) (x : α) (l : List α) (h : Sorted lt l) : Sorted lt (insR lt x l.reverse []) := by
 rw [oe, List.append_nil]
 have hl : l = (l.reverse.dropWhile (lt x)).reverse ++ (l.reverse.takeWhile (lt x)).reverse := by
  rw [← List.reverse_append, List.takeWhile_append_dropWhile, List.reverse_reverse]
 have hs : Sorted lt ((l.reverse.dropWhile (lt x)).reverse ++ (l.reverse.takeWhile (lt x)).reverse) := by rw [← hl]; exact h
 obtain ⟨h1, h2, h3⟩ := List.pairwise_append.1 hs
 have ht : ∀ b ∈ (l.reverse.takeWhile (lt x)).reverse, lt x b = true := fun b hb => by
  have := List.all_eq_true.1 (List.all_takeWhile (p := lt x) (l := l.reverse)) b (List.mem_reverse.1 hb)
  exact this
 refine List.pairwise_append.2 ⟨h1, List.pairwise_cons.2 ⟨fun b hb => has _ _ (ht b hb), h2⟩, fun a ha b hb => ?_⟩
 have hd : ∀ a ∈ (l.reverse.dropWhile (lt x)).reverse, lt x a = false := by
  intro a ha
  rw [List.mem_reverse] at ha
  cases hD : l.reverse.dropWhile (lt x) with
  | nil => rw [hD] at ha; cases ha
  | cons y D =>
   have hy : lt x y = false := by
    have := List.head_dropWhile_not (p := lt x) (l := l.reverse) (by rw [hD]; simp)
    simp only [hD, List.head_cons] at this
    exact this
   rw [hD] at ha h1
   rcases List.mem_cons.1 ha with rfl | ha
   ·exact hy
   ·have : lt y a = false := by
     have h1 : Sorted lt (y :: D).reverse := h1
     unfold Sorted at h1
     rw [List.pairwise_reverse] at h1
     exact (List.pairwise_cons.1 h1).1 a ha
    exact htr a y x hy this
 rcases List.mem_cons.1 hb with rfl | hb
 ·exact hd a ha
 ·exact h3 a ha b hb
theorem na {α : Type} {lt : α → α → Bool} (htr : ∀ a b c, lt c b = false → lt b a = false → lt c a = false) (has : ∀ a b, lt a b = true → lt b a = false) : ∀ (r acc : List α), Sorted lt acc → Sorted lt (isort lt acc r)
 | [], acc, h => h
 | x :: r, acc, h => na htr has r _ (rB htr has x acc h)
theorem kW {α : Type} (lt : α → α → Bool) (l : List α) : (isort lt [] l).length = l.length := by
 have := (mL lt l []).length_eq
 simpa using this
end Go.Proofs.YtkjccbdeaflekaaGreatDoor

set_option maxHeartbeats 2000000
namespace Go.Proofs.YtkjccbdeaflekaaGreatDoor
open Go Go.Proofs.YtkjccbdeaflekaaGreatDoor.Fw Go.Proofs
attribute [local irreducible] RdL RdN VarP RW CW
def dP (c1 : Client) (me1 : Int) : List Op → Nat → Int
 | [], n1 => 0
 | pn1 :: rn1, n1 => (bif ((co pn1) != 0) then (co pn1) else (bif (((((pn1.who != me1) || (pn1.life != c1.life)) || (pn1.seq != (((c1.seq - (c1.pending.length : Int)) + 1) + (n1 : Int)))) || decide (pn1.time > c1.time)) || (decide ((n1 : Int) > 0) && decide (pn1.time ≤ (gt c1.pending (n1 - 1)).time))) then 4 else (dP c1 me1 rn1 (n1 + 1))))
def bm (c1 : Client) (me1 : Int) : Int :=
 (bif (decide (me1 < 0) || decide (me1 ≥ 3)) then 5 else (bif (((((((decide (c1.life < 0) || decide (c1.life > 50)) || decide (c1.time < 0)) || decide (c1.time > 10000)) || decide (c1.seq < 0)) || decide (c1.seq > 30)) || decide (c1.version < 0)) || decide (c1.version > 60)) then 3 else (bif decide ((c1.pending.length : Int) > 8) then 2 else (bif ((bz c1.v) != 0) then (bz c1.v) else (bif ((((c1.life == 0) && (((c1.time + c1.seq) + c1.version) != 0)) || ((c1.version == 0) && decide ((c1.v.roots.length : Int) > 0))) || decide ((c1.pending.length : Int) > c1.seq)) then 4 else (dP c1 me1 c1.pending 0))))))
theorem fN (y1 : SlV) (y2 : SlV) (y3 : SlV) (y4 : SlV) (c1 : Client) (me1 : Int) : Does Tryz.prog 66 [.agg ⟨cC y1 y2 y3 y4 c1⟩, .int .i64 me1] [RdL EOp y1 c1.pending, RdL EInt y2 c1.v.roots, RdL EPlace y3 c1.v.known, RdL EPlace y4 c1.v.way] (fun (_ : Unit) => .int .i64 (bm c1 me1)) (fun _ => []) := by
 refine Dp aK Tryz.func66 Tryz.ntmps66 Tryz.results66 fun C => ?_
 refine Pc EOp y1 c1.pending 56 fun hlen1 => ?_
 refine Pc EInt y2 c1.v.roots 8 fun hlen2 => ?_
 refine Pc EPlace y3 c1.v.known 24 fun hlen3 => ?_
 refine Pc EPlace y4 c1.v.way 24 fun hlen4 => ?_
 refine BxT fun g1 => ?_
 have hf := Ri (bm.eq_1 c1 me1)
 refine Ch hf (fun hc1 hf => ?_) fun hc1 hf => ?_
 ·exact Ru
 ·refine Ch hf (fun hc2 hf => ?_) fun hc2 hf => ?_
  ·exact Ru
  ·have hrg := hc2
   simp only [Bool.or_eq_false_iff, decide_eq_false_iff_not] at hrg
   refine Cp hf (fun hc3 hc3p hf => ?_) fun hc3 hc3p hf => ?_
   ·exact Ru
   ·refine Ck (eD y2 y3 y4 c1.v) fun _ => ?_
    refine Cn hf (fun hc4 hc4p hf => ?_) fun hc4 hc4p hf => ?_
    ·exact Ru
    ·refine Ch hf (fun hc5 hf => ?_) fun hc5 hf => ?_
     ·exact Ru
     ·refine Lq Nat [1,2,4,98,99] [true] (fun n1 => ⟨[(100, .v (.int .i64 (n1 : Int)))], [], [], [], (n1 ≤ c1.pending.length) ∧ (dP c1 me1 (c1.pending.drop n1) n1) = (bm c1 me1), c1.pending.length - n1⟩) 0 ⟨Nat.zero_le _, hf.symm⟩ ?_
      rintro n1 ⟨hkn1, hf1⟩
      simp only [Lc]
      refine Cu (fun hlt0 => ?_) fun hge0 => ?_
      ·refine Sy Tz (Xi EOp n1) ?_
       refine Sq (Xa EOp) ?_
       refine AlT fun g2 => ?_
       refine Ck (dN (gt c1.pending n1)) fun _ => ?_
       have hf := Ri hf1.symm
       rw [bd hlt0, dP] at hf
       refine Cn hf (fun hc7 hc7p hf => ?_) fun hc7 hc7p hf => ?_
       ·exact Ru
       ·refine Tx ?_
        (repeat refine aD ?_); refine ap (fun _ => some []) ?_
        refine Dx (.range 45) ?_
        refine Gb 45 rfl Gz (Xi EOp (n1 - 1)) ?_
        refine Dx [46,47] ?_
        refine Gb 48 rfl Gz (X1 EOp) ?_
        refine Dx [49,50,51] ?_
        refine Re0 ?_
        refine Ch hf (fun hc8 hf => ?_) fun hc8 hf => ?_
        ·exact Ru
        ·refine Tt ?_
         refine ⟨(n1 + 1), ⟨hlt0, hf.symm⟩, Oo, Le4⟩
      ·have hf := Ri hf1.symm
       rw [List.drop_of_length_le hge0, dP] at hf
       exact Ru
theorem iY {c : Client} {me : Int} (h : bm c me = 0) : (0 ≤ me ∧ me < 3) ∧ (0 ≤ c.life ∧ c.life ≤ 50 ∧ 0 ≤ c.time ∧ c.time ≤ 10000 ∧ 0 ≤ c.seq ∧ c.seq ≤ 30 ∧ 0 ≤ c.version ∧ c.version ≤ 60) ∧ c.pending.length ≤ 8 ∧ bz c.v = 0 ∧ ((c.life = 0 → c.time = 0 ∧ c.seq = 0 ∧ c.version = 0) ∧ (c.version = 0 → c.v.roots = []) ∧ (c.pending.length : Int) ≤ c.seq) ∧ dP c me c.pending 0 = 0 := by
 unfold bm at h
 cases h1 : (decide (me < 0) || decide (me ≥ 3)) with
 | true => rw [h1, cond_true] at h; cases h
 | false =>
 rw [h1, cond_false] at h
 simp only [Bool.or_eq_false_iff, decide_eq_false_iff_not] at h1
 cases h2 : (((((((decide (c.life < 0) || decide (c.life > 50)) || decide (c.time < 0)) || decide (c.time > 10000)) || decide (c.seq < 0)) || decide (c.seq > 30)) || decide (c.version < 0)) || decide (c.version > 60)) with
 | true => rw [h2, cond_true] at h; cases h
 | false =>
 rw [h2, cond_false] at h
 simp only [Bool.or_eq_false_iff, decide_eq_false_iff_not] at h2
 cases h3 : decide ((c.pending.length : Int) > 8) with
 | true => rw [h3, cond_true] at h; cases h
 | false =>
 rw [h3, cond_false] at h
 have h3 := of_decide_eq_false h3
 cases h4 : (bz c.v != 0) with
 | true => rw [h4, cond_true] at h; rw [h] at h4; cases h4
 | false =>
 rw [h4, cond_false] at h
 cases h5 : ((((c.life == 0) && (((c.time + c.seq) + c.version) != 0)) || ((c.version == 0) && decide ((c.v.roots.length : Int) > 0))) || decide ((c.pending.length : Int) > c.seq)) with
 | true => rw [h5, cond_true] at h; cases h
 | false =>
 rw [h5, cond_false] at h
 simp only [Bool.or_eq_false_iff, decide_eq_false_iff_not, Bool.and_eq_false_iff, beq_eq_false_iff_ne, bne_eq_false_iff_eq] at h5
 refine ⟨by omega, by omega, by omega, ai h4, ⟨fun hl => by omega, fun hv => ?_, by omega⟩, h⟩
 rcases h5.1.2 with h6 | h6
 ·exact absurd hv h6
 ·exact List.length_eq_zero_iff.1 (by omega)
def gH (c1 : Client) : Client :=
 c1
theorem ik (y1 : SlV) (y2 : SlV) (y3 : SlV) (y4 : SlV) (c1 : Client) : DoesG Tryz.prog 84 [.agg ⟨cC y1 y2 y3 y4 c1⟩] [RdL EOp y1 c1.pending, RdL EInt y2 c1.v.roots, RdL EPlace y3 c1.v.known, RdL EPlace y4 c1.v.way] ⟨[], []⟩ (fun (X : SlV × Option Nat × SlV × SlV × SlV) => .agg ⟨cC X.1 X.2.2.1 X.2.2.2.1 X.2.2.2.2 (gH c1)⟩) (fun X => [RdL EInt X.2.2.1 (gH c1).v.roots, RdL EPlace X.2.2.2.1 (gH c1).v.known, RdL EPlace X.2.2.2.2 (gH c1).v.way]) (fun X => ⟨[], [ownL EOp 76 X.1 X.2.1 (gH c1).pending]⟩) := by
 refine Dq aK Tryz.func84 Tryz.ntmps84 Tryz.results84 fun C => ?_
 refine Pc EOp y1 c1.pending 56 fun hlen1 => ?_
 refine Pc EInt y2 c1.v.roots 8 fun hlen2 => ?_
 refine Pc EPlace y3 c1.v.known 24 fun hlen3 => ?_
 refine Pc EPlace y4 c1.v.way 24 fun hlen4 => ?_
 refine BxT fun g1 => ?_
 refine AlT fun g2 => ?_
 refine dD ?_
 (repeat refine aD ?_); refine ap (fun j => match j with | 7 => some [g1] | 9 => some [g1] | _ => some []) ?_
 refine Dx [0,1,3,4] ?_
 refine Rn 2 ?_
 refine Cm (il y1 c1.pending) fun x1 => ?_
 refine Ra 6 rfl Qp ?_
 refine Rn 5 ?_
 refine Cm (fS y2 y3 y4 c1.v) fun x2 => ?_
 refine Rn 7 ?_
 refine W1 ?_
 refine Ra 8 rfl Qp ?_
 refine Rn 9 ?_
 refine Wp ?_
 refine Re0 ?_
 refine Tx ?_
 refine cw_le (ar EInt 3 x2.1 x2.2.1 c1.v.roots Uo) ?_
 refine cw_le (ar EPlace 99 x2.2.2.1 x2.2.2.2.1 c1.v.known Uo) ?_
 refine cw_le (ar EPlace 99 x2.2.2.2.2.1 x2.2.2.2.2.2 c1.v.way Uo) ?_
 have hf := Ri (gH.eq_1 c1)
 refine Rx ?_; exact Re ⟨x1.1, x1.2, x2.1, x2.2.2.1, x2.2.2.2.2.1⟩ Rv
def ca (life1 : Int) (time1 : Int) : Client × Int :=
 (bif (((decide (life1 < 1) || decide (life1 > 50)) || decide (time1 < 0)) || decide (time1 > 10000)) then ((⟨0, 0, 0, ([] : List Op), 0, (⟨[], [], []⟩ : View)⟩ : Client), 3) else ((⟨life1, time1, 0, ([] : List Op), 0, (⟨[], [], []⟩ : View)⟩ : Client), 0))
theorem mV (life1 : Int) (time1 : Int) : Does Tryz.prog 180 [.int .i64 life1, .int .i64 time1] [] (fun (X : SlV × SlV × SlV × SlV) => .tuple #[.agg ⟨cC X.1 X.2.1 X.2.2.1 X.2.2.2 (ca life1 time1).1⟩, .int .i64 (ca life1 time1).2]) (fun X => [RdL EOp X.1 (ca life1 time1).1.pending, RdL EInt X.2.1 (ca life1 time1).1.v.roots, RdL EPlace X.2.2.1 (ca life1 time1).1.v.known, RdL EPlace X.2.2.2 (ca life1 time1).1.v.way]) := by
 refine Dp aK Tryz.func180 Tryz.ntmps180 Tryz.results180 fun C => ?_
 refine AlT fun g1 => ?_
 have hf := Ri (ca.eq_1 life1 time1)
 refine Ch hf (fun hc1 hf => ?_) fun hc1 hf => ?_
 ·refine Tx ?_
  refine Fc EOp ?_
  refine Fc EInt ?_
  refine Fc EPlace ?_
  refine Rx ?_; exact Re ⟨Z0, Z0, Z0, Z0⟩ Rv
 ·refine Tx ?_
  refine Fc EOp ?_
  refine Fc EInt ?_
  refine Fc EPlace ?_
  refine Rx ?_; exact Re ⟨Z0, Z0, Z0, Z0⟩ Rv
def cd (c1 : Client) (me1 : Int) (node1 : Int) (parent1 : Int) (name1 : Int) : Client × Op × Int :=
 (bif ((bm c1 me1) != 0) then ((⟨0, 0, 0, ([] : List Op), 0, (⟨[], [], []⟩ : View)⟩ : Client), (⟨0, 0, 0, 0, 0, 0, 0⟩ : Op), (bm c1 me1)) else (bif (c1.life == 0) then ((⟨0, 0, 0, ([] : List Op), 0, (⟨[], [], []⟩ : View)⟩ : Client), (⟨0, 0, 0, 0, 0, 0, 0⟩ : Op), 7) else (bif ((((c1.pending.length : Int) == 8) || (c1.time == 10000)) || (c1.seq == 30)) then ((⟨0, 0, 0, ([] : List Op), 0, (⟨[], [], []⟩ : View)⟩ : Client), (⟨0, 0, 0, 0, 0, 0, 0⟩ : Op), 2) else (bif ((co (⟨(c1.time + 1), me1, node1, parent1, name1, c1.life, (c1.seq + 1)⟩ : Op)) != 0) then ((⟨0, 0, 0, ([] : List Op), 0, (⟨[], [], []⟩ : View)⟩ : Client), (⟨0, 0, 0, 0, 0, 0, 0⟩ : Op), (co (⟨(c1.time + 1), me1, node1, parent1, name1, c1.life, (c1.seq + 1)⟩ : Op))) else ((⟨c1.life, (c1.time + 1), (c1.seq + 1), (c1.pending ++ [(⟨(c1.time + 1), me1, node1, parent1, name1, c1.life, (c1.seq + 1)⟩ : Op)]), c1.version, c1.v⟩ : Client), (⟨(c1.time + 1), me1, node1, parent1, name1, c1.life, (c1.seq + 1)⟩ : Op), 0)))))
theorem nu (y1 : SlV) (y2 : SlV) (y3 : SlV) (y4 : SlV) (c1 : Client) (me1 : Int) (node1 : Int) (parent1 : Int) (name1 : Int) : Does Tryz.prog 137 [.agg ⟨cC y1 y2 y3 y4 c1⟩, .int .i64 me1, .int .i64 node1, .int .i64 parent1, .int .i64 name1] [RdL EOp y1 c1.pending, RdL EInt y2 c1.v.roots, RdL EPlace y3 c1.v.known, RdL EPlace y4 c1.v.way] (fun (X : SlV × SlV × SlV × SlV) => .tuple #[.agg ⟨cC X.1 X.2.1 X.2.2.1 X.2.2.2 (cd c1 me1 node1 parent1 name1).1⟩, .agg ⟨cO (cd c1 me1 node1 parent1 name1).2.1⟩, .int .i64 (cd c1 me1 node1 parent1 name1).2.2]) (fun X => [RdL EOp X.1 (cd c1 me1 node1 parent1 name1).1.pending, RdL EInt X.2.1 (cd c1 me1 node1 parent1 name1).1.v.roots, RdL EPlace X.2.2.1 (cd c1 me1 node1 parent1 name1).1.v.known, RdL EPlace X.2.2.2 (cd c1 me1 node1 parent1 name1).1.v.way]) := by
 refine Dp aK Tryz.func137 Tryz.ntmps137 Tryz.results137 fun C => ?_
 refine Pc EOp y1 c1.pending 56 fun hlen1 => ?_
 refine Pc EInt y2 c1.v.roots 8 fun hlen2 => ?_
 refine Pc EPlace y3 c1.v.known 24 fun hlen3 => ?_
 refine Pc EPlace y4 c1.v.way 24 fun hlen4 => ?_
 refine BxT fun g1 => ?_
 refine AlT fun g2 => ?_
 refine AlT fun g3 => ?_
 refine Ck (fN y1 y2 y3 y4 c1 me1) fun _ => ?_
 have hf := Ri (cd.eq_1 c1 me1 node1 parent1 name1)
 refine Cn hf (fun hc1 hc1p hf => ?_) fun hc1 hc1p hf => ?_
 ·refine Tx ?_
  refine Fc EOp ?_
  refine Fc EInt ?_
  refine Fc EPlace ?_
  refine Rx ?_; exact Re ⟨Z0, Z0, Z0, Z0⟩ Rv
 ·have hck := iY (ai hc1)
  refine Ce hf (fun hc2 hc2p hf => ?_) fun hc2 hc2p hf => ?_
  ·refine Tx ?_
   refine Fc EOp ?_
   refine Fc EInt ?_
   refine Fc EPlace ?_
   refine Rx ?_; exact Re ⟨Z0, Z0, Z0, Z0⟩ Rv
  ·refine Ch hf (fun hc3 hf => ?_) fun hc3 hf => ?_
   ·refine Tx ?_
    refine Fc EOp ?_
    refine Fc EInt ?_
    refine Fc EPlace ?_
    refine Rx ?_; exact Re ⟨Z0, Z0, Z0, Z0⟩ Rv
   ·refine AlT fun g4 => ?_
    refine Ck (dN (⟨(c1.time + 1), me1, node1, parent1, name1, c1.life, (c1.seq + 1)⟩ : Op)) fun _ => ?_
    refine Cn hf (fun hc4 hc4p hf => ?_) fun hc4 hc4p hf => ?_
    ·refine Tx ?_
     refine Fc EOp ?_
     refine Fc EInt ?_
     refine Fc EPlace ?_
     refine Rx ?_; exact Re ⟨Z0, Z0, Z0, Z0⟩ Rv
    ·refine Cm (ik y1 y2 y3 y4 c1) fun x1 => ?_
     refine Pr EInt x1.2.2.1 c1.v.roots 8 fun hlen5 => ?_
     refine Pr EPlace x1.2.2.2.1 c1.v.known 24 fun hlen6 => ?_
     refine Pr EPlace x1.2.2.2.2 c1.v.way 24 fun hlen7 => ?_
     refine Tx ?_
     (repeat refine aD ?_); refine ap (fun j => match j with | 9 => some x1.2.1.toList | 11 => some [g1] | 13 => some [g1] | 15 => some [g1] | _ => some []) ?_
     refine Rq (Fb 0 [3,4,5,6,7,8,9]) Sa Xv ?_
     refine Rq (Fa 1 [3,4,5,6,7,8,9]) Sa Xv ?_
     refine Rq (Fa 2 [3,4,5,6,7,8,9]) Sa (q_ld1 rfl rfl Zf rfl Mm rfl) ?_
     refine Rq (Fa 3 [5,6,7,8,9,10,11]) (.keep (.keep (.keep (.drop Sa)))) Xv (hD := (by intro g hg; simp only [List.mem_append, List.mem_singleton, List.not_mem_nil, or_false, false_or, Option.mem_toList, Option.mem_def, List.append_nil] at hg; rcases hg with hg | hg <;> first | exact .inr ⟨ownL EOp 76 x1.1 x1.2.1 c1.pending, Mm, hg⟩ | (subst hg; simp; done))) ?_
     refine Rq (Fa 4 [5,6,7,8,9,10,11]) (.keep (.keep (.keep (.drop Sa)))) (q_ld1 rfl rfl Zf rfl Mm rfl) (hD := (by intro g hg; simp only [List.mem_append, List.mem_singleton, List.not_mem_nil, or_false, false_or, Option.mem_toList, Option.mem_def, List.append_nil] at hg; rcases hg with hg | hg <;> first | exact .inr ⟨ownL EOp 76 x1.1 x1.2.1 c1.pending, Mm, hg⟩ | (subst hg; simp; done))) ?_
     refine Dx [5,6,7] ?_
     refine Rq (Fa 10 [8,9]) Sa Xv ?_
     refine Rn 8 ?_
     refine Bl EOp [(⟨(c1.time + 1), me1, node1, parent1, name1, c1.life, (c1.seq + 1)⟩ : Op)] fun x2 x2b => ?_
     refine Rn 9 ?_
     refine Ap EOp 56 c1.pending [(⟨(c1.time + 1), me1, node1, parent1, name1, c1.life, (c1.seq + 1)⟩ : Op)] x1.2.1 fun x3 x3b => ?_
     refine Rn 11 ?_
     refine W1 ?_
     refine Ra 12 rfl Qp ?_
     refine Rn 13 ?_
     refine W1 ?_
     refine Ra 14 rfl Qp ?_
     refine Rn 15 ?_
     refine W1 ?_
     refine Re0 ?_
     (repeat refine aD ?_); refine ap (fun j => match j with | 2 => some [g2] | 3 => some [g3] | _ => some []) ?_
     refine Ra 0 rfl XA ?_
     refine Rq (Fa 1 [2]) (.keep (.keep (.drop Sa))) XA ?_
     refine Rn 2 ?_
     refine Wa ?_
     refine Rn 3 ?_
     refine Wa ?_
     refine Ra 4 rfl Qp ?_
     refine Re0 ?_
     (repeat refine aD ?_)
     refine cw_le (ar EOp 76 x3 x3b (c1.pending ++ [(⟨(c1.time + 1), me1, node1, parent1, name1, c1.life, (c1.seq + 1)⟩ : Op)]) Uo) ?_
     refine Rx ?_; exact Re ⟨x3, x1.2.2.1, x1.2.2.2.1, x1.2.2.2.2⟩ Rv
def bc (f1 : Op → Bool) : List Op → Nat → Int
 | [], n1 => (-1)
 | pn1 :: rn1, n1 => (bif (f1 pn1) then (n1 : Int) else (bc f1 rn1 (n1 + 1)))
def bh (s1 : List Op) (f1 : Op → Bool) : Int :=
 (bc f1 s1 0)
theorem jw (y1 : SlV) (s1 : List Op) (f2 : Nat) (caps1 : List Value) (pre1 : List Pred) [StabL pre1] (f1 : Op → Bool) (hfb1 : tab.fnb f2 = true) (hfn1 : ∀ (a0_ : Op), Does Tryz.prog f2 ([.agg ⟨cO a0_⟩] ++ caps1) pre1 (fun (_ : Unit) => .bool (f1 a0_)) (fun _ => [])) : Does Tryz.prog 204 [y1.val s1.length, .func (.func f2) #[] ⟨caps1⟩] (RdL EOp y1 s1 :: pre1) (fun (_ : Unit) => .int .i64 (bh s1 f1)) (fun _ => []) := by
 refine Dp aK Tryz.func204 Tryz.ntmps204 Tryz.results204 fun C => ?_
 refine dx (φ := s1.length * 56 ≤ 140737488355328) [RdL EOp y1 s1] Sf (fun M w h => (allF1 h).len) fun hlen1 => ?_
 refine Lq Nat [0,1,4,7] [] (fun n1 => ⟨[(8, .v (.int .i64 (n1 : Int)))], [], [], [], (n1 ≤ s1.length) ∧ (bc f1 (s1.drop n1) n1) = (bh s1 f1), s1.length - n1⟩) 0 ⟨Nat.zero_le _, (by simp only [bh, Cf] : (bh s1 f1) = (bc f1 s1 0)).symm⟩ ?_
 rintro n1 ⟨hkn1, hf1⟩
 simp only [Lc]
 refine Cu (fun hlt0 => ?_) fun hge0 => ?_
 ·refine Sy Tz (Xi EOp n1) ?_
  refine Sq (Xa EOp) ?_
  refine gv (hfn1 (gt s1 n1)) .sq (al rfl) rfl rfl rfl rfl rfl (by assumption) rfl rfl rfl Sf ?_
  intro _
  refine dD ?_
  have hf := Ri hf1.symm
  rw [bd hlt0, bc] at hf
  refine Ch hf (fun hc2 hf => ?_) fun hc2 hf => ?_
  ·refine Tx ?_
   refine di ?_
   rw [hf.to]
   exact ⟨(), _, (.cons (.tmp rfl) .nil), rfl, Sf, .nil _, .nil _⟩
  ·refine Tt ?_
   refine ⟨(n1 + 1), ⟨hlt0, hf.symm⟩, Oo, Le5⟩
 ·refine Tx ?_
  have hf := Ri hf1.symm
  rw [List.drop_of_length_le hge0, bc] at hf
  refine di ?_
  rw [hf.to]
  exact ⟨(), _, (.cons (.tmp rfl) .nil), rfl, Sf, .nil _, .nil _⟩
theorem fU (f : Op → Bool) : ∀ (l : List Op) (k : Nat), bc f l k < (k : Int) + (l.length : Int) ∨ bc f l k = -1
 | [], k => .inr rfl
 | p :: r, k => by
  rw [bc]
  cases f p with
  | true => simp only [cond_true, List.length_cons]; omega
  | false => have := fU f r (k + 1); simp only [cond_false, List.length_cons]; omega
theorem kw (l : List Op) (f : Op → Bool) : bh l f < (l.length : Int) ∨ bh l f = -1 := by
 have := fU f l 0
 unfold bh
 omega
theorem IF_Op (f : Op → Bool) : ∀ (l : List Op) (k : Nat), (bc f l k = -1 ∧ ∀ p ∈ l, f p = false) ∨ ∃ A x R, l = A ++ x :: R ∧ (∀ p ∈ A, f p = false) ∧ f x = true ∧ bc f l k = ((k + A.length : Nat) : Int)
 | [], k => .inl ⟨rfl, by simp⟩
 | p :: r, k => by
  rw [bc]
  cases h : f p with
  | true => exact .inr ⟨[], p, r, rfl, by simp, h, by simp⟩
  | false =>
   rcases IF_Op f r (k + 1) with ⟨h1, h2⟩ | ⟨A, x, R, h1, h2, h3, h4⟩
   ·exact .inl ⟨h1, fun q hq => by rcases List.mem_cons.1 hq with rfl | hq; exact h; exact h2 q hq⟩
   ·refine .inr ⟨p :: A, x, R, by rw [h1]; rfl, fun q hq => by rcases List.mem_cons.1 hq with rfl | hq; exact h; exact h2 q hq, h3, ?_⟩
    rw [cond_false, h4]; simp; omega
theorem kx (l : List Op) (f : Op → Bool) : -1 ≤ bh l f := by
 have h : bh l f = bc f l 0 := rfl
 rcases IF_Op f l 0 with ⟨h1, _⟩ | ⟨A, x, R, _, _, _, h4⟩ <;> rw [h] <;> omega
def bB (del1 : Op → Bool) : Nat → (List Op) → Int → Int → (List Op)
 | 0, s2, i1, j1 => default
 | f_k0 + 1, s2, i1, j1 => (bif decide (j1 < (s2.length : Int)) then (bif (!(del1 (gt s2 j1.toNat))) then (bB del1 f_k0 (s2.set i1.toNat (gt s2 j1.toNat)) (i1 + 1) (j1 + 1)) else (bB del1 f_k0 s2 i1 (j1 + 1))) else (s2.take i1.toNat))
def cG (s1 : List Op) (del1 : Op → Bool) : List Op :=
 (bif ((bh s1 del1) == (-1)) then s1 else (bB del1 ((s1.length - ((bh s1 del1) + 1).toNat) + 1) s1 (bh s1 del1) ((bh s1 del1) + 1)))
theorem jn (y1 : SlV) (y1b : Option Nat) (s1 : List Op) (f1 : Nat) (caps1 : List Value) (pre1 : List Pred) [StabL pre1] (del1 : Op → Bool) (hfb1 : tab.fnb f1 = true) (hfn1 : ∀ (a0_ : Op), Does Tryz.prog f1 ([.agg ⟨cO a0_⟩] ++ caps1) pre1 (fun (_ : Unit) => .bool (del1 a0_)) (fun _ => [])) : DoesG Tryz.prog 174 [y1.val s1.length, .func (.func f1) #[] ⟨caps1⟩] pre1 ⟨[], [ownL EOp 76 y1 y1b s1]⟩ (fun (_ : Unit) => y1.val (cG s1 del1).length) (fun _ => []) (fun _ => ⟨[], [ownL EOp 76 y1 y1b (cG s1 del1)]⟩) := by
 refine Dq aK Tryz.func174 Tryz.ntmps174 Tryz.results174 fun C => ?_
 refine iX EOp (e := 76) (X := y1) (b := y1b) (l := s1) Mm fun hl63y1 hleny1 => ?_
 simp only [show EOp.by_ = 56 from rfl] at hleny1
 refine Tx ?_
 refine pF (jw y1 s1 _ _ _ del1 (by assumption) hfn1) .sq (al rfl) rfl rfl rfl Kr rfl rfl (.own Mm (PreR.sub Sf)) ?_
 intro _
 have hf := Ri (cG.eq_1 s1 del1)
 refine Ce hf (fun hc1 hc1p hf => ?_) fun hc1 hc1p hf => ?_
 ·refine Tx ?_
  refine di ?_
  rw [hf.to]
  exact ⟨(), _, (.cons (.tmp rfl) .nil), rfl, Sf, .nil _, Sp⟩
 ·have hix := kw s1 del1
  have hig := kx s1 del1
  refine Lq (List Op × Int × Int) [1,4] [] (fun ⟨s2, i1, j1⟩ => ⟨[(0, .v (y1.val s2.length)), (5, .v (.int .i64 i1)), (6, .v (.int .i64 j1))], [], [ownL EOp 76 y1 y1b s2], [], (0 ≤ i1 ∧ i1 < j1 ∧ j1 ≤ (s1.length : Int) ∧ s2.length = s1.length) ∧ (bB del1 ((s1.length - j1.toNat) + 1) s2 i1 j1) = (cG s1 del1), (s1.length - j1.toNat) + 1⟩) ⟨s1, (bh s1 del1), ((bh s1 del1) + 1)⟩ ⟨Nz, hf.symm⟩ ?_
  rintro ⟨s2, i1, j1⟩ ⟨hj, hf1⟩
  simp only [Lc]
  have hlt0_ : ((s1.length - j1.toNat) + 1 - 1) + 1 = (s1.length - j1.toNat) + 1 := by omega
  have hf := Ri hf1.symm
  rw [← hlt0_, bB] at hf
  refine Cp hf (fun hc2 hc2p hf => ?_) fun hc2 hc2p hf => ?_
  ·refine Tx ?_
   refine Oq EOp y1 s2 .sq (Xi EOp j1.toNat) ?_
   refine Oq EOp y1 s2 .sq (Xa EOp) ?_
   refine AlT fun g1 => ?_
   refine Tx ?_
   refine gv (hfn1 (gt s2 j1.toNat)) .sq (al rfl) rfl rfl rfl rfl rfl (by assumption) rfl rfl rfl Sf ?_
   intro _
   refine Ch hf (fun hc3 hf => ?_) fun hc3 hf => ?_
   ·refine Tx ?_
    refine Oq EOp y1 s2 .sq (Xi EOp i1.toNat) ?_
    refine Wo EOp s2 i1.toNat 0 (gt s2 j1.toNat) y1b ?_
    have hv1 : y1.val s2.length = y1.val (s2.set i1.toNat (gt s2 j1.toNat)).length := congrArg (SlV.val y1) List.length_set.symm
    (try simp only [cB, cC, cW]); try rw [hv1]
    refine Tt ?_
    have hnx1 : (s1.length - (j1 + 1).toNat) + 1 = (s1.length - j1.toNat) + 1 - 1 := by omega
    refine ⟨⟨(s2.set i1.toNat (gt s2 j1.toNat)), (i1 + 1), (j1 + 1)⟩, ⟨(by simp only [List.length_append, List.length_cons, List.length_nil, List.length_set]; omega), (by rw [hnx1]; exact (hf : (cG s1 del1) = (bB del1 ((s1.length - j1.toNat) + 1 - 1) (s2.set i1.toNat (gt s2 j1.toNat)) (i1 + 1) (j1 + 1))).symm)⟩, Oo, Le5⟩
   ·refine Tt ?_
    have hnx2 : (s1.length - (j1 + 1).toNat) + 1 = (s1.length - j1.toNat) + 1 - 1 := by omega
    refine ⟨⟨s2, i1, (j1 + 1)⟩, ⟨(by simp only [List.length_append, List.length_cons, List.length_nil, List.length_set]; omega), (by rw [hnx2]; exact (hf : (cG s1 del1) = (bB del1 ((s1.length - j1.toNat) + 1 - 1) s2 i1 (j1 + 1))).symm)⟩, Oo, Le5⟩
  ·refine Sy Tz (qw EOp i1.toNat (l := s2) (X := y1) rfl rfl Zf rfl Zf rfl rfl (fun _ => by first | omega | (simp only [List.length_set]; omega)) (fun _ => by first | omega | (simp only [List.length_set]; omega))) ?_
   refine t7 EOp s2 i1.toNat (e := 76) (X := y1) (b := y1b) .sq (.inl ⟨_, rfl⟩) (al rfl) rfl rfl rfl rfl rfl rfl rfl rfl rfl rfl Zb Uo ?_
   refine Tx ?_
   refine Oq EOp y1 (s2.take i1.toNat) .sq (wV EOp (l := (s2.take i1.toNat)) (X := y1) (h := i1.toNat) rfl rfl Zf rfl Zf rfl rfl (.head _) Zo (fun _ => by simp only [List.length_take]; omega)) ?_
   refine Tx ?_
   refine di ?_
   rw [hf.to]
   exact ⟨(), _, (.cons (.tmp rfl) .nil), rfl, Sf, .nil _, Sp⟩
theorem nF (f : Op → Bool) : ∀ (R K : List Op) (g : Op) (G : List Op) (k : Nat), R.length < k → bB f k (K ++ (g :: G ++ R)) (K.length : Int) ((K.length + (G.length + 1) : Nat) : Int) = K ++ R.filter (fun p => !f p)
 | [], K, g, G, k + 1, _ => by
  rw [bB]
  have : decide (((K.length + (G.length + 1) : Nat) : Int) < ((K ++ (g :: G ++ [])).length : Int)) = false := by simp
  rw [this, cond_false]
  simp
 | v :: R, K, g, G, k + 1, hk => by
  simp only [List.length_cons] at hk
  rw [bB]
  have h1 : decide (((K.length + (G.length + 1) : Nat) : Int) < ((K ++ (g :: G ++ v :: R)).length : Int)) = true := by simp; omega
  have e0 : ((K.length + (G.length + 1) : Nat) : Int).toNat = (K ++ g :: G).length := by simp; omega
  have g0 : gt (K ++ (g :: G ++ v :: R)) ((K.length + (G.length + 1) : Nat) : Int).toNat = v := by rw [← List.append_assoc]; exact jI _ _ _ _ e0
  rw [h1, cond_true, g0, List.filter_cons]
  cases hv : f v with
  | true =>
   simp only [Bool.not_true, cond_false, Bool.false_eq_true, if_false]
   have ih := nF f R K g (G ++ [v]) k (by omega)
   rw [show ((K.length + (G.length + 1) : Nat) : Int) + 1 = ((K.length + ((G ++ [v]).length + 1) : Nat) : Int) by simp; omega]
   rw [show K ++ (g :: G ++ v :: R) = K ++ (g :: (G ++ [v]) ++ R) by simp]
   exact ih
  | false =>
   simp only [Bool.not_false, cond_true, if_true]
   have hs : (K ++ (g :: G ++ v :: R)).set (K.length : Int).toNat v = K ++ (v :: G ++ v :: R) := iK K g v (G ++ v :: R) _ (by simp)
   rw [hs]
   cases G with
   | nil =>
    have ih := nF f R (K ++ [v]) v [] k (by omega)
    simp only [List.length_append, List.length_cons, List.length_nil, List.append_assoc, List.cons_append, List.nil_append] at ih ⊢
    rw [show (K.length : Int) + 1 = ((K.length + (0 + 1) : Nat) : Int) by simp, show ((K.length + (0 + 1) : Nat) : Int) + 1 = ((K.length + (0 + 1) + (0 + 1) : Nat) : Int) by simp]
    exact ih
   | cons g' G =>
    have ih := nF f R (K ++ [v]) g' (G ++ [v]) k (by omega)
    simp only [List.length_append, List.length_cons, List.length_nil, List.append_assoc, List.cons_append, List.nil_append] at ih ⊢
    rw [show (K.length : Int) + 1 = ((K.length + (0 + 1) : Nat) : Int) by simp, show ((K.length + (G.length + 1 + 1) : Nat) : Int) + 1 = ((K.length + (0 + 1) + (G.length + (0 + 1) + 1) : Nat) : Int) by simp; omega]
    exact ih
theorem DF_Op (l : List Op) (f : Op → Bool) : cG l f = l.filter (fun p => !f p) := by
 unfold cG
 have h : bh l f = bc f l 0 := rfl
 rcases IF_Op f l 0 with ⟨h1, h2⟩ | ⟨A, x, R, h1, h2, h3, h4⟩
 ·rw [h, h1]
  have : ((-1 : Int) == -1) = true := rfl
  rw [this, cond_true]
  exact (List.filter_eq_self.2 fun p hp => by rw [h2 p hp]; rfl).symm
 ·rw [h, h4]
  have : (((0 + A.length : Nat) : Int) == -1) = false := by rw [beq_eq_false_iff_ne]; omega
  rw [this, cond_false, h1]
  have hk := nF f R A x [] (((A ++ x :: R).length - (((0 + A.length : Nat) : Int) + 1).toNat) + 1) (by simp; omega)
  simp only [List.length_nil, Nat.zero_add, List.cons_append, List.nil_append] at hk ⊢
  rw [show (A.length : Int) + 1 = ((A.length + 1 : Nat) : Int) by simp]
  rw [show (A.length : Int) + 1 = ((A.length + 1 : Nat) : Int) by simp] at hk
  rw [hk, List.filter_append, List.filter_cons, h3]
  simp only [Bool.not_true, Bool.false_eq_true, if_false]
  have hA : A.filter (fun p => !f p) = A := List.filter_eq_self.2 fun p hp => by rw [h2 p hp]; rfl
  rw [hA]
theorem fO (y1 : SlV) (y1b : Option Nat) (s1 : List Op) (f1 : Nat) (caps1 : List Value) (pre1 : List Pred) [StabL pre1] (del1 : Op → Bool) (hfb1 : tab.fnb f1 = true) (hfn1 : ∀ (a0_ : Op), Does Tryz.prog f1 ([.agg ⟨cO a0_⟩] ++ caps1) pre1 (fun (_ : Unit) => .bool (del1 a0_)) (fun _ => [])) :
  DoesG Tryz.prog 174 [y1.val s1.length, .func (.func f1) #[] ⟨caps1⟩] pre1 ⟨[], [ownL EOp 76 y1 y1b s1]⟩ (fun (_ : Unit) => y1.val (s1.filter (fun p => !del1 p)).length) (fun (_ : Unit) => []) (fun (_ : Unit) => ⟨[], [ownL EOp 76 y1 y1b (s1.filter (fun p => !del1 p))]⟩) := by
 have := jn y1 y1b s1 f1 caps1 pre1 del1 hfb1 hfn1
 rw [DF_Op] at this
 exact this
def et (o1 : Op) (m1 : Mail) : Bool :=
 decide (o1.seq ≤ m1.seq)
theorem jg (o1 : Op) (c1 : Nat) (y1 : SlV) (y2 : SlV) (y3 : SlV) (y4 : SlV) (y5 : SlV) (y6 : SlV) (y7 : SlV) (m1 : Mail) : Does Tryz.prog 175 [.agg ⟨cO o1⟩, .pointer (some ⟨c1, 0, none⟩)] [VarP c1 (cM y1 y2 y3 y4 y5 y6 y7 m1), RdL EInt y1 m1.v.roots, RdL EPlace y2 m1.v.known, RdL EPlace y3 m1.v.way, RdL EInt y4 m1.d.gone, RdL EPlace y5 m1.d.here, RdL EInt y6 m1.d.wayGone, RdL EPlace y7 m1.d.wayHere] (fun (_ : Unit) => .bool (et o1 m1)) (fun _ => []) := by
 refine Dp aK Tryz.func175 Tryz.ntmps175 Tryz.results175 fun C => ?_
 refine BxT fun g1 => ?_
 have hf := Ri (et.eq_1 o1 m1)
 exact Ru
def aC (c1 : Client) (me1 : Int) (m1 : Mail) : Client × Int :=
 (bif ((bm c1 me1) != 0) then ((⟨0, 0, 0, ([] : List Op), 0, (⟨[], [], []⟩ : View)⟩ : Client), (bm c1 me1)) else (bif ((bJ [m1]) != 0) then ((⟨0, 0, 0, ([] : List Op), 0, (⟨[], [], []⟩ : View)⟩ : Client), (bJ [m1])) else (bif ((m1.kind == 1) || (m1.who != me1)) then ((⟨0, 0, 0, ([] : List Op), 0, (⟨[], [], []⟩ : View)⟩ : Client), 4) else (bif (((m1.life != c1.life) || decide (m1.version ≤ c1.version)) || decide (m1.seq > c1.seq)) then (c1, 0) else (bif (m1.kind == 3) then (bif (m1.frm != c1.version) then (c1, 0) else (bif ((bv c1.v m1.d).2 != 0) then ((⟨0, 0, 0, ([] : List Op), 0, (⟨[], [], []⟩ : View)⟩ : Client), (bv c1.v m1.d).2) else ((⟨c1.life, (if m1.time > c1.time then m1.time else c1.time), c1.seq, (c1.pending.filter (fun p => !(fun a0_ => et a0_ m1) p)), m1.version, (bv c1.v m1.d).1⟩ : Client), 0))) else ((⟨c1.life, (if m1.time > c1.time then m1.time else c1.time), c1.seq, (c1.pending.filter (fun p => !(fun a0_ => et a0_ m1) p)), m1.version, m1.v⟩ : Client), 0))))))
theorem ku (y1 : SlV) (y2 : SlV) (y3 : SlV) (y4 : SlV) (c1 : Client) (me1 : Int) (y5 : SlV) (y6 : SlV) (y7 : SlV) (y8 : SlV) (y9 : SlV) (y10 : SlV) (y11 : SlV) (m1 : Mail) : Does Tryz.prog 134 [.agg ⟨cC y1 y2 y3 y4 c1⟩, .int .i64 me1, .agg ⟨cM y5 y6 y7 y8 y9 y10 y11 m1⟩] [RdL EOp y1 c1.pending, RdL EInt y2 c1.v.roots, RdL EPlace y3 c1.v.known, RdL EPlace y4 c1.v.way, RdL EInt y5 m1.v.roots, RdL EPlace y6 m1.v.known, RdL EPlace y7 m1.v.way, RdL EInt y8 m1.d.gone, RdL EPlace y9 m1.d.here, RdL EInt y10 m1.d.wayGone, RdL EPlace y11 m1.d.wayHere] (fun (X : SlV × SlV × SlV × SlV) => .tuple #[.agg ⟨cC X.1 X.2.1 X.2.2.1 X.2.2.2 (aC c1 me1 m1).1⟩, .int .i64 (aC c1 me1 m1).2]) (fun X => [RdL EOp X.1 (aC c1 me1 m1).1.pending, RdL EInt X.2.1 (aC c1 me1 m1).1.v.roots, RdL EPlace X.2.2.1 (aC c1 me1 m1).1.v.known, RdL EPlace X.2.2.2 (aC c1 me1 m1).1.v.way]) := by
 refine Dp aK Tryz.func134 Tryz.ntmps134 Tryz.results134 fun C => ?_
 refine Pc EOp y1 c1.pending 56 fun hlen1 => ?_
 refine Pc EInt y2 c1.v.roots 8 fun hlen2 => ?_
 refine Pc EPlace y3 c1.v.known 24 fun hlen3 => ?_
 refine Pc EPlace y4 c1.v.way 24 fun hlen4 => ?_
 refine Pc EInt y5 m1.v.roots 8 fun hlen5 => ?_
 refine Pc EPlace y6 m1.v.known 24 fun hlen6 => ?_
 refine Pc EPlace y7 m1.v.way 24 fun hlen7 => ?_
 refine Pc EInt y8 m1.d.gone 8 fun hlen8 => ?_
 refine Pc EPlace y9 m1.d.here 24 fun hlen9 => ?_
 refine Pc EInt y10 m1.d.wayGone 8 fun hlen10 => ?_
 refine Pc EPlace y11 m1.d.wayHere 24 fun hlen11 => ?_
 refine BxT fun g1 => ?_
 refine BxT fun g2 => ?_
 refine AlT fun g3 => ?_
 refine Ck (fN y1 y2 y3 y4 c1 me1) fun _ => ?_
 have hf := Ri (aC.eq_1 c1 me1 m1)
 refine Cn hf (fun hc1 hc1p hf => ?_) fun hc1 hc1p hf => ?_
 ·refine Tx ?_
  refine Fc EOp ?_
  refine Fc EInt ?_
  refine Fc EPlace ?_
  refine Rx ?_; exact Re ⟨Z0, Z0, Z0, Z0⟩ Rv
 ·have hck := iY (ai hc1)
  refine Bl NMail.E [((y5, y6, y7, y8, y9, y10, y11), m1)] (hfill := mo rfl rfl) fun x1 x1b => ?_
  refine rw_le (ar NMail.E 108 x1 x1b [((y5, y6, y7, y8, y9, y10, y11), m1)] Uo) ?_
  refine dU (F := RdN NMail x1 [m1]) [RdL NMail.E x1 [((y5, y6, y7, y8, y9, y10, y11), m1)], RdL EInt y5 m1.v.roots, RdL EPlace y6 m1.v.known, RdL EPlace y7 m1.v.way, RdL EInt y8 m1.d.gone, RdL EPlace y9 m1.d.here, RdL EInt y10 m1.d.wayGone, RdL EPlace y11 m1.d.wayHere] Sm (fun M w h => RdN.of NMail (hs := [((y5, y6, y7, y8, y9, y10, y11), m1)]) rfl (h _ (.head _)) (aF (eC Sm h) (fun p hp => by cases hp))) ?_
  refine Ck (fR x1 [m1]) fun _ => ?_
  refine Cn hf (fun hc2 hc2p hf => ?_) fun hc2 hc2p hf => ?_
  ·refine Tx ?_
   refine Fc EOp ?_
   refine Fc EInt ?_
   refine Fc EPlace ?_
   refine Rx ?_; exact Re ⟨Z0, Z0, Z0, Z0⟩ Rv
  ·refine Ch hf (fun hc3 hf => ?_) fun hc3 hf => ?_
   ·refine Tx ?_
    refine Fc EOp ?_
    refine Fc EInt ?_
    refine Fc EPlace ?_
    refine Rx ?_; exact Re ⟨Z0, Z0, Z0, Z0⟩ Rv
   ·refine Cm (ik y1 y2 y3 y4 c1) fun x2 => ?_
    refine Pr EInt x2.2.2.1 c1.v.roots 8 fun hlen12 => ?_
    refine Pr EPlace x2.2.2.2.1 c1.v.known 24 fun hlen13 => ?_
    refine Pr EPlace x2.2.2.2.2 c1.v.way 24 fun hlen14 => ?_
    refine Ch hf (fun hc4 hf => ?_) fun hc4 hf => ?_
    ·refine Tx ?_
     refine cw_le (ar EOp 76 x2.1 x2.2.1 c1.pending Uo) ?_
     refine Rx ?_; exact Re ⟨x2.1, x2.2.2.1, x2.2.2.2.1, x2.2.2.2.2⟩ Rv
    ·refine AlT fun g4 => ?_
     refine Ce hf (fun hc5 hc5p hf => ?_) fun hc5 hc5p hf => ?_
     ·refine Cn hf (fun hc6 hc6p hf => ?_) fun hc6 hc6p hf => ?_
      ·refine Tx ?_
       refine cw_le (ar EOp 76 x2.1 x2.2.1 c1.pending Uo) ?_
       refine Rx ?_; exact Re ⟨x2.1, x2.2.2.1, x2.2.2.2.1, x2.2.2.2.2⟩ Rv
      ·refine Ck (nt x2.2.2.1 x2.2.2.2.1 x2.2.2.2.2 c1.v y8 y9 y10 y11 m1.d) fun x3 => ?_
       refine Pr EInt x3.1 (bv c1.v m1.d).1.roots 8 fun hlen15 => ?_
       refine Pr EPlace x3.2.1 (bv c1.v m1.d).1.known 24 fun hlen16 => ?_
       refine Pr EPlace x3.2.2 (bv c1.v m1.d).1.way 24 fun hlen17 => ?_
       refine Cn hf (fun hc7 hc7p hf => ?_) fun hc7 hc7p hf => ?_
       ·refine Tx ?_
        refine Fc EOp ?_
        refine Fc EInt ?_
        refine Fc EPlace ?_
        refine Rx ?_; exact Re ⟨Z0, Z0, Z0, Z0⟩ Rv
       ·refine Tx ?_
        (repeat refine aD ?_); refine ap (fun j => match j with | 10 => some [g1] | 12 => some [g1] | 14 => some [g1] | _ => some []) ?_
        refine Ra 0 rfl XA ?_
        refine Rq (Fa 2 [1,4,5,6,7,8,9,10]) (.keep (.keep (.keep (.drop Sa)))) Xv ?_
        refine Rq (Fa 3 [1,4,5,6,7,8,9,10]) (.keep (.keep (.keep (.drop Sa)))) (q_ld1 rfl rfl Zf rfl Mm rfl) ?_
        refine Dx [4,5] ?_
        refine Rq (Fb 6 [1,9,10,11,12]) (.keep (.keep (.keep (.drop Sa)))) Xv ?_
        refine Rq (Fa 7 [1,9,10,11,12]) (.keep (.keep (.keep (.drop Sa)))) (q_ld1 rfl rfl Zf rfl Mm rfl) ?_
        refine Rq (Fa 8 [1,9,10,11,12]) (.keep (.keep (.keep (.drop Sa)))) (q_max rfl rfl Zf rfl Zf) ?_
        refine Rn 1 ?_
        refine Cm (fS x3.1 x3.2.1 x3.2.2 (bv c1.v m1.d).1) fun x4 => ?_
        refine Ra 9 rfl Qp ?_
        refine Rn 10 ?_
        refine Wp ?_
        refine Ra 11 rfl Qp ?_
        refine Rn 12 ?_
        refine W1 ?_
        refine Ra 13 rfl Qp ?_
        refine Rn 14 ?_
        refine W1 ?_
        refine Re0 ?_
        refine Tx ?_
        refine rw_le (od (g := g2) Pk) ?_
        refine Cm (fO x2.1 x2.2.1 c1.pending _ _ _ (fun a0_ => et a0_ m1) Kr (fun a0_ => jg a0_ g2 y5 y6 y7 y8 y9 y10 y11 m1)) fun _ => ?_
        refine Tx ?_
        refine cw_le (ar EOp 76 x2.1 x2.2.1 (c1.pending.filter (fun p => !(fun a0_ => et a0_ m1) p)) Uo) ?_
        refine cw_le (ar EInt 3 x4.1 x4.2.1 (bv c1.v m1.d).1.roots Uo) ?_
        refine cw_le (ar EPlace 99 x4.2.2.1 x4.2.2.2.1 (bv c1.v m1.d).1.known Uo) ?_
        refine cw_le (ar EPlace 99 x4.2.2.2.2.1 x4.2.2.2.2.2 (bv c1.v m1.d).1.way Uo) ?_
        refine Rx ?_; exact Re ⟨x2.1, x4.1, x4.2.2.1, x4.2.2.2.2.1⟩ Rv
     ·refine Tx ?_
      (repeat refine aD ?_); refine ap (fun j => match j with | 10 => some [g1] | 12 => some [g1] | 14 => some [g1] | _ => some []) ?_
      refine Ra 0 rfl XA ?_
      refine Rq (Fa 2 [1,4,5,6,7,8,9,10]) (.keep (.keep (.keep (.drop Sa)))) Xv ?_
      refine Rq (Fa 3 [1,4,5,6,7,8,9,10]) (.keep (.keep (.keep (.drop Sa)))) (q_ld1 rfl rfl Zf rfl Mm rfl) ?_
      refine Dx [4,5] ?_
      refine Rq (Fb 6 [1,9,10,11,12]) (.keep (.keep (.keep (.drop Sa)))) Xv ?_
      refine Rq (Fa 7 [1,9,10,11,12]) (.keep (.keep (.keep (.drop Sa)))) (q_ld1 rfl rfl Zf rfl Mm rfl) ?_
      refine Rq (Fa 8 [1,9,10,11,12]) (.keep (.keep (.keep (.drop Sa)))) (q_max rfl rfl Zf rfl Zf) ?_
      refine Rn 1 ?_
      refine Cm (fS y5 y6 y7 m1.v) fun x5 => ?_
      refine Ra 9 rfl Qp ?_
      refine Rn 10 ?_
      refine Wp ?_
      refine Ra 11 rfl Qp ?_
      refine Rn 12 ?_
      refine W1 ?_
      refine Ra 13 rfl Qp ?_
      refine Rn 14 ?_
      refine W1 ?_
      refine Re0 ?_
      refine Tx ?_
      refine rw_le (od (g := g2) Pk) ?_
      refine Cm (fO x2.1 x2.2.1 c1.pending _ _ _ (fun a0_ => et a0_ m1) Kr (fun a0_ => jg a0_ g2 y5 y6 y7 y8 y9 y10 y11 m1)) fun _ => ?_
      refine Tx ?_
      refine cw_le (ar EOp 76 x2.1 x2.2.1 (c1.pending.filter (fun p => !(fun a0_ => et a0_ m1) p)) Uo) ?_
      refine cw_le (ar EInt 3 x5.1 x5.2.1 m1.v.roots Uo) ?_
      refine cw_le (ar EPlace 99 x5.2.2.1 x5.2.2.2.1 m1.v.known Uo) ?_
      refine cw_le (ar EPlace 99 x5.2.2.2.2.1 x5.2.2.2.2.2 m1.v.way Uo) ?_
      refine Rx ?_; exact Re ⟨x2.1, x5.1, x5.2.2.1, x5.2.2.2.2.1⟩ Rv
end Go.Proofs.YtkjccbdeaflekaaGreatDoor
