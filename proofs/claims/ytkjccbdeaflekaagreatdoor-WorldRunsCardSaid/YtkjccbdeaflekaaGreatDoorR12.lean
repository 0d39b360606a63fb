/- Part of this claim. No condition. -/
import Derived.Test.YtkjccbdeaflekaaGreatDoorR11
import Derived.Test.YtkjccbdeaflekaaGreatDoorR8
import Derived.Test.YtkjccbdeaflekaaGreatDoorR7
import Derived.Test.YtkjccbdeaflekaaGreatDoorR5
import Derived.Test.YtkjccbdeaflekaaGreatDoorR9
import Derived.Test.YtkjccbdeaflekaaGreatDoorR4
set_option linter.unusedVariables false
set_option linter.unusedSimpArgs false
set_option maxHeartbeats 2000000
namespace Go.Proofs.YtkjccbdeaflekaaGreatDoor
open Go Go.Proofs.YtkjccbdeaflekaaGreatDoor.Fw Go.Proofs
attribute [local irreducible] CW LibP RW RdL RdN VarP
def cy (d1 : Disk) : Int :=
 (bif (decide ((d1.safe.length : Int) > 60000) || decide ((d1.wait.length : Int) > (60000 - (d1.safe.length : Int)))) then 2 else (ae d1.safe 60).2.2)
theorem jr (y1 : SlV) (y2 : SlV) (d1 : Disk) : Du 34 [.agg ⟨cK y1 y2 d1⟩] [RdL EByte y1 d1.safe, RdL EByte y2 d1.wait, LibP Tryz.prog] (.int .i64 (cy d1)) := by
 refine Dp Tryz.func34 fun C => ?_;refine Qc y1 1 fun hlen1 => ?_;refine Qc y2 1 fun hlen2 => ?_;refine BxT fun g1 => ?_;have hf := Ri (cy.eq_1 d1);refine Kh hf fun hc1 hf => ?_;have hdl := oY hc1;refine Sy Tz (ut (X := y1) (l := d1.safe) sQ und_5 und_9 rfl rfl Zf Mm) ?_;refine Ck (ir d1.safe 60 Zc) fun x1 => ?_;refine Pm NRec x1 (ae d1.safe 60).1 104 fun hlen3 => ?_;exact Ru
variable {d : Disk}
theorem pZ (h : cy d = 0) : d.safe.length ≤ 60000 ∧ d.safe.length + d.wait.length ≤ 60000 := by
 unfold cy at h;generalize hb : (decide ((d.safe.length : Int) > 60000) || decide ((d.wait.length : Int) > (60000 - (d.safe.length : Int)))) = b at h;cases b with
 | true => simp at h
 | false => exact oY hb
theorem xN (r : Rec) : (bD r).1.length ≤ 159 := by rw [uR]; exact wU r
def bB (d1 : Disk) (r1 : Rec) : Disk × Int :=
 (bif ((bD r1).2 != 0) then ((⟨[], []⟩ : Disk), (bD r1).2) else (bif decide (((((d1.safe.length : Int) + (d1.wait.length : Int)) + ((bD r1).1.length : Int)) + 1) > 60000) then ((⟨[], []⟩ : Disk), 2) else ((⟨d1.safe, ([d1.wait, ((bD r1).1 ++ ([10] : Str))].flatten)⟩ : Disk), 0)))
theorem oo (y1 : SlV) (y2 : SlV) (d1 : Disk) (y3 : SlV) (r1 : Rec) (hdl : d1.safe.length ≤ 60000 ∧ d1.safe.length + d1.wait.length ≤ 60000) : Dw 51 [.agg ⟨cK y1 y2 d1⟩, .agg ⟨cR y3 r1⟩] [RdL EByte y1 d1.safe, RdL EByte y2 d1.wait, RdL EInt y3 r1.roots, LibP Tryz.prog] (fun (X : SlV × SlV) => .tuple #[.agg ⟨cK X.1 X.2 (bB d1 r1).1⟩, .int .i64 (bB d1 r1).2]) (fun X => [RdL EByte X.1 (bB d1 r1).1.safe, RdL EByte X.2 (bB d1 r1).1.wait]) := by
 refine Dp Tryz.func51 fun C => ?_;refine Qc y1 1 fun hlen1 => ?_;refine Qc y2 1 fun hlen2 => ?_;refine Qc y3 8 fun hlen3 => ?_;refine BxT fun g1 => ?_;refine BxT fun g2 => ?_;refine AlT fun g3 => ?_;refine Ck (mL y3 r1) fun _ => ?_;have hpl := xN r1; have h10 : ([10] : Str).length = 1 := rfl;have hf := Ri (bB.eq_1 d1 r1);refine Cn hf (fun hc1 hc1p hf => ?_) fun hc1 hc1p hf => ?_
 ·refine Tx ?_;refine Fc EByte ?_;refine Rx ?_; exact Rr ⟨Z0, Z0⟩
 ·refine Sy Tz (oI (a := (bD r1).1) rfl rfl Zf und_9) ?_;refine Cp hf (fun hc2 hc2p hf => ?_) fun hc2 hc2p hf => ?_
  ·refine Tx ?_;refine Fc EByte ?_;refine Rx ?_; exact Rr ⟨Z0, Z0⟩
  ·refine Rg [(10,some [g3])] ?_;refine Dx [0,1,2,3,4] ?_;refine Rb 5 rfl (z8 (a := (bD r1).1) (b := ([10] : Str)) rfl rfl Zf rfl Zf Zo) ?_;refine Rn 6 ?_;refine zR (l := ((bD r1).1 ++ ([10] : Str))) (.an rfl rfl) (au rfl) rfl rfl und_9 sQ und_5 rfl rfl rfl (by (try simp only [Ln]); omega) fun x1 => ?_;refine Rn 7 ?_;refine Bl NBytes.E [(y2, d1.wait), (x1, ((bD r1).1 ++ ([10] : Str)))] fun x2 x2b => ?_;refine Rn 8 ?_;refine Fx x2 ?_;refine Ns NBytes x2 [d1.wait, ((bD r1).1 ++ ([10] : Str))] ?_;refine Cm (dJ x2 [d1.wait, ((bD r1).1 ++ ([10] : Str))] (by simp only [Lf, List.length_take]; omega)) fun x3 => ?_;refine Ra 9 rfl Qp ?_;refine Rn 10 ?_;refine Wa ?_;refine Ra 11 rfl Qp ?_;refine Re0 ?_;(repeat refine er ?_);refine Fz x3.1 ?_;refine Rx ?_; exact Rr ⟨y1, x3.1⟩
def cX (d1 : Disk) : Disk × Int :=
 (bif ((cy (⟨([d1.safe, d1.wait].flatten), ([] : List UInt8)⟩ : Disk)) != 0) then ((⟨[], []⟩ : Disk), (cy (⟨([d1.safe, d1.wait].flatten), ([] : List UInt8)⟩ : Disk))) else ((⟨([d1.safe, d1.wait].flatten), ([] : List UInt8)⟩ : Disk), 0))
theorem np (y1 : SlV) (y2 : SlV) (d1 : Disk) (hdl : d1.safe.length ≤ 60000 ∧ d1.safe.length + d1.wait.length ≤ 60000) : Dw 52 [.agg ⟨cK y1 y2 d1⟩] [RdL EByte y1 d1.safe, RdL EByte y2 d1.wait, LibP Tryz.prog] (fun (X : SlV × SlV) => .tuple #[.agg ⟨cK X.1 X.2 (cX d1).1⟩, .int .i64 (cX d1).2]) (fun X => [RdL EByte X.1 (cX d1).1.safe, RdL EByte X.2 (cX d1).1.wait]) := by
 refine Dp Tryz.func52 fun C => ?_;refine Qc y1 1 fun hlen1 => ?_;refine Qc y2 1 fun hlen2 => ?_;refine BxT fun g1 => ?_;refine AlT fun g2 => ?_;refine Bl NBytes.E [(y1, d1.safe), (y2, d1.wait)] fun x1 x1b => ?_;refine Fx x1 ?_;refine Ns NBytes x1 [d1.safe, d1.wait] ?_;refine Cm (dJ x1 [d1.safe, d1.wait] (by simp only [Lf, List.length_take]; omega)) fun x2 => ?_;refine Tx ?_;refine Fr EByte ?_;refine nj (jr x2.1 Z0 (⟨([d1.safe, d1.wait].flatten), ([] : List UInt8)⟩ : Disk)) .sq (au rfl) rfl rfl rfl Kr rfl rfl (.own Mm (.fact Mm (.fact Mm (.nil _ _)))) ?_;intro _;have hf := Ri (cX.eq_1 d1);refine Cn hf (fun hc1 hc1p hf => ?_) fun hc1 hc1p hf => ?_
 ·refine Rx ?_; exact Rr ⟨Z0, Z0⟩
 ·refine Tx ?_;refine Fz x2.1 ?_;refine Rx ?_; exact Rr ⟨x2.1, Z0⟩
def aC (d1 : Disk) : Disk × (List Rec) :=
 ((⟨([d1.safe, (d1.wait.take (ae d1.wait (60 - ((ae d1.safe 60).1.length : Int))).2.1.toNat)].flatten), ([] : List UInt8)⟩ : Disk), ([(ae d1.safe 60).1, (ae d1.wait (60 - ((ae d1.safe 60).1.length : Int))).1].flatten))
theorem gK (y1 : SlV) (y2 : SlV) (d1 : Disk) (hdl : d1.safe.length ≤ 60000 ∧ d1.safe.length + d1.wait.length ≤ 60000) : Dw 27 [.agg ⟨cK y1 y2 d1⟩] [RdL EByte y1 d1.safe, RdL EByte y2 d1.wait, LibP Tryz.prog] (fun (X : SlV × SlV × SlV) => .tuple #[.agg ⟨cK X.1 X.2.1 (aC d1).1⟩, X.2.2.val (aC d1).2.length]) (fun X => [RdL EByte X.1 (aC d1).1.safe, RdL EByte X.2.1 (aC d1).1.wait, RdN NRec X.2.2 (aC d1).2]) := by
 refine Dp Tryz.func27 fun C => ?_;refine Qc y1 1 fun hlen1 => ?_;refine Qc y2 1 fun hlen2 => ?_;refine BxT fun g1 => ?_;refine AlT fun g2 => ?_;refine Sy Tz (ut (X := y1) (l := d1.safe) sQ und_5 und_9 rfl rfl Zf Mm) ?_;refine Ck (ir d1.safe 60 Zc) fun x1 => ?_;refine Pm NRec x1 (ae d1.safe 60).1 104 fun hlen3 => ?_;have hl1 := uD (s := d1.safe) (most := 60) (by omega) (by decide); have hm1 := rX (s := d1.safe) (most := 60) (by omega) (by decide);refine Sy Tz (ut (X := y2) (l := d1.wait) sQ und_5 und_9 rfl rfl Zf Mm) ?_;refine Ck (ir d1.wait (60 - ((ae d1.safe 60).1.length : Int)) Zc) fun x2 => ?_;refine Pm NRec x2 (ae d1.wait (60 - ((ae d1.safe 60).1.length : Int))).1 104 fun hlen4 => ?_;have hl2 := uD (s := d1.wait) (most := 60 - ((ae d1.safe 60).1.length : Int)) (by omega) (by omega);refine Tx ?_
 refine Jn (SlV × SlV × Option Nat) [2] [false, true] (fun ⟨x3, x4, b1⟩ => ⟨[(3, .v (x3.val ([(ae d1.safe 60).1, (ae d1.wait (60 - ((ae d1.safe 60).1.length : Int))).1].flatten).length))], [⟨g2, 33, [x4.val ([d1.safe, (d1.wait.take (ae d1.wait (60 - ((ae d1.safe 60).1.length : Int))).2.1.toNat)].flatten).length, .slice none 0 0]⟩], [ownL EByte 5 x4 b1 ([d1.safe, (d1.wait.take (ae d1.wait (60 - ((ae d1.safe 60).1.length : Int))).2.1.toNat)].flatten)], [RdN NRec x3 ([(ae d1.safe 60).1, (ae d1.wait (60 - ((ae d1.safe 60).1.length : Int))).1].flatten)], True, 0⟩) ?_ ?_
 ·refine Rg [(13,some [g2])] ?_;refine Dx [0,1,2,3,4] ?_;refine Rb 5 rfl (z6 EByte (ae d1.wait (60 - ((ae d1.safe 60).1.length : Int))).2.1.toNat rfl rfl Zf rfl Zf rfl rfl Mm Zo Zo) ?_;refine iq (F := RdL EByte y2 (d1.wait.take (ae d1.wait (60 - ((ae d1.safe 60).1.length : Int))).2.1.toNat)) [RdL EByte y2 d1.wait] Sm (fun M w h => (allF1 h).take _) ?_;refine Dx [9,10] ?_;refine Rw 6 11 ?_ ?_
  ·refine Bl NBytes.E [(y1, d1.safe), (y2, (d1.wait.take (ae d1.wait (60 - ((ae d1.safe 60).1.length : Int))).2.1.toNat))] fun x5 x5b => ?_;refine Rw 7 11 ?_ ?_
   ·refine Fx x5 ?_;refine Ns NBytes x5 [d1.safe, (d1.wait.take (ae d1.wait (60 - ((ae d1.safe 60).1.length : Int))).2.1.toNat)] ?_;refine Cm (dJ x5 [d1.safe, (d1.wait.take (ae d1.wait (60 - ((ae d1.safe 60).1.length : Int))).2.1.toNat)] (by simp only [Lf, List.length_take]; omega)) fun x6 => ?_;refine Ra 8 rfl Qp ?_;refine Rn 11 ?_;refine Bl NRecs.E [(x1, (ae d1.safe 60).1), (x2, (ae d1.wait (60 - ((ae d1.safe 60).1.length : Int))).1)] fun x7 x7b => ?_;refine Rn 12 ?_;refine Fx x7 ?_;refine Ns NRecs x7 [(ae d1.safe 60).1, (ae d1.wait (60 - ((ae d1.safe 60).1.length : Int))).1] ?_;refine Cm (iB x7 [(ae d1.safe 60).1, (ae d1.wait (60 - ((ae d1.safe 60).1.length : Int))).1] (by simp only [Lf]; omega)) fun x8 => ?_;refine Fx x8.1 ?_;refine Fk NRec x8.1 x8.2.2 ([(ae d1.safe 60).1, (ae d1.wait (60 - ((ae d1.safe 60).1.length : Int))).1].flatten) ?_;refine Rn 13 ?_;refine Wa ?_;refine Ra 14 rfl Qp ?_;refine Re0 ?_;refine ⟨⟨x8.1, x6.1, x6.2⟩, trivial, Le4⟩
   ·refine Bl NRecs.E [(x1, (ae d1.safe 60).1), (x2, (ae d1.wait (60 - ((ae d1.safe 60).1.length : Int))).1)] fun x9 x9b => ?_;refine Rn 7 ?_;refine Fx x5 ?_;refine Ns NBytes x5 [d1.safe, (d1.wait.take (ae d1.wait (60 - ((ae d1.safe 60).1.length : Int))).2.1.toNat)] ?_;refine Cm (dJ x5 [d1.safe, (d1.wait.take (ae d1.wait (60 - ((ae d1.safe 60).1.length : Int))).2.1.toNat)] (by simp only [Lf, List.length_take]; omega)) fun x10 => ?_;refine Ra 8 rfl Qp ?_;refine Rn 12 ?_;refine Fx x9 ?_;refine Ns NRecs x9 [(ae d1.safe 60).1, (ae d1.wait (60 - ((ae d1.safe 60).1.length : Int))).1] ?_;refine Cm (iB x9 [(ae d1.safe 60).1, (ae d1.wait (60 - ((ae d1.safe 60).1.length : Int))).1] (by simp only [Lf]; omega)) fun x11 => ?_;refine Fx x11.1 ?_;refine Fk NRec x11.1 x11.2.2 ([(ae d1.safe 60).1, (ae d1.wait (60 - ((ae d1.safe 60).1.length : Int))).1].flatten) ?_;refine Rn 13 ?_;refine Wa ?_;refine Ra 14 rfl Qp ?_;refine Re0 ?_;refine ⟨⟨x11.1, x10.1, x10.2⟩, trivial, Le4⟩
  ·refine Bl NRecs.E [(x1, (ae d1.safe 60).1), (x2, (ae d1.wait (60 - ((ae d1.safe 60).1.length : Int))).1)] fun x12 x12b => ?_;refine Rn 6 ?_;refine Bl NBytes.E [(y1, d1.safe), (y2, (d1.wait.take (ae d1.wait (60 - ((ae d1.safe 60).1.length : Int))).2.1.toNat))] fun x13 x13b => ?_;refine Rn 7 ?_;refine Fx x13 ?_;refine Ns NBytes x13 [d1.safe, (d1.wait.take (ae d1.wait (60 - ((ae d1.safe 60).1.length : Int))).2.1.toNat)] ?_;refine Cm (dJ x13 [d1.safe, (d1.wait.take (ae d1.wait (60 - ((ae d1.safe 60).1.length : Int))).2.1.toNat)] (by simp only [Lf, List.length_take]; omega)) fun x14 => ?_;refine Ra 8 rfl Qp ?_;refine Rn 12 ?_;refine Fx x12 ?_;refine Ns NRecs x12 [(ae d1.safe 60).1, (ae d1.wait (60 - ((ae d1.safe 60).1.length : Int))).1] ?_;refine Cm (iB x12 [(ae d1.safe 60).1, (ae d1.wait (60 - ((ae d1.safe 60).1.length : Int))).1] (by simp only [Lf]; omega)) fun x15 => ?_;refine Fx x15.1 ?_;refine Fk NRec x15.1 x15.2.2 ([(ae d1.safe 60).1, (ae d1.wait (60 - ((ae d1.safe 60).1.length : Int))).1].flatten) ?_;refine Rn 13 ?_;refine Wa ?_;refine Ra 14 rfl Qp ?_;refine Re0 ?_;refine ⟨⟨x15.1, x14.1, x14.2⟩, trivial, Le4⟩
 ·rintro ⟨x3, x4, b1⟩ -;simp only [Lc];(repeat refine er ?_);refine Fz x4 ?_;refine Fc EByte ?_;have hf := Ri (aC.eq_1 d1);refine Rx ?_; exact Rr ⟨x4, Z0, x3⟩
def bV  : List Client → Nat → Int
 | [], n1 => 0
 | pn1 :: rn1, n1 => (bif ((bx pn1 (n1 : Int)) != 0) then (bx pn1 (n1 : Int)) else (bV rn1 (n1 + 1)))
def cI (w1 : Wld) : Int :=
 (bif ((w1.c.length : Int) != 3) then 4 else (bif ((ci w1.mail) != 0) then (ci w1.mail) else (bif ((cy w1.d) != 0) then (cy w1.d) else (bif w1.up then (bif decide ((w1.d.wait.length : Int) > 0) then 4 else (bif ((bv (aC w1.d).2).2 != 0) then (bv (aC w1.d).2).2 else (bif (!(eD (bv (aC w1.d).2).1 w1.h)) then 4 else (bV w1.c 0)))) else (bif ((bv ([] : List Rec)).2 != 0) then (bv ([] : List Rec)).2 else (bif (!(eD (bv ([] : List Rec)).1 w1.h)) then 4 else (bV w1.c 0)))))))
theorem lF (y1 : SlV) (y2 : SlV) (y3 : SlV) (y4 : SlV) (y5 : SlV) (y6 : SlV) (y7 : SlV) (w1 : Wld) : Du 8 [.agg ⟨cW y1 y2 y3 y4 y5 y6 y7 w1⟩] [RdL EStep y1 w1.h.h.l, RdL EPlace y2 w1.h.h.t, RdN NPeer y3 w1.h.peers, RdL EByte y4 w1.d.safe, RdL EByte y5 w1.d.wait, RdN NClient y6 w1.c, RdN NMail y7 w1.mail, LibP Tryz.prog] (.int .i64 (cI w1)) := by
 refine Dp Tryz.func8 fun C => ?_;refine Qc y1 88 fun hlen1 => ?_;refine Qc y2 24 fun hlen2 => ?_;refine Qn y3 40 fun hlen3 => ?_;refine Qc y4 1 fun hlen4 => ?_;refine Qc y5 1 fun hlen5 => ?_;refine Qn y6 128 fun hlen6 => ?_;refine Qn y7 280 fun hlen7 => ?_;refine BxT fun g1 => ?_;have hf := Ri (cI.eq_1 w1);refine Kn hf fun hc1 hc1p hf => ?_;refine Ck (jq y7 w1.mail) fun _ => ?_;generalize hS1 : (ci w1.mail) = S1;try rw [hS1] at hf
 refine Kn hf fun hc2 hc2p hf => ?_;refine Ck (jr y4 y5 w1.d) fun _ => ?_;refine Kn hf fun hc3 hc3p hf => ?_;have hdl := pZ (ag hc3);refine Ch hf (fun hc4 hf => ?_) fun hc4 hf => ?_
 ·refine Kp hf fun hc5 hc5p hf => ?_;refine Ck (gK y4 y5 w1.d hdl) fun x1 => ?_;refine Ck (gH x1.2.2 (aC w1.d).2) fun x2 => ?_;generalize hS2 : (bv (aC w1.d).2) = S2;try rw [hS2] at hf
  refine AlT fun g2 => ?_;refine Kn hf fun hc6 hc6p hf => ?_;refine Ck (it x2.1 x2.2.1 x2.2.2 S2.1 y1 y2 y3 w1.h) fun _ => ?_;generalize hS3 : (eD S2.1 w1.h) = S3;try rw [hS3] at hf
  refine Kh hf fun hc7 hf => ?_;refine Lq Nat [2,54,55] [true, true] (fun n1 => ⟨[(56, .v (.int .i64 (n1 : Int)))], [], [], [], (n1 ≤ w1.c.length) ∧ (bV (w1.c.drop n1) n1) = (cI w1), w1.c.length - n1⟩) 0 ⟨N0, hf.symm⟩ ?_;rintro n1 ⟨hkn1, hf1⟩;simp only [Lc];refine Cu (fun hlt0 => ?_) fun hge0 => ?_
  ·refine Tx ?_;refine Ex NClient y6 fun (γ1 : Nat → SlV × SlV × SlV × SlV) => ?_;refine Sq (Xn n1) ?_;refine Sq (Xe (cC (γ1 n1).1 (γ1 n1).2.1 (γ1 n1).2.2.1 (γ1 n1).2.2.2 (gt w1.c n1))) ?_;refine Gg NClient γ1 n1 0 ?_;refine Gg NClient γ1 n1 1 ?_;refine Gg NClient γ1 n1 2 ?_;refine Gg NClient γ1 n1 3 ?_;refine AlT fun g3 => ?_;refine Ck (fr (γ1 n1).1 (γ1 n1).2.1 (γ1 n1).2.2.1 (γ1 n1).2.2.2 (gt w1.c n1) (n1 : Int)) fun _ => ?_;generalize hS4 : (bx (gt w1.c n1) (n1 : Int)) = S4;have hf := Ri hf1.symm;rw [aK hlt0, bV] at hf;try rw [hS4] at hf
   refine Kn hf fun hc9 hc9p hf => ?_;refine Tt ?_;refine ⟨(n1 + 1), ⟨hlt0, hf.symm⟩, Oo, Le4⟩
  ·have hf := Ri hf1.symm;rw [Dl hge0, bV] at hf;exact Ru
 ·refine Tx ?_;refine Fm NRec ?_;refine Ck (gH Z0 ([] : List Rec)) fun x3 => ?_;generalize hS5 : (bv ([] : List Rec)) = S5;try rw [hS5] at hf
  refine AlT fun g4 => ?_;refine Kn hf fun hc10 hc10p hf => ?_;refine Ck (it x3.1 x3.2.1 x3.2.2 S5.1 y1 y2 y3 w1.h) fun _ => ?_;generalize hS6 : (eD S5.1 w1.h) = S6;try rw [hS6] at hf
  refine Kh hf fun hc11 hf => ?_;refine Lq Nat [2,54,55] [true, true] (fun n2 => ⟨[(56, .v (.int .i64 (n2 : Int)))], [], [], [], (n2 ≤ w1.c.length) ∧ (bV (w1.c.drop n2) n2) = (cI w1), w1.c.length - n2⟩) 0 ⟨N0, hf.symm⟩ ?_;rintro n2 ⟨hkn2, hf2⟩;simp only [Lc];refine Cu (fun hlt0 => ?_) fun hge0 => ?_
  ·refine Tx ?_;refine Ex NClient y6 fun (γ2 : Nat → SlV × SlV × SlV × SlV) => ?_;refine Sq (Xn n2) ?_;refine Sq (Xe (cC (γ2 n2).1 (γ2 n2).2.1 (γ2 n2).2.2.1 (γ2 n2).2.2.2 (gt w1.c n2))) ?_;refine Gg NClient γ2 n2 0 ?_;refine Gg NClient γ2 n2 1 ?_;refine Gg NClient γ2 n2 2 ?_;refine Gg NClient γ2 n2 3 ?_;refine AlT fun g5 => ?_;refine Ck (fr (γ2 n2).1 (γ2 n2).2.1 (γ2 n2).2.2.1 (γ2 n2).2.2.2 (gt w1.c n2) (n2 : Int)) fun _ => ?_;generalize hS7 : (bx (gt w1.c n2) (n2 : Int)) = S7;have hf := Ri hf2.symm;rw [aK hlt0, bV] at hf;try rw [hS7] at hf
   refine Kn hf fun hc13 hc13p hf => ?_;refine Tt ?_;refine ⟨(n2 + 1), ⟨hlt0, hf.symm⟩, Oo, Le4⟩
  ·have hf := Ri hf2.symm;rw [Dl hge0, bV] at hf;exact Ru
def bL (w1 : Wld) (r1 : Rec) : Int × Wld :=
 (bif ((hJ w1.h r1).2 != 0) then ((hJ w1.h r1).2, w1) else (bif ((fJ w1.d r1).2 != 0) then ((fJ w1.d r1).2, w1) else (bif ((f8 (fJ w1.d r1).1).2 != 0) then ((f8 (fJ w1.d r1).1).2, w1) else (0, (⟨(hJ w1.h r1).1, (f8 (fJ w1.d r1).1).1, w1.up, w1.c, w1.mail⟩ : Wld)))))
theorem kR (c1 : Nat) (y1 : SlV) (y2 : SlV) (y3 : SlV) (y4 : SlV) (y5 : SlV) (y6 : SlV) (y6b : Option Nat) (γ1 : Nat → SlV × SlV × SlV × SlV) (y7 : SlV) (w1 : Wld) (y8 : SlV) (r1 : Rec) : Dv 135 [.pointer (some ⟨c1, 0, none⟩), .agg ⟨cR y8 r1⟩] [RdL EStep y1 w1.h.h.l, RdL EPlace y2 w1.h.h.t, RdN NPeer y3 w1.h.peers, RdL EByte y4 w1.d.safe, RdL EByte y5 w1.d.wait, FactsG NClient γ1 w1.c, RdN NMail y7 w1.mail, RdL EInt y8 r1.roots, LibP Tryz.prog] ⟨[⟨c1, 37, cW y1 y2 y3 y4 y5 y6 y7 w1⟩], [ownL NClient.E 63 y6 y6b (zipG γ1 0 w1.c)]⟩ (fun (X : SlV × SlV × SlV × SlV × SlV × SlV × Option Nat × (Nat → SlV × SlV × SlV × SlV) × SlV) => .int .i64 (bL w1 r1).1) (fun X => [RdL EStep X.1 (bL w1 r1).2.h.h.l, RdL EPlace X.2.1 (bL w1 r1).2.h.h.t, RdN NPeer X.2.2.1 (bL w1 r1).2.h.peers, RdL EByte X.2.2.2.1 (bL w1 r1).2.d.safe, RdL EByte X.2.2.2.2.1 (bL w1 r1).2.d.wait, FactsG NClient X.2.2.2.2.2.2.2.1 (bL w1 r1).2.c, RdN NMail X.2.2.2.2.2.2.2.2 (bL w1 r1).2.mail]) (fun X => ⟨[⟨c1, 37, cW X.1 X.2.1 X.2.2.1 X.2.2.2.1 X.2.2.2.2.1 X.2.2.2.2.2.1 X.2.2.2.2.2.2.2.2 (bL w1 r1).2⟩], [ownL NClient.E 63 X.2.2.2.2.2.1 X.2.2.2.2.2.2.1 (zipG X.2.2.2.2.2.2.2.1 0 (bL w1 r1).2.c)]⟩) := by
 refine Dq Tryz.func135 fun C => ?_;refine Qc y8 8 fun hlen1 => ?_;refine BxT fun g1 => ?_;refine Tx ?_;refine Jn (Nat × SlV × SlV × SlV) [0, 3, 4] [true, true] (fun ⟨g2, x1, x2, x3⟩ => ⟨[(5, .v (.pointer (some ⟨g2, 0, none⟩))), (6, .v (.int .i64 (hJ w1.h r1).2))], [⟨g2, 30, cB x1 x2 x3 (hJ w1.h r1).1⟩], [ownL NClient.E 63 y6 y6b (zipG γ1 0 w1.c)], [RdL EStep x1 (hJ w1.h r1).1.h.l, RdL EPlace x2 (hJ w1.h r1).1.h.t, RdN NPeer x3 (hJ w1.h r1).1.peers], True, 0⟩) ?_ ?_
 ·refine Rg [(10,none)] ?_;refine Dx [0,1,2,3,4] ?_;refine Rw 5 9 ?_ ?_
  ·refine Ck (qO y1 y2 y3 w1.h y8 r1) fun x4 => ?_;refine Dx [6,7] ?_;refine Rp' (Fa 8 [9,10]) ?_;refine Rn 9 ?_;refine AlT fun g3 => ?_;refine Rn 10 ?_;refine Wa ?_;refine Ra 11 rfl Qp ?_;refine Re0 ?_;refine ⟨⟨g3, x4.1, x4.2.1, x4.2.2⟩, trivial, Le4⟩
  ·refine AlT fun g4 => ?_;refine Rn 5 ?_;refine Ck (qO y1 y2 y3 w1.h y8 r1) fun x5 => ?_;refine Dx [6,7] ?_;refine Rp' (Fa 8 [10]) ?_;refine Rn 10 ?_;refine Wa ?_;refine Ra 11 rfl Qp ?_;refine Re0 ?_;refine ⟨⟨g4, x5.1, x5.2.1, x5.2.2⟩, trivial, Le4⟩
 ·rintro ⟨g2, x1, x2, x3⟩ -;simp only [Lc];have hf := Ri (bL.eq_1 w1 r1);refine Cn hf (fun hc1 hc1p hf => ?_) fun hc1 hc1p hf => ?_
  ·refine Rx ?_; exact Rr ⟨y1, y2, y3, y4, y5, y6, y6b, γ1, y7⟩
  ·refine Tx ?_;refine Jn (Nat × SlV × SlV) [0, 4, 5] [true, true, true] (fun ⟨g5, x6, x7⟩ => ⟨[(6, .v (.int .i64 (fJ w1.d r1).2)), (7, .v (.pointer (some ⟨g5, 0, none⟩)))], [⟨g5, 33, cK x6 x7 (fJ w1.d r1).1⟩], [ownL NClient.E 63 y6 y6b (zipG γ1 0 w1.c)], [RdL EByte x6 (fJ w1.d r1).1.safe, RdL EByte x7 (fJ w1.d r1).1.wait], True, 0⟩) ?_ ?_
   ·refine Rg [(10,none)] ?_;refine Dx [0,1,2,3,4] ?_;refine Rw 5 9 ?_ ?_
    ·refine Ck (qV y4 y5 w1.d y8 r1) fun x8 => ?_;refine Dx [6,7] ?_;refine Rp' (Fa 8 [9,10]) ?_;refine Rn 9 ?_;refine AlT fun g6 => ?_;refine Rn 10 ?_;refine Wa ?_;refine Ra 11 rfl Qp ?_;refine Re0 ?_;refine ⟨⟨g6, x8.1, x8.2⟩, trivial, Le4⟩
    ·refine AlT fun g7 => ?_;refine Rn 5 ?_;refine Ck (qV y4 y5 w1.d y8 r1) fun x9 => ?_;refine Dx [6,7] ?_;refine Rp' (Fa 8 [10]) ?_;refine Rn 10 ?_;refine Wa ?_;refine Ra 11 rfl Qp ?_;refine Re0 ?_;refine ⟨⟨g7, x9.1, x9.2⟩, trivial, Le4⟩
   ·rintro ⟨g5, x6, x7⟩ -;simp only [Lc];refine Cn hf (fun hc2 hc2p hf => ?_) fun hc2 hc2p hf => ?_
    ·refine Rx ?_; exact Rr ⟨y1, y2, y3, y4, y5, y6, y6b, γ1, y7⟩
    ·refine Ck (ud x6 x7 (fJ w1.d r1).1) fun x10 => ?_;generalize hS1 : (f8 (fJ w1.d r1).1) = S1;try rw [hS1] at hf
     refine Cn hf (fun hc3 hc3p hf => ?_) fun hc3 hc3p hf => ?_
     ·refine Rx ?_; exact Rr ⟨y1, y2, y3, y4, y5, y6, y6b, γ1, y7⟩
     ·refine Rg [(6,none),(9,none)] ?_;refine Ra 0 rfl Qp ?_;refine Rp' (Fa 1 [2,3,4,5,6]) ?_;refine Dx [2,4,5] ?_;refine Rw 3 6 ?_ ?_
      ·refine pO rfl rfl rfl rfl (q_ldA rfl rfl Zf rfl Mm rfl) ?_;refine Rn 6 ?_;refine Wp ?_;refine Dx [7,8] ?_;refine Rn 9 ?_;refine Wp ?_;refine Re0 ?_;refine Rx ?_; exact Rr ⟨x1, x2, x3, x10.1, x10.2, y6, y6b, γ1, y7⟩
      ·refine Wp ?_;refine Dx [3,7,8] ?_;refine Rn 9 ?_;refine Wp ?_;refine Re0 ?_;refine Rx ?_; exact Rr ⟨x1, x2, x3, x10.1, x10.2, y6, y6b, γ1, y7⟩
def dP (w1 : Wld) (m1 : Mail) : Wld :=
 (bif ((jD w1.mail m1).2 == 0) then (⟨w1.h, w1.d, w1.up, w1.c, (jD w1.mail m1).1⟩ : Wld) else w1)
theorem jW (c1 : Nat) (y1 : SlV) (y2 : SlV) (y3 : SlV) (y4 : SlV) (y5 : SlV) (y6 : SlV) (y6b : Option Nat) (γ1 : Nat → SlV × SlV × SlV × SlV) (y7 : SlV) (w1 : Wld) (y8 : SlV) (y9 : SlV) (y10 : SlV) (y11 : SlV) (y12 : SlV) (y13 : SlV) (y14 : SlV) (m1 : Mail) : Dv 138 [.pointer (some ⟨c1, 0, none⟩), .agg ⟨cM y8 y9 y10 y11 y12 y13 y14 m1⟩] [RdL EStep y1 w1.h.h.l, RdL EPlace y2 w1.h.h.t, RdN NPeer y3 w1.h.peers, RdL EByte y4 w1.d.safe, RdL EByte y5 w1.d.wait, FactsG NClient γ1 w1.c, RdN NMail y7 w1.mail, RdL EInt y8 m1.v.roots, RdL EPlace y9 m1.v.known, RdL EPlace y10 m1.v.way, RdL EInt y11 m1.d.gone, RdL EPlace y12 m1.d.here, RdL EInt y13 m1.d.wayGone, RdL EPlace y14 m1.d.wayHere, LibP Tryz.prog] ⟨[⟨c1, 37, cW y1 y2 y3 y4 y5 y6 y7 w1⟩], [ownL NClient.E 63 y6 y6b (zipG γ1 0 w1.c)]⟩ (fun (X : SlV × SlV × SlV × SlV × SlV × SlV × Option Nat × (Nat → SlV × SlV × SlV × SlV) × SlV) => .tuple #[]) (fun X => [RdL EStep X.1 (dP w1 m1).h.h.l, RdL EPlace X.2.1 (dP w1 m1).h.h.t, RdN NPeer X.2.2.1 (dP w1 m1).h.peers, RdL EByte X.2.2.2.1 (dP w1 m1).d.safe, RdL EByte X.2.2.2.2.1 (dP w1 m1).d.wait, FactsG NClient X.2.2.2.2.2.2.2.1 (dP w1 m1).c, RdN NMail X.2.2.2.2.2.2.2.2 (dP w1 m1).mail]) (fun X => ⟨[⟨c1, 37, cW X.1 X.2.1 X.2.2.1 X.2.2.2.1 X.2.2.2.2.1 X.2.2.2.2.2.1 X.2.2.2.2.2.2.2.2 (dP w1 m1)⟩], [ownL NClient.E 63 X.2.2.2.2.2.1 X.2.2.2.2.2.2.1 (zipG X.2.2.2.2.2.2.2.1 0 (dP w1 m1).c)]⟩) := by
 refine Dq Tryz.func138 fun C => ?_;refine Qc y8 8 fun hlen1 => ?_;refine Qc y9 24 fun hlen2 => ?_;refine Qc y10 24 fun hlen3 => ?_;refine Qc y11 8 fun hlen4 => ?_;refine Qc y12 24 fun hlen5 => ?_;refine Qc y13 8 fun hlen6 => ?_;refine Qc y14 24 fun hlen7 => ?_;refine BxT fun g1 => ?_;refine eF ?_;refine Rg [] ?_;refine Dx [0,1,2,3,4] ?_;refine Rn 5 ?_;refine Ck (u5 y7 w1.mail y8 y9 y10 y11 y12 y13 y14 m1) fun x1 => ?_;refine Dx [6,7,8,9,10] ?_;refine Re0 ?_;have hf := Ri (dP.eq_1 w1 m1);refine Ce hf (fun hc1 hc1p hf => ?_) fun hc1 hc1p hf => ?_
 ·refine Tx ?_;rw [hf.to];exact ⟨⟨y1, y2, y3, y4, y5, y6, y6b, γ1, x1⟩, _, .nil, rfl, Sm, Sp, Sp⟩
 ·refine Tx ?_;rw [hf.to];exact ⟨⟨y1, y2, y3, y4, y5, y6, y6b, γ1, y7⟩, _, .nil, rfl, Sm, Sp, Sp⟩
def fu (h1 : Hub) : Int :=
 (bif decide ((h1.h.l.length : Int) > 0) then (gt h1.h.l (h1.h.l.length - 1)).o.time else 0)
theorem nx (y1 : SlV) (y2 : SlV) (y3 : SlV) (h1 : Hub) : Du 181 [.agg ⟨cB y1 y2 y3 h1⟩] [RdL EStep y1 h1.h.l, RdL EPlace y2 h1.h.t, RdN NPeer y3 h1.peers] (.int .i64 (fu h1)) := by
 refine Dp Tryz.func181 fun C => ?_;refine Qc y1 88 fun hlen1 => ?_;refine Qc y2 24 fun hlen2 => ?_;refine Qn y3 40 fun hlen3 => ?_;refine BxT fun g1 => ?_;have hf := Ri (fu.eq_1 h1);refine Cp hf (fun hc1 hc1p hf => ?_) fun hc1 hc1p hf => ?_
 ·refine Sy Tz (Xi (h1.h.l.length - 1)) ?_;refine Sq Xf ?_;refine Sq Xf ?_;refine Sq Xf ?_;refine Sq X1 ?_;exact Ru
 ·exact Ru
def fj (w1 : Wld) (x1 : Happening) : Int × Wld :=
 (bif ((bZ w1.h x1.who).2 != 0) then ((bZ w1.h x1.who).2, w1) else (bif ((gt w1.h.peers x1.who.toNat).life == 0) then (7, w1) else (bif (x1.kind == 4) then (bif (decide (x1.n < 0) || decide (x1.n ≥ w1.h.version)) then (3, w1) else (bif ((az w1.d).2.2 != 0) then ((az w1.d).2.2, w1) else (bif ((aF ((az w1.d).2.1.take x1.n.toNat)).2 != 0) then ((aF ((az w1.d).2.1.take x1.n.toNat)).2, w1) else (bif (((gt (aF ((az w1.d).2.1.take x1.n.toNat)).1.peers x1.who.toNat).life != (gt w1.h.peers x1.who.toNat).life) || (!(decide ((gt (aF ((az w1.d).2.1.take x1.n.toNat)).1.peers x1.who.toNat).roots = (gt w1.h.peers x1.who.toNat).roots)))) then (7, w1) else (bif ((bZ (aF ((az w1.d).2.1.take x1.n.toNat)).1 x1.who).2 != 0) then ((bZ (aF ((az w1.d).2.1.take x1.n.toNat)).1 x1.who).2, w1) else (bif ((fK (bZ (aF ((az w1.d).2.1.take x1.n.toNat)).1 x1.who).1 (bZ w1.h x1.who).1).2 != 0) then ((fK (bZ (aF ((az w1.d).2.1.take x1.n.toNat)).1 x1.who).1 (bZ w1.h x1.who).1).2, w1) else (0, (dP w1 (⟨3, x1.who, (gt w1.h.peers x1.who.toNat).life, (gt w1.h.peers x1.who.toNat).seq, (fu w1.h), w1.h.version, x1.n, (⟨0, 0, 0, 0, 0, 0, 0⟩ : Op), (⟨[], [], []⟩ : View), (fK (bZ (aF ((az w1.d).2.1.take x1.n.toNat)).1 x1.who).1 (bZ w1.h x1.who).1).1⟩ : Mail))))))))) else (0, (dP w1 (⟨2, x1.who, (gt w1.h.peers x1.who.toNat).life, (gt w1.h.peers x1.who.toNat).seq, (fu w1.h), w1.h.version, 0, (⟨0, 0, 0, 0, 0, 0, 0⟩ : Op), (bZ w1.h x1.who).1, (⟨[], [], [], []⟩ : Delta)⟩ : Mail))))))
theorem sK (c1 : Nat) (y1 : SlV) (y2 : SlV) (y3 : SlV) (y4 : SlV) (y5 : SlV) (y6 : SlV) (y6b : Option Nat) (γ1 : Nat → SlV × SlV × SlV × SlV) (y7 : SlV) (w1 : Wld) (y8 : SlV) (x1 : Happening) (hv : w1.h.version ≤ ((az w1.d).2.1.length : Int)) : Dv 140 [.pointer (some ⟨c1, 0, none⟩), .agg ⟨cA y8 x1⟩] [RdL EStep y1 w1.h.h.l, RdL EPlace y2 w1.h.h.t, RdN NPeer y3 w1.h.peers, RdL EByte y4 w1.d.safe, RdL EByte y5 w1.d.wait, FactsG NClient γ1 w1.c, RdN NMail y7 w1.mail, RdL EInt y8 x1.roots, LibP Tryz.prog] ⟨[⟨c1, 37, cW y1 y2 y3 y4 y5 y6 y7 w1⟩], [ownL NClient.E 63 y6 y6b (zipG γ1 0 w1.c)]⟩ (fun (X : SlV × SlV × SlV × SlV × SlV × SlV × Option Nat × (Nat → SlV × SlV × SlV × SlV) × SlV) => .int .i64 (fj w1 x1).1) (fun X => [RdL EStep X.1 (fj w1 x1).2.h.h.l, RdL EPlace X.2.1 (fj w1 x1).2.h.h.t, RdN NPeer X.2.2.1 (fj w1 x1).2.h.peers, RdL EByte X.2.2.2.1 (fj w1 x1).2.d.safe, RdL EByte X.2.2.2.2.1 (fj w1 x1).2.d.wait, FactsG NClient X.2.2.2.2.2.2.2.1 (fj w1 x1).2.c, RdN NMail X.2.2.2.2.2.2.2.2 (fj w1 x1).2.mail]) (fun X => ⟨[⟨c1, 37, cW X.1 X.2.1 X.2.2.1 X.2.2.2.1 X.2.2.2.2.1 X.2.2.2.2.2.1 X.2.2.2.2.2.2.2.2 (fj w1 x1).2⟩], [ownL NClient.E 63 X.2.2.2.2.2.1 X.2.2.2.2.2.2.1 (zipG X.2.2.2.2.2.2.2.1 0 (fj w1 x1).2.c)]⟩) := by
 refine Dq Tryz.func140 fun C => ?_;refine Qc y8 8 fun hlen1 => ?_;refine BxT fun g1 => ?_;refine Tx ?_;refine Jn (Nat × SlV × SlV × SlV) [0, 3, 4] [true, true] (fun ⟨g2, x2, x3, x4⟩ => ⟨[(5, .v (.pointer (some ⟨g2, 0, none⟩))), (6, .v (.int .i64 (bZ w1.h x1.who).2))], [⟨g2, 61, cV x2 x3 x4 (bZ w1.h x1.who).1⟩], [ownL NClient.E 63 y6 y6b (zipG γ1 0 w1.c)], [RdL EInt x2 (bZ w1.h x1.who).1.roots, RdL EPlace x3 (bZ w1.h x1.who).1.known, RdL EPlace x4 (bZ w1.h x1.who).1.way], True, 0⟩) ?_ ?_
 ·refine Rg [(11,none)] ?_;refine Dx (.range 6) ?_;refine Rw 6 10 ?_ ?_
  ·refine Ck (ny y1 y2 y3 w1.h x1.who) fun x5 => ?_;refine Dx [7,8] ?_;refine Rp' (Fa 9 [10,11]) ?_;refine Rn 10 ?_;refine AlT fun g3 => ?_;refine Rn 11 ?_;refine Wa ?_;refine Ra 12 rfl Qp ?_;refine Re0 ?_;refine ⟨⟨g3, x5.1, x5.2.1, x5.2.2⟩, trivial, Le4⟩
  ·refine AlT fun g4 => ?_;refine Rn 6 ?_;refine Ck (ny y1 y2 y3 w1.h x1.who) fun x6 => ?_;refine Dx [7,8] ?_;refine Rp' (Fa 9 [11]) ?_;refine Rn 11 ?_;refine Wa ?_;refine Ra 12 rfl Qp ?_;refine Re0 ?_;refine ⟨⟨g4, x6.1, x6.2.1, x6.2.2⟩, trivial, Le4⟩
 ·rintro ⟨g2, x2, x3, x4⟩ -;simp only [Lc];have hf := Ri (fj.eq_1 w1 x1);refine Cn hf (fun hc1 hc1p hf => ?_) fun hc1 hc1p hf => ?_
  ·refine Rx ?_; exact Rr ⟨y1, y2, y3, y4, y5, y6, y6b, γ1, y7⟩
  ·have hse := xu (ag hc1);refine Rg [(10,none)] ?_;refine Dx (.range 7) ?_;refine Ex NPeer y3 fun (γ2 : Nat → SlV) => ?_;refine Ra 7 rfl (Xn x1.who.toNat) ?_;refine Ra 8 rfl (Xe (cE (γ2 x1.who.toNat) (gt w1.h.peers x1.who.toNat))) ?_;refine Gg NPeer γ2 x1.who.toNat 0 ?_;refine Rn 9 ?_;refine AlT fun g5 => ?_;refine Rn 10 ?_;refine Wa ?_;refine Re0 ?_;refine Ce hf (fun hc2 hc2p hf => ?_) fun hc2 hc2p hf => ?_
   ·refine Rx ?_; exact Rr ⟨y1, y2, y3, y4, y5, y6, y6b, γ1, y7⟩
   ·refine Tx ?_;refine my [0, 3, 4, 5, 7] [true, true, true, true] (fun (g6 : Nat) => [(8, .v (.pointer (some ⟨g6, 0, none⟩)))]) (fun (g6 : Nat) => [⟨g6, 108, [.int .i64 2, .int .i64 x1.who, .int .i64 (gt w1.h.peers x1.who.toNat).life, .int .i64 (gt w1.h.peers x1.who.toNat).seq, .int .i64 (fu w1.h), .int .i64 w1.h.version, .int .i64 0, .int .i64 0, .int .i64 0, .int .i64 0, .int .i64 0, .int .i64 0, .int .i64 0, .int .i64 0, x2.val (bZ w1.h x1.who).1.roots.length, x3.val (bZ w1.h x1.who).1.known.length, x4.val (bZ w1.h x1.who).1.way.length, .slice none 0 0, .slice none 0 0, .slice none 0 0, .slice none 0 0]⟩]) (fun (g6 : Nat) => [ownL NClient.E 63 y6 y6b (zipG γ1 0 w1.c)]) (fun (g6 : Nat) => [RdL EInt x2 (bZ w1.h x1.who).1.roots, RdL EPlace x3 (bZ w1.h x1.who).1.known, RdL EPlace x4 (bZ w1.h x1.who).1.way]) (fun _ => True) (.cons rfl (.cons rfl (.cons rfl (.cons rfl (.cons rfl (.nil _)))))) (.keep (.keep (.keep (.keep (.nil))))) ?_ ?_
    ·refine Rg [(19,none)] ?_;refine Dx [0,1,2,3,4,5,6,7,8,9,11,12,13,14,15,16] ?_;refine Rw 10 18 ?_ ?_
     ·refine Ck (nx y1 y2 y3 w1.h) fun _ => ?_;refine Ra 17 rfl Qp ?_;refine Rn 18 ?_;refine AlT fun g7 => ?_;refine Rn 19 ?_;refine Wa ?_;refine Re0 ?_;refine ⟨g7, trivial, Le4⟩
     ·refine AlT fun g8 => ?_;refine Rn 10 ?_;refine Ck (nx y1 y2 y3 w1.h) fun _ => ?_;refine Ra 17 rfl Qp ?_;refine Rn 19 ?_;refine Wa ?_;refine Re0 ?_;refine ⟨g8, trivial, Le4⟩
    ·rintro g6 -;simp only [Lc];refine Ce hf (fun hc3 hc3p hf => ?_) fun hc3 hc3p hf => ?_
     ·refine Rg [] ?_;refine Dx (.range 13) ?_;refine Re0 ?_;refine Ch hf (fun hc4 hf => ?_) fun hc4 hf => ?_
      ·refine Rx ?_; exact Rr ⟨y1, y2, y3, y4, y5, y6, y6b, γ1, y7⟩
      ·have hnr := hc4;simp only [Bo] at hnr;refine Ck (ku y4 y5 w1.d) fun x7 => ?_;refine AlT fun g9 => ?_;refine Cn hf (fun hc5 hc5p hf => ?_) fun hc5 hc5p hf => ?_
       ·refine Rx ?_; exact Rr ⟨y1, y2, y3, y4, y5, y6, y6b, γ1, y7⟩
       ·refine Sy Tz (xl NRec x1.n.toNat rfl rfl Zf rfl Zf rfl rfl Mm Zo Zo) ?_;refine iq (F := RdN NRec x7.2.2 ((az w1.d).2.1.take x1.n.toNat)) [RdN NRec x7.2.2 (az w1.d).2.1] Sm (fun M w h => (allF1 h).take _) ?_;refine Ck (kc x7.2.2 ((az w1.d).2.1.take x1.n.toNat)) fun x8 => ?_;generalize hS1 : (aF ((az w1.d).2.1.take x1.n.toNat)) = S1;try rw [hS1] at hf
        refine AlT fun g10 => ?_;refine Cn hf (fun hc6 hc6p hf => ?_) fun hc6 hc6p hf => ?_
        ·refine Rx ?_; exact Rr ⟨y1, y2, y3, y4, y5, y6, y6b, γ1, y7⟩
        ·have hrp := (tU hS1 (ag hc6)).1.three;refine Rg [] ?_;refine Dx [0,1,2,3] ?_;refine Ex NPeer x8.2.2 fun (γ3 : Nat → SlV) => ?_;refine Rb 4 rfl (Xn x1.who.toNat) ?_;refine Rb 5 rfl Xf ?_;refine Rb 6 rfl (i8 NPeer γ3 (v := .int .i64 (gt S1.1.peers x1.who.toNat).life) rfl rfl Zf rfl rfl Mm (fun _ => by first | assumption | omega) rfl) ?_;refine Dx (.range' 7 8) ?_;refine Gb 15 rfl Gz (Xn x1.who.toNat) ?_;refine Gb 16 rfl Gz Xf ?_;refine Gb 17 rfl Gz (i8 NPeer γ3 (v := (γ3 x1.who.toNat).val (gt S1.1.peers x1.who.toNat).roots.length) rfl rfl Bt rfl rfl Mm (by first | (intro _; first | assumption | omega) | (intro h; simp at h; omega)) rfl) ?_;refine Gg NPeer γ3 x1.who.toNat 0 ?_;refine Dx [18,19] ?_;refine Rn 20 ?_;refine Cy (fun hG_ => (fun y1 a y2 b => cl y1 y2 a b) (γ3 x1.who.toNat) (gt S1.1.peers x1.who.toNat).roots (γ2 x1.who.toNat) (gt w1.h.peers x1.who.toNat).roots) ?_;refine Dx [21,22] ?_;refine Re0 ?_;refine Ch hf (fun hc7 hf => ?_) fun hc7 hf => ?_
         ·refine Rx ?_; exact Rr ⟨y1, y2, y3, y4, y5, y6, y6b, γ1, y7⟩
         ·refine Ck (ny x8.1 x8.2.1 x8.2.2 S1.1 x1.who) fun x9 => ?_;refine AlT fun g11 => ?_;refine Cn hf (fun hc8 hc8p hf => ?_) fun hc8 hc8p hf => ?_
          ·refine Rx ?_; exact Rr ⟨y1, y2, y3, y4, y5, y6, y6b, γ1, y7⟩
          ·refine Rg [(4,some [g6]),(6,some [g6]),(8,some [g6])] ?_;refine Rq (Fa 0 [2,3,4]) (.keep (.keep (.keep (.drop Sa)))) Xv ?_;refine Rq (Fa 1 [2,3,4]) (.keep (.keep (.keep (.drop Sa)))) (q_ld1 rfl rfl Zf rfl Mm rfl) ?_;refine Rq (Fa 2 [3,4,5,6]) (.keep (.keep (.keep (.drop Sa)))) Xv ?_;refine Ra 3 rfl Qp ?_;refine Rn 4 ?_;refine W1 ?_;refine Ra 5 rfl Qp ?_;refine Rn 6 ?_;refine W1 ?_;refine Ra 7 rfl Qp ?_;refine Rn 8 ?_;refine Wp ?_;refine Re0 ?_;refine Ck (vB x9.1 x9.2.1 x9.2.2 (bZ S1.1 x1.who).1 x2 x3 x4 (bZ w1.h x1.who).1) fun x10 => ?_;generalize hS2 : (fK (bZ S1.1 x1.who).1 (bZ w1.h x1.who).1) = S2;try rw [hS2] at hf
           refine Tx ?_;refine Wp ?_;refine Cn hf (fun hc9 hc9p hf => ?_) fun hc9 hc9p hf => ?_
           ·refine Rx ?_; exact Rr ⟨y1, y2, y3, y4, y5, y6, y6b, γ1, y7⟩
           ·refine Tx ?_;refine Fr EInt ?_;refine Fr EPlace ?_;refine Cm (jW c1 y1 y2 y3 y4 y5 y6 y6b γ1 y7 w1 Z0 Z0 Z0 x10.1 x10.2.1 x10.2.2.1 x10.2.2.2 (⟨3, x1.who, (gt w1.h.peers x1.who.toNat).life, (gt w1.h.peers x1.who.toNat).seq, (fu w1.h), w1.h.version, x1.n, (⟨0, 0, 0, 0, 0, 0, 0⟩ : Op), (⟨[], [], []⟩ : View), S2.1⟩ : Mail)) fun x11 => ?_;generalize hS3 : (dP w1 (⟨3, x1.who, (gt w1.h.peers x1.who.toNat).life, (gt w1.h.peers x1.who.toNat).seq, (fu w1.h), w1.h.version, x1.n, (⟨0, 0, 0, 0, 0, 0, 0⟩ : Op), (⟨[], [], []⟩ : View), S2.1⟩ : Mail)) = S3;try rw [hS3] at hf
            refine Rx ?_; exact Rr ⟨x11.1, x11.2.1, x11.2.2.1, x11.2.2.2.1, x11.2.2.2.2.1, x11.2.2.2.2.2.1, x11.2.2.2.2.2.2.1, x11.2.2.2.2.2.2.2.1, x11.2.2.2.2.2.2.2.2⟩
     ·refine Tx ?_;refine Fr EInt ?_;refine Fr EPlace ?_;refine Cm (jW c1 y1 y2 y3 y4 y5 y6 y6b γ1 y7 w1 x2 x3 x4 Z0 Z0 Z0 Z0 (⟨2, x1.who, (gt w1.h.peers x1.who.toNat).life, (gt w1.h.peers x1.who.toNat).seq, (fu w1.h), w1.h.version, 0, (⟨0, 0, 0, 0, 0, 0, 0⟩ : Op), (bZ w1.h x1.who).1, (⟨[], [], [], []⟩ : Delta)⟩ : Mail)) fun x12 => ?_;generalize hS4 : (dP w1 (⟨2, x1.who, (gt w1.h.peers x1.who.toNat).life, (gt w1.h.peers x1.who.toNat).seq, (fu w1.h), w1.h.version, 0, (⟨0, 0, 0, 0, 0, 0, 0⟩ : Op), (bZ w1.h x1.who).1, (⟨[], [], [], []⟩ : Delta)⟩ : Mail)) = S4;try rw [hS4] at hf
      refine Rx ?_; exact Rr ⟨x12.1, x12.2.1, x12.2.2.1, x12.2.2.2.1, x12.2.2.2.2.1, x12.2.2.2.2.2.1, x12.2.2.2.2.2.2.1, x12.2.2.2.2.2.2.2.1, x12.2.2.2.2.2.2.2.2⟩
theorem u0 (w : Wld) (r : Rec) : (bL w r).2.c = w.c := by
 unfold bL;cases ((hJ w.h r).2 != 0) <;> cases ((fJ w.d r).2 != 0) <;> cases ((f8 (fJ w.d r).1).2 != 0) <;> rfl
def dh (w1 : Wld) (who1 : Int) : Int × Wld :=
 (bif ((bL w1 (⟨2, who1, ((gt w1.h.peers who1.toNat).life + 1), ([] : List Int), (⟨0, 0, 0, 0, 0, 0, 0⟩ : Op)⟩ : Rec)).1 != 0) then ((bL w1 (⟨2, who1, ((gt w1.h.peers who1.toNat).life + 1), ([] : List Int), (⟨0, 0, 0, 0, 0, 0, 0⟩ : Op)⟩ : Rec)).1, (bL w1 (⟨2, who1, ((gt w1.h.peers who1.toNat).life + 1), ([] : List Int), (⟨0, 0, 0, 0, 0, 0, 0⟩ : Op)⟩ : Rec)).2) else (bif ((db ((gt w1.h.peers who1.toNat).life + 1) (fu (bL w1 (⟨2, who1, ((gt w1.h.peers who1.toNat).life + 1), ([] : List Int), (⟨0, 0, 0, 0, 0, 0, 0⟩ : Op)⟩ : Rec)).2.h)).2 == 0) then ((db ((gt w1.h.peers who1.toNat).life + 1) (fu (bL w1 (⟨2, who1, ((gt w1.h.peers who1.toNat).life + 1), ([] : List Int), (⟨0, 0, 0, 0, 0, 0, 0⟩ : Op)⟩ : Rec)).2.h)).2, (⟨(bL w1 (⟨2, who1, ((gt w1.h.peers who1.toNat).life + 1), ([] : List Int), (⟨0, 0, 0, 0, 0, 0, 0⟩ : Op)⟩ : Rec)).2.h, (bL w1 (⟨2, who1, ((gt w1.h.peers who1.toNat).life + 1), ([] : List Int), (⟨0, 0, 0, 0, 0, 0, 0⟩ : Op)⟩ : Rec)).2.d, (bL w1 (⟨2, who1, ((gt w1.h.peers who1.toNat).life + 1), ([] : List Int), (⟨0, 0, 0, 0, 0, 0, 0⟩ : Op)⟩ : Rec)).2.up, ((bL w1 (⟨2, who1, ((gt w1.h.peers who1.toNat).life + 1), ([] : List Int), (⟨0, 0, 0, 0, 0, 0, 0⟩ : Op)⟩ : Rec)).2.c.set who1.toNat (db ((gt w1.h.peers who1.toNat).life + 1) (fu (bL w1 (⟨2, who1, ((gt w1.h.peers who1.toNat).life + 1), ([] : List Int), (⟨0, 0, 0, 0, 0, 0, 0⟩ : Op)⟩ : Rec)).2.h)).1), (bL w1 (⟨2, who1, ((gt w1.h.peers who1.toNat).life + 1), ([] : List Int), (⟨0, 0, 0, 0, 0, 0, 0⟩ : Op)⟩ : Rec)).2.mail⟩ : Wld)) else ((db ((gt w1.h.peers who1.toNat).life + 1) (fu (bL w1 (⟨2, who1, ((gt w1.h.peers who1.toNat).life + 1), ([] : List Int), (⟨0, 0, 0, 0, 0, 0, 0⟩ : Op)⟩ : Rec)).2.h)).2, (bL w1 (⟨2, who1, ((gt w1.h.peers who1.toNat).life + 1), ([] : List Int), (⟨0, 0, 0, 0, 0, 0, 0⟩ : Op)⟩ : Rec)).2)))
theorem sn (c1 : Nat) (y1 : SlV) (y2 : SlV) (y3 : SlV) (y4 : SlV) (y5 : SlV) (y6 : SlV) (y6b : Option Nat) (γ1 : Nat → SlV × SlV × SlV × SlV) (y7 : SlV) (w1 : Wld) (who1 : Int) (hk : dj w1.h = 0) (hc : w1.c.length = 3) (hw : 0 ≤ who1 ∧ who1 < 3) : Dv 139 [.pointer (some ⟨c1, 0, none⟩), .int .i64 who1] [RdL EStep y1 w1.h.h.l, RdL EPlace y2 w1.h.h.t, RdN NPeer y3 w1.h.peers, RdL EByte y4 w1.d.safe, RdL EByte y5 w1.d.wait, FactsG NClient γ1 w1.c, RdN NMail y7 w1.mail, LibP Tryz.prog] ⟨[⟨c1, 37, [y1.val w1.h.h.l.length, y2.val w1.h.h.t.length, .int .i64 w1.h.version, y3.val w1.h.peers.length, y4.val w1.d.safe.length, y5.val w1.d.wait.length, .bool w1.up, y6.val w1.c.length, y7.val w1.mail.length]⟩], [ownL NClient.E 63 y6 y6b (zipG γ1 0 w1.c)]⟩ (fun (X : SlV × SlV × SlV × SlV × SlV × SlV × Option Nat × (Nat → SlV × SlV × SlV × SlV) × SlV) => .int .i64 (dh w1 who1).1) (fun X => [RdL EStep X.1 (dh w1 who1).2.h.h.l, RdL EPlace X.2.1 (dh w1 who1).2.h.h.t, RdN NPeer X.2.2.1 (dh w1 who1).2.h.peers, RdL EByte X.2.2.2.1 (dh w1 who1).2.d.safe, RdL EByte X.2.2.2.2.1 (dh w1 who1).2.d.wait, FactsG NClient X.2.2.2.2.2.2.2.1 (dh w1 who1).2.c, RdN NMail X.2.2.2.2.2.2.2.2 (dh w1 who1).2.mail]) (fun X => ⟨[⟨c1, 37, [X.1.val (dh w1 who1).2.h.h.l.length, X.2.1.val (dh w1 who1).2.h.h.t.length, .int .i64 (dh w1 who1).2.h.version, X.2.2.1.val (dh w1 who1).2.h.peers.length, X.2.2.2.1.val (dh w1 who1).2.d.safe.length, X.2.2.2.2.1.val (dh w1 who1).2.d.wait.length, .bool (dh w1 who1).2.up, X.2.2.2.2.2.1.val (dh w1 who1).2.c.length, X.2.2.2.2.2.2.2.2.val (dh w1 who1).2.mail.length]⟩], [ownL NClient.E 63 X.2.2.2.2.2.1 X.2.2.2.2.2.2.1 (zipG X.2.2.2.2.2.2.2.1 0 (dh w1 who1).2.c)]⟩) := by
 refine Dq Tryz.func139 fun C => ?_;have hpl := (gf hk).2.2.2;have hvl := gf hk;have hlb := (mR hk (gt w1.h.peers who1.toNat) (gJ (by omega))).1;refine Tx ?_;refine Ex NPeer y3 fun (γ2 : Nat → SlV) => ?_;refine Sq (Xn who1.toNat) ?_;refine Sq Xf ?_;refine Sq (i8 NPeer γ2 (v := .int .i64 (gt w1.h.peers who1.toNat).life) rfl rfl Zf rfl rfl Mm (fun _ => by first | assumption | omega) rfl) ?_;refine Tt ?_;refine Fr EInt ?_;refine Cm (kR c1 y1 y2 y3 y4 y5 y6 y6b γ1 y7 w1 Z0 (⟨2, who1, ((gt w1.h.peers who1.toNat).life + 1), ([] : List Int), (⟨0, 0, 0, 0, 0, 0, 0⟩ : Op)⟩ : Rec)) fun x1 => ?_;generalize hS1 : (bL w1 (⟨2, who1, ((gt w1.h.peers who1.toNat).life + 1), ([] : List Int), (⟨0, 0, 0, 0, 0, 0, 0⟩ : Op)⟩ : Rec)) = S1;have hf := Ri (dh.eq_1 w1 who1);try rw [hS1] at hf
 refine Cn hf (fun hc1 hc1p hf => ?_) fun hc1 hc1p hf => ?_
 ·refine Rx ?_; exact Rr ⟨x1.1, x1.2.1, x1.2.2.1, x1.2.2.2.1, x1.2.2.2.2.1, x1.2.2.2.2.2.1, x1.2.2.2.2.2.2.1, x1.2.2.2.2.2.2.2.1, x1.2.2.2.2.2.2.2.2⟩
 ·have hwc : S1.2.c.length = 3 := by rw [← hS1, u0]; exact hc
  refine Ck (nx x1.1 x1.2.1 x1.2.2.1 S1.2.h) fun _ => ?_;refine Ck (rz ((gt w1.h.peers who1.toNat).life + 1) (fu S1.2.h)) fun x2 => ?_;generalize hS2 : (db ((gt w1.h.peers who1.toNat).life + 1) (fu S1.2.h)) = S2;try rw [hS2] at hf
  refine AlT fun g1 => ?_;refine Ce hf (fun hc2 hc2p hf => ?_) fun hc2 hc2p hf => ?_
  ·refine Rg [(7,none)] ?_;refine Dx (.range 6) ?_;refine Oq NClient.E x1.2.2.2.2.2.1 (zipG x1.2.2.2.2.2.2.2.1 0 S1.2.c) (Fa 6 []) (Xn who1.toNat) ?_;refine Rn 7 ?_;refine Wn NClient x1.2.2.2.2.2.2.2.1 S1.2.c who1.toNat 0 (x2.1, x2.2.1, x2.2.2.1, x2.2.2.2) S2.1 x1.2.2.2.2.2.2.1 ?_;refine Fu NClient x1.2.2.2.2.2.2.2.1 S1.2.c who1.toNat (x2.1, x2.2.1, x2.2.2.1, x2.2.2.2) S2.1 ?_;have hv1 : x1.2.2.2.2.2.1.val S1.2.c.length = x1.2.2.2.2.2.1.val (S1.2.c.set who1.toNat S2.1).length := congrArg (SlV.val x1.2.2.2.2.2.1) List.length_set.symm;(try simp only [cB, cC, cW]); try rw [hv1]
   refine Re0 ?_;refine Rx ?_; exact Rr ⟨x1.1, x1.2.1, x1.2.2.1, x1.2.2.2.1, x1.2.2.2.2.1, x1.2.2.2.2.2.1, x1.2.2.2.2.2.2.1, (updG x1.2.2.2.2.2.2.2.1 who1.toNat (x2.1, x2.2.1, x2.2.2.1, x2.2.2.2)), x1.2.2.2.2.2.2.2.2⟩
  ·refine Rx ?_; exact Rr ⟨x1.1, x1.2.1, x1.2.2.1, x1.2.2.2.1, x1.2.2.2.2.1, x1.2.2.2.2.2.1, x1.2.2.2.2.2.2.1, x1.2.2.2.2.2.2.2.1, x1.2.2.2.2.2.2.2.2⟩
def cU (w1 : Wld) (x1 : Happening) : Int × Wld :=
 (bif ((aL w1.mail x1.n (x1.kind == 8)).2.2 != 0) then ((aL w1.mail x1.n (x1.kind == 8)).2.2, w1) else (bif ((aL w1.mail x1.n (x1.kind == 8)).2.1.kind != 1) then (bif ((bF (gt w1.c (aL w1.mail x1.n (x1.kind == 8)).2.1.who.toNat) (aL w1.mail x1.n (x1.kind == 8)).2.1.who (aL w1.mail x1.n (x1.kind == 8)).2.1).2 == 0) then ((bF (gt w1.c (aL w1.mail x1.n (x1.kind == 8)).2.1.who.toNat) (aL w1.mail x1.n (x1.kind == 8)).2.1.who (aL w1.mail x1.n (x1.kind == 8)).2.1).2, (⟨w1.h, w1.d, w1.up, (w1.c.set (aL w1.mail x1.n (x1.kind == 8)).2.1.who.toNat (bF (gt w1.c (aL w1.mail x1.n (x1.kind == 8)).2.1.who.toNat) (aL w1.mail x1.n (x1.kind == 8)).2.1.who (aL w1.mail x1.n (x1.kind == 8)).2.1).1), (aL w1.mail x1.n (x1.kind == 8)).1⟩ : Wld)) else ((bF (gt w1.c (aL w1.mail x1.n (x1.kind == 8)).2.1.who.toNat) (aL w1.mail x1.n (x1.kind == 8)).2.1.who (aL w1.mail x1.n (x1.kind == 8)).2.1).2, w1)) else (bif (!w1.up) then (7, w1) else (0, (bL (⟨w1.h, w1.d, w1.up, w1.c, (aL w1.mail x1.n (x1.kind == 8)).1⟩ : Wld) (⟨1, 0, 0, ([] : List Int), (aL w1.mail x1.n (x1.kind == 8)).2.1.o⟩ : Rec)).2))))
theorem ot (c1 : Nat) (y1 : SlV) (y2 : SlV) (y3 : SlV) (y4 : SlV) (y5 : SlV) (y6 : SlV) (y6b : Option Nat) (γ1 : Nat → SlV × SlV × SlV × SlV) (y7 : SlV) (w1 : Wld) (y8 : SlV) (x1 : Happening) (hc : w1.c.length = 3) : Dv 85 [.pointer (some ⟨c1, 0, none⟩), .agg ⟨cA y8 x1⟩] [RdL EStep y1 w1.h.h.l, RdL EPlace y2 w1.h.h.t, RdN NPeer y3 w1.h.peers, RdL EByte y4 w1.d.safe, RdL EByte y5 w1.d.wait, FactsG NClient γ1 w1.c, RdN NMail y7 w1.mail, RdL EInt y8 x1.roots, LibP Tryz.prog] ⟨[⟨c1, 37, [y1.val w1.h.h.l.length, y2.val w1.h.h.t.length, .int .i64 w1.h.version, y3.val w1.h.peers.length, y4.val w1.d.safe.length, y5.val w1.d.wait.length, .bool w1.up, y6.val w1.c.length, y7.val w1.mail.length]⟩], [ownL NClient.E 63 y6 y6b (zipG γ1 0 w1.c)]⟩ (fun (X : SlV × SlV × SlV × SlV × SlV × SlV × Option Nat × (Nat → SlV × SlV × SlV × SlV) × SlV) => .int .i64 (cU w1 x1).1) (fun X => [RdL EStep X.1 (cU w1 x1).2.h.h.l, RdL EPlace X.2.1 (cU w1 x1).2.h.h.t, RdN NPeer X.2.2.1 (cU w1 x1).2.h.peers, RdL EByte X.2.2.2.1 (cU w1 x1).2.d.safe, RdL EByte X.2.2.2.2.1 (cU w1 x1).2.d.wait, FactsG NClient X.2.2.2.2.2.2.2.1 (cU w1 x1).2.c, RdN NMail X.2.2.2.2.2.2.2.2 (cU w1 x1).2.mail]) (fun X => ⟨[⟨c1, 37, [X.1.val (cU w1 x1).2.h.h.l.length, X.2.1.val (cU w1 x1).2.h.h.t.length, .int .i64 (cU w1 x1).2.h.version, X.2.2.1.val (cU w1 x1).2.h.peers.length, X.2.2.2.1.val (cU w1 x1).2.d.safe.length, X.2.2.2.2.1.val (cU w1 x1).2.d.wait.length, .bool (cU w1 x1).2.up, X.2.2.2.2.2.1.val (cU w1 x1).2.c.length, X.2.2.2.2.2.2.2.2.val (cU w1 x1).2.mail.length]⟩], [ownL NClient.E 63 X.2.2.2.2.2.1 X.2.2.2.2.2.2.1 (zipG X.2.2.2.2.2.2.2.1 0 (cU w1 x1).2.c)]⟩) := by
 refine Dq Tryz.func85 fun C => ?_;refine Qc y8 8 fun hlen1 => ?_;refine BxT fun g1 => ?_;refine Tx ?_
 refine Jn (SlV × Nat × SlV × SlV × SlV × SlV × SlV × SlV × SlV) [0, 4] [true, true] (fun ⟨x2, g2, x3, x4, x5, x6, x7, x8, x9⟩ => ⟨[(5, .v (x2.val (aL w1.mail x1.n (x1.kind == 8)).1.length)), (6, .v (.pointer (some ⟨g2, 0, none⟩))), (7, .v (.int .i64 (aL w1.mail x1.n (x1.kind == 8)).2.2))], [⟨g2, 108, [.int .i64 (aL w1.mail x1.n (x1.kind == 8)).2.1.kind, .int .i64 (aL w1.mail x1.n (x1.kind == 8)).2.1.who, .int .i64 (aL w1.mail x1.n (x1.kind == 8)).2.1.life, .int .i64 (aL w1.mail x1.n (x1.kind == 8)).2.1.seq, .int .i64 (aL w1.mail x1.n (x1.kind == 8)).2.1.time, .int .i64 (aL w1.mail x1.n (x1.kind == 8)).2.1.version, .int .i64 (aL w1.mail x1.n (x1.kind == 8)).2.1.frm, .int .i64 (aL w1.mail x1.n (x1.kind == 8)).2.1.o.time, .int .i64 (aL w1.mail x1.n (x1.kind == 8)).2.1.o.who, .int .i64 (aL w1.mail x1.n (x1.kind == 8)).2.1.o.node, .int .i64 (aL w1.mail x1.n (x1.kind == 8)).2.1.o.parent, .int .i64 (aL w1.mail x1.n (x1.kind == 8)).2.1.o.name, .int .i64 (aL w1.mail x1.n (x1.kind == 8)).2.1.o.life, .int .i64 (aL w1.mail x1.n (x1.kind == 8)).2.1.o.seq, x3.val (aL w1.mail x1.n (x1.kind == 8)).2.1.v.roots.length, x4.val (aL w1.mail x1.n (x1.kind == 8)).2.1.v.known.length, x5.val (aL w1.mail x1.n (x1.kind == 8)).2.1.v.way.length, x6.val (aL w1.mail x1.n (x1.kind == 8)).2.1.d.gone.length, x7.val (aL w1.mail x1.n (x1.kind == 8)).2.1.d.here.length, x8.val (aL w1.mail x1.n (x1.kind == 8)).2.1.d.wayGone.length, x9.val (aL w1.mail x1.n (x1.kind == 8)).2.1.d.wayHere.length]⟩], [ownL NClient.E 63 y6 y6b (zipG γ1 0 w1.c)], [RdN NMail x2 (aL w1.mail x1.n (x1.kind == 8)).1, RdL EInt x3 (aL w1.mail x1.n (x1.kind == 8)).2.1.v.roots, RdL EPlace x4 (aL w1.mail x1.n (x1.kind == 8)).2.1.v.known, RdL EPlace x5 (aL w1.mail x1.n (x1.kind == 8)).2.1.v.way, RdL EInt x6 (aL w1.mail x1.n (x1.kind == 8)).2.1.d.gone, RdL EPlace x7 (aL w1.mail x1.n (x1.kind == 8)).2.1.d.here, RdL EInt x8 (aL w1.mail x1.n (x1.kind == 8)).2.1.d.wayGone, RdL EPlace x9 (aL w1.mail x1.n (x1.kind == 8)).2.1.d.wayHere], True, 0⟩) ?_ ?_
 ·refine Rg [(16,none)] ?_;refine Dx (.range 9) ?_;refine Rw 9 14 ?_ ?_
  ·refine Ck (k6 y7 w1.mail x1.n (x1.kind == 8)) fun x10 => ?_;refine Dx [10,11,12] ?_;refine Rp' (Fa 13 [14,15,16]) ?_;refine Rn 14 ?_;refine AlT fun g3 => ?_;refine Ra 15 rfl Qp ?_;refine Rn 16 ?_;refine Wa ?_;refine Ra 17 rfl Qp ?_;refine Re0 ?_;refine ⟨⟨x10.1, g3, x10.2.1, x10.2.2.1, x10.2.2.2.1, x10.2.2.2.2.1, x10.2.2.2.2.2.1, x10.2.2.2.2.2.2.1, x10.2.2.2.2.2.2.2⟩, trivial, Le4⟩
  ·refine AlT fun g4 => ?_;refine Rn 9 ?_;refine Ck (k6 y7 w1.mail x1.n (x1.kind == 8)) fun x11 => ?_;refine Dx [10,11,12] ?_;refine Rp' (Fa 13 [15,16]) ?_;refine Ra 15 rfl Qp ?_;refine Rn 16 ?_;refine Wa ?_;refine Ra 17 rfl Qp ?_;refine Re0 ?_;refine ⟨⟨x11.1, g4, x11.2.1, x11.2.2.1, x11.2.2.2.1, x11.2.2.2.2.1, x11.2.2.2.2.2.1, x11.2.2.2.2.2.2.1, x11.2.2.2.2.2.2.2⟩, trivial, Le4⟩
 ·rintro ⟨x2, g2, x3, x4, x5, x6, x7, x8, x9⟩ -;simp only [Lc];generalize hS1 : (aL w1.mail x1.n (x1.kind == 8)) = S1;have hf := Ri (cU.eq_1 w1 x1);try rw [hS1] at hf
  refine Cn hf (fun hc1 hc1p hf => ?_) fun hc1 hc1p hf => ?_
  ·refine Rx ?_; exact Rr ⟨y1, y2, y3, y4, y5, y6, y6b, γ1, y7⟩
  ·have htw := A6 hS1 (ag hc1);refine Cn hf (fun hc2 hc2p hf => ?_) fun hc2 hc2p hf => ?_
   ·(repeat refine er ?_);refine Jn (Nat × SlV × SlV × SlV × SlV) [0, 4, 5, 6] [true, true, true] (fun ⟨g5, x12, x13, x14, x15⟩ => ⟨[(8, .v (.pointer (some ⟨g5, 0, none⟩))), (9, .v (.int .i64 (bF (gt w1.c S1.2.1.who.toNat) S1.2.1.who S1.2.1).2))], [⟨g5, 63, [.int .i64 (bF (gt w1.c S1.2.1.who.toNat) S1.2.1.who S1.2.1).1.life, .int .i64 (bF (gt w1.c S1.2.1.who.toNat) S1.2.1.who S1.2.1).1.time, .int .i64 (bF (gt w1.c S1.2.1.who.toNat) S1.2.1.who S1.2.1).1.seq, x12.val (bF (gt w1.c S1.2.1.who.toNat) S1.2.1.who S1.2.1).1.pending.length, .int .i64 (bF (gt w1.c S1.2.1.who.toNat) S1.2.1.who S1.2.1).1.version, x13.val (bF (gt w1.c S1.2.1.who.toNat) S1.2.1.who S1.2.1).1.v.roots.length, x14.val (bF (gt w1.c S1.2.1.who.toNat) S1.2.1.who S1.2.1).1.v.known.length, x15.val (bF (gt w1.c S1.2.1.who.toNat) S1.2.1.who S1.2.1).1.v.way.length]⟩], [ownL NClient.E 63 y6 y6b (zipG γ1 0 w1.c)], [RdL EOp x12 (bF (gt w1.c S1.2.1.who.toNat) S1.2.1.who S1.2.1).1.pending, RdL EInt x13 (bF (gt w1.c S1.2.1.who.toNat) S1.2.1.who S1.2.1).1.v.roots, RdL EPlace x14 (bF (gt w1.c S1.2.1.who.toNat) S1.2.1.who S1.2.1).1.v.known, RdL EPlace x15 (bF (gt w1.c S1.2.1.who.toNat) S1.2.1.who S1.2.1).1.v.way], True, 0⟩) ?_ ?_
    ·refine Rg [(16,none)] ?_;refine Dx (.range 6) ?_;refine Oq NClient.E y6 (zipG γ1 0 w1.c) (Fb 6 [8,9,10,15]) (Xn S1.2.1.who.toNat) ?_;refine Oq NClient.E y6 (zipG γ1 0 w1.c) (Fb 7 [8,9,10,15]) (Xe (cC (γ1 S1.2.1.who.toNat).1 (γ1 S1.2.1.who.toNat).2.1 (γ1 S1.2.1.who.toNat).2.2.1 (γ1 S1.2.1.who.toNat).2.2.2 (gt w1.c S1.2.1.who.toNat))) ?_;refine Gg NClient γ1 S1.2.1.who.toNat 0 ?_;refine Gg NClient γ1 S1.2.1.who.toNat 1 ?_;refine Gg NClient γ1 S1.2.1.who.toNat 2 ?_;refine Gg NClient γ1 S1.2.1.who.toNat 3 ?_;refine Dx [8,9,10] ?_;refine Rw 11 15 ?_ ?_
     ·refine Ck (nU (γ1 S1.2.1.who.toNat).1 (γ1 S1.2.1.who.toNat).2.1 (γ1 S1.2.1.who.toNat).2.2.1 (γ1 S1.2.1.who.toNat).2.2.2 (gt w1.c S1.2.1.who.toNat) S1.2.1.who x3 x4 x5 x6 x7 x8 x9 S1.2.1) fun x16 => ?_;refine Dx [12,13] ?_;refine Rp' (Fa 14 [15,16]) ?_;refine Rn 15 ?_;refine AlT fun g6 => ?_;refine Rn 16 ?_;refine Wa ?_;refine Ra 17 rfl Qp ?_;refine Re0 ?_;refine ⟨⟨g6, x16.1, x16.2.1, x16.2.2.1, x16.2.2.2⟩, trivial, Le4⟩
     ·refine AlT fun g7 => ?_;refine Rn 11 ?_;refine Ck (nU (γ1 S1.2.1.who.toNat).1 (γ1 S1.2.1.who.toNat).2.1 (γ1 S1.2.1.who.toNat).2.2.1 (γ1 S1.2.1.who.toNat).2.2.2 (gt w1.c S1.2.1.who.toNat) S1.2.1.who x3 x4 x5 x6 x7 x8 x9 S1.2.1) fun x17 => ?_;refine Dx [12,13] ?_;refine Rp' (Fa 14 [16]) ?_;refine Rn 16 ?_;refine Wa ?_;refine Ra 17 rfl Qp ?_;refine Re0 ?_;refine ⟨⟨g7, x17.1, x17.2.1, x17.2.2.1, x17.2.2.2⟩, trivial, Le4⟩
    ·rintro ⟨g5, x12, x13, x14, x15⟩ -;simp only [Lc];generalize hS2 : (bF (gt w1.c S1.2.1.who.toNat) S1.2.1.who S1.2.1) = S2;try rw [hS2] at hf
     refine Ce hf (fun hc3 hc3p hf => ?_) fun hc3 hc3p hf => ?_
     ·refine Rg [(10,none),(13,none)] ?_;refine Dx (.range 6) ?_;refine Rp' (Fa 6 [7,8,9,10]) ?_;refine Ra 7 rfl XA ?_;refine Rp' (Fa 8 [9,10]) ?_;refine Oq NClient.E y6 (zipG γ1 0 w1.c) (Fa 9 []) (Xn S1.2.1.who.toNat) ?_;refine Rn 10 ?_;refine Wn NClient γ1 w1.c S1.2.1.who.toNat 0 (x12, x13, x14, x15) S2.1 y6b ?_;refine Fu NClient γ1 w1.c S1.2.1.who.toNat (x12, x13, x14, x15) S2.1 ?_;have hv1 : y6.val w1.c.length = y6.val (w1.c.set S1.2.1.who.toNat S2.1).length := congrArg (SlV.val y6) List.length_set.symm;(try simp only [cB, cC, cW]); try rw [hv1]
      refine Dx [11,12] ?_;refine Rn 13 ?_;refine W1 ?_;refine Re0 ?_;refine Rx ?_; exact Rr ⟨y1, y2, y3, y4, y5, y6, y6b, (updG γ1 S1.2.1.who.toNat (x12, x13, x14, x15)), x2⟩
     ·refine Rx ?_; exact Rr ⟨y1, y2, y3, y4, y5, y6, y6b, γ1, y7⟩
   ·refine Ch hf (fun hc4 hf => ?_) fun hc4 hf => ?_
    ·refine Rx ?_; exact Rr ⟨y1, y2, y3, y4, y5, y6, y6b, γ1, y7⟩
    ·refine Tx ?_;refine Fr EInt ?_;refine Cm (kR c1 y1 y2 y3 y4 y5 y6 y6b γ1 x2 (⟨w1.h, w1.d, w1.up, w1.c, S1.1⟩ : Wld) Z0 (⟨1, 0, 0, ([] : List Int), S1.2.1.o⟩ : Rec)) fun x18 => ?_;generalize hS3 : (bL (⟨w1.h, w1.d, w1.up, w1.c, S1.1⟩ : Wld) (⟨1, 0, 0, ([] : List Int), S1.2.1.o⟩ : Rec)) = S3;try rw [hS3] at hf
     refine Rx ?_; exact Rr ⟨x18.1, x18.2.1, x18.2.2.1, x18.2.2.2.1, x18.2.2.2.2.1, x18.2.2.2.2.2.1, x18.2.2.2.2.2.2.1, x18.2.2.2.2.2.2.2.1, x18.2.2.2.2.2.2.2.2⟩
def dH (w1 : Wld) (x1 : Happening) : Int × Wld :=
 (bif (w1.up == (x1.kind == 11)) then (7, w1) else (bif (x1.kind == 10) then (0, (⟨dU, w1.d, false, w1.c, w1.mail⟩ : Wld)) else (bif ((az w1.d).2.2 != 0) then ((az w1.d).2.2, w1) else (bif ((aF (az w1.d).2.1).2 == 0) then ((aF (az w1.d).2.1).2, (⟨(aF (az w1.d).2.1).1, (az w1.d).1, true, w1.c, w1.mail⟩ : Wld)) else ((aF (az w1.d).2.1).2, w1)))))
theorem nK (c1 : Nat) (y1 : SlV) (y2 : SlV) (y3 : SlV) (y4 : SlV) (y5 : SlV) (y6 : SlV) (y6b : Option Nat) (γ1 : Nat → SlV × SlV × SlV × SlV) (y7 : SlV) (w1 : Wld) (y8 : SlV) (x1 : Happening) : Dv 87 [.pointer (some ⟨c1, 0, none⟩), .agg ⟨cA y8 x1⟩] [RdL EStep y1 w1.h.h.l, RdL EPlace y2 w1.h.h.t, RdN NPeer y3 w1.h.peers, RdL EByte y4 w1.d.safe, RdL EByte y5 w1.d.wait, FactsG NClient γ1 w1.c, RdN NMail y7 w1.mail, RdL EInt y8 x1.roots, LibP Tryz.prog] ⟨[⟨c1, 37, cW y1 y2 y3 y4 y5 y6 y7 w1⟩], [ownL NClient.E 63 y6 y6b (zipG γ1 0 w1.c)]⟩ (fun (X : SlV × SlV × SlV × SlV × SlV × SlV × Option Nat × (Nat → SlV × SlV × SlV × SlV) × SlV) => .int .i64 (dH w1 x1).1) (fun X => [RdL EStep X.1 (dH w1 x1).2.h.h.l, RdL EPlace X.2.1 (dH w1 x1).2.h.h.t, RdN NPeer X.2.2.1 (dH w1 x1).2.h.peers, RdL EByte X.2.2.2.1 (dH w1 x1).2.d.safe, RdL EByte X.2.2.2.2.1 (dH w1 x1).2.d.wait, FactsG NClient X.2.2.2.2.2.2.2.1 (dH w1 x1).2.c, RdN NMail X.2.2.2.2.2.2.2.2 (dH w1 x1).2.mail]) (fun X => ⟨[⟨c1, 37, cW X.1 X.2.1 X.2.2.1 X.2.2.2.1 X.2.2.2.2.1 X.2.2.2.2.2.1 X.2.2.2.2.2.2.2.2 (dH w1 x1).2⟩], [ownL NClient.E 63 X.2.2.2.2.2.1 X.2.2.2.2.2.2.1 (zipG X.2.2.2.2.2.2.2.1 0 (dH w1 x1).2.c)]⟩) := by
 refine Dq Tryz.func87 fun C => ?_;refine Qc y8 8 fun hlen1 => ?_;refine BxT fun g1 => ?_;refine Rg [] ?_;refine Dx (.range 7) ?_;refine Ra 7 rfl (q_eqb und_4 rfl rfl Zf rfl Zf) ?_;refine Re0 ?_;have hf := Ri (dH.eq_1 w1 x1);refine Ce hf (fun hc1 hc1p hf => ?_) fun hc1 hc1p hf => ?_
 ·refine Rx ?_; exact Rr ⟨y1, y2, y3, y4, y5, y6, y6b, γ1, y7⟩
 ·refine Ce hf (fun hc2 hc2p hf => ?_) fun hc2 hc2p hf => ?_
  ·refine Ck (l5 ) fun x2 => ?_;refine Tx ?_;refine Wp ?_;refine Rx ?_; exact Rr ⟨x2.1, x2.2.1, x2.2.2, y4, y5, y6, y6b, γ1, y7⟩
  ·refine Ck (ku y4 y5 w1.d) fun x3 => ?_;refine AlT fun g2 => ?_;refine Cn hf (fun hc3 hc3p hf => ?_) fun hc3 hc3p hf => ?_
   ·refine Rx ?_; exact Rr ⟨y1, y2, y3, y4, y5, y6, y6b, γ1, y7⟩
   ·refine Ck (kc x3.2.2 (az w1.d).2.1) fun x4 => ?_;generalize hS1 : (aF (az w1.d).2.1) = S1;try rw [hS1] at hf
    refine AlT fun g3 => ?_;refine Ce hf (fun hc4 hc4p hf => ?_) fun hc4 hc4p hf => ?_
    ·refine Rg [(7,none),(10,none),(13,none)] ?_;refine Ra 0 rfl Qp ?_;refine Rp' (Fa 1 [2,3,4,5,6,7]) ?_;refine Rp' (Fa 2 [3,4,5,6,7,8,9,10]) ?_;refine Dx [3,5,6] ?_;refine Rw 4 7 ?_ ?_
     ·refine pO rfl rfl rfl rfl (q_ldA rfl rfl Zf rfl Mm rfl) ?_;refine Rn 7 ?_;refine Wp ?_;refine Dx [8,9] ?_;refine Rn 10 ?_;refine Wp ?_;refine Dx [11,12] ?_;refine Rn 13 ?_;refine W1 ?_;refine Re0 ?_;refine Rx ?_; exact Rr ⟨x4.1, x4.2.1, x4.2.2, x3.1, x3.2.1, y6, y6b, γ1, y7⟩
     ·refine Wp ?_;refine Dx [4,8,9] ?_;refine Rn 10 ?_;refine Wp ?_;refine Dx [11,12] ?_;refine Rn 13 ?_;refine W1 ?_;refine Re0 ?_;refine Rx ?_; exact Rr ⟨x4.1, x4.2.1, x4.2.2, x3.1, x3.2.1, y6, y6b, γ1, y7⟩
    ·refine Rx ?_; exact Rr ⟨y1, y2, y3, y4, y5, y6, y6b, γ1, y7⟩
theorem oy (y : SlV) (l : List Mail) (n : Int) (hy : y = ⟨none, 0⟩ ∧ l = []) (hn : 0 ≤ n ∧ n * 280 ≤ 140737488355328) : Dv 103 [y.val l.length, .int .i64 n] [RdN NMail y l] ⟨[], []⟩ (fun (X : SlV × Option Nat × (Nat → SlV × SlV × SlV × SlV × SlV × SlV × SlV)) => X.1.val ([] : List Mail).length) (fun X => [FactsG NMail X.2.2 ([] : List Mail)]) (fun X => ⟨[], [ownL NMail.E 108 X.1 X.2.1 (zipG X.2.2 0 ([] : List Mail))]⟩) := by
 obtain ⟨hy1, hy2⟩ := hy;subst hy1; subst hy2;obtain ⟨k, rfl⟩ : ∃ k : Nat, n = k := ⟨n.toNat, by omega⟩;refine Dq Tryz.func103 fun C => ?_;refine cw_le (eI NMail.E 108) ?_;refine Cd' (fun hc => ?_) fun hc => ?_
 ·exact absurd (of_decide_eq_true hc) (by omega)
 ·refine Sy Tz (q_cap rfl rfl Zf rfl) ?_;refine Tx ?_;refine Sq (q_is (v' := .int .i64 0) (q_sub rfl rfl Zf rfl Zf (fun _ => by decide)) rfl) ?_;refine Sq (q_is (v' := .int .i64 (k : Int)) (q_sub rfl rfl Zf rfl Zf Zo) (by simp)) ?_;refine Cd' (fun hc1 => ?_) fun hc1 => ?_
  ·have hk := of_decide_eq_true hc1;refine Sy Tz (q_cap rfl rfl Zf rfl) ?_;refine Sq (rR (h := 0) rfl rfl Zf rfl Zf rfl rfl Zf (fun _ => Nr)) ?_;refine Rp rfl rfl rfl rfl ?_;refine pj (n := k) (e := 108) (by_ := 280) .sq (au rfl) rfl rfl rfl rfl rfl rfl rfl rfl und_3 (fun _ _ _ => .here _ _ _) rfl rfl rfl rfl rfl rfl (by omega) (by omega) (by omega) fun x1 b1 zs => ?_;refine Tx ?_;refine qy (k := 0) .sq (au rfl) rfl rfl rfl rfl rfl rfl rfl rfl rfl (.here _ _ _) rfl N0 ?_;refine Tx ?_;(repeat refine er ?_); refine o0 (F := FactsG NMail (fun _ => default) ([] : List Mail)) [] (.nil _) (fun M w _ => FactsG.nil NMail _ M w) ?_; refine f4 ?_;exact ⟨(x1, b1, fun _ => default), _, (.cons (.tmp rfl) .nil), rfl, Sm, .nil _, Sp⟩
  ·refine Tx ?_;(repeat refine er ?_); refine o0 (F := FactsG NMail (fun _ => default) ([] : List Mail)) [] (.nil _) (fun M w _ => FactsG.nil NMail _ M w) ?_; refine f4 ?_;exact ⟨(⟨none, 0⟩, none, fun _ => default), _, (.cons (.tmp rfl) .nil), rfl, Sm, .nil _, Sp⟩
def dB  : List (List Mail) → (List Mail) → (List Mail)
 | [], newslice1 => newslice1
 | pn2 :: rn2, newslice1 => (dB rn2 (newslice1 ++ pn2))
def ew (slices1 : List (List Mail)) : List (List Mail) → Nat → (List Mail)
 | [], size1 => (dB slices1 ([] : List Mail))
 | pn1 :: rn1, size1 => (bif decide (((size1 : Int) + (pn1.length : Int)) < 0) then [] else (ew slices1 rn1 (size1 + pn1.length)))
def eT (slices1 : List (List Mail)) : List Mail :=
 (ew slices1 slices1 0)
theorem nf (y1 : SlV) (slices1 : List (List Mail)) (hct : slices1.flatten.length * 280 ≤ 140737488355328) : Dv 54 [y1.val slices1.length] [RdN NMails y1 slices1] ⟨[], []⟩ (fun (X : SlV × Option Nat × (Nat → SlV × SlV × SlV × SlV × SlV × SlV × SlV)) => X.1.val (eT slices1).length) (fun X => [FactsG NMail X.2.2 (eT slices1)]) (fun X => ⟨[], [ownL NMail.E 108 X.1 X.2.1 (zipG X.2.2 0 (eT slices1))]⟩) := by
 refine Dq Tryz.func54 fun C => ?_;refine Qn y1 24 fun hlen1 => ?_;refine Lq (Nat × Nat) [0,2,9,10] [] (fun ⟨size1, n1⟩ => ⟨[(3, .v (.int .i64 (size1 : Int))), (11, .v (.int .i64 (n1 : Int)))], [], [], [], (n1 ≤ slices1.length) ∧ (size1 = ((slices1.take n1).flatten.length : Int)) ∧ (ew slices1 (slices1.drop n1) size1) = (eT slices1), slices1.length - n1⟩) ⟨0, 0⟩ ⟨N0, (by simp), (by simp only [eT, Cf, D0])⟩ ?_;rintro ⟨size1, n1⟩ ⟨hkn1, hsz, hf1⟩;simp only [Lc];refine Cu (fun hlt0 => ?_) fun hge0 => ?_
 ·refine Tx ?_;refine Ex NMails y1 fun (γ1 : Nat → SlV) => ?_;refine Sq (Xn n1) ?_;refine Sq (i8 NMails γ1 (v := (γ1 n1).val (gt slices1 n1).length) rfl rfl Zf rfl rfl Mm (fun _ => by first | assumption | omega) rfl) ?_;refine Gg NMails γ1 n1 0 ?_;refine Tx ?_;refine Sq (q_add rfl rfl Zf rfl Zf (fun _ => by have := (ij slices1 hlt0).2; omega)) ?_;have hf := Ri hf1.symm;rw [aK hlt0, ew] at hf;refine Cp hf (fun hc2 hc2p hf => ?_) fun hc2 hc2p hf => ?_
  ·exact absurd (of_decide_eq_true hc2) (by omega)
  ·refine Tt ?_;refine ⟨⟨(size1 + (gt slices1 n1).length), (n1 + 1)⟩, ⟨hlt0, (by rw [(ij slices1 hlt0).1, List.length_append]; simp only [hsz]; omega), hf.symm⟩, Oo, Le4⟩
 ·refine Tx ?_;refine Fm NMail ?_;refine Cm (oy Z0 ([] : List Mail) (size1 : Int) ⟨rfl, rfl⟩ (by have h_ : (slices1.take n1).flatten.length ≤ slices1.flatten.length := (by rw [List.take_of_length_le hge0]; exact Nr); omega)) fun x1 => ?_;refine Lq (List Mail × SlV × Option Nat × (Nat → SlV × SlV × SlV × SlV × SlV × SlV × SlV) × Nat) [2,25,26] [] (fun ⟨newslice1, x2, x2b, γ2, n2⟩ => ⟨[(6, .v (x2.val newslice1.length)), (27, .v (.int .i64 (n2 : Int)))], [], [ownL NMail.E 108 x2 x2b (zipG γ2 0 newslice1)], [FactsG NMail γ2 newslice1], (n2 ≤ slices1.length) ∧ (newslice1.length = (slices1.take n2).flatten.length) ∧ (dB (slices1.drop n2) newslice1) = (eT slices1), slices1.length - n2⟩) ⟨([] : List Mail), x1.1, x1.2.1, x1.2.2, 0⟩ ⟨N0, (by simp), (by rw [← hf1, Dl hge0]; simp only [ew, Cf, D0])⟩ ?_;rintro ⟨newslice1, x2, x2b, γ2, n2⟩ ⟨hkn2, hnl, hf2⟩;simp only [Lc];refine Cu (fun hlt1 => ?_) fun hge1 => ?_
  ·refine Tx ?_;refine Ex NMails y1 fun (γ3 : Nat → SlV) => ?_;refine Sq (Xn n2) ?_;refine Sq (i8 NMails γ3 (v := (γ3 n2).val (gt slices1 n2).length) rfl rfl Zf rfl rfl Mm (fun _ => by first | assumption | omega) rfl) ?_;refine Gg NMails γ3 n2 0 ?_;refine Tx ?_;refine Ex NMail (γ3 n2) fun (γ4 : Nat → SlV × SlV × SlV × SlV × SlV × SlV × SlV) => ?_;refine jS NMail γ2 γ4 newslice1 (gt slices1 n2) (b := x2b) .sq (fun _ _ => .inl ⟨_, rfl⟩) (au rfl) rfl rfl rfl rfl rfl rfl rfl (fun _ _ => Uo) rfl rfl rfl rfl rfl rfl rfl (lB (EN := NMail) (X := (γ3 n2)) (γ := γ4) (l := (gt slices1 n2)) Mm) (by have := (ij slices1 hlt1).2; exact Nat.le_trans (Nat.mul_le_mul_right _ (by omega)) hct) fun x3 x3b => ?_;refine Fp' NMail γ2 γ4 ?_;refine Tt ?_;refine ⟨⟨(newslice1 ++ (gt slices1 n2)), x3, x3b, (appG γ2 newslice1.length γ4), (n2 + 1)⟩, ⟨hlt1, (by rw [(ij slices1 hlt1).1]; simp only [List.length_append]; omega), (by rw [← hf2, aK hlt1]; simp only [dB, Cf, D0])⟩, Oo, Le4⟩
  ·have hf := Ri hf2.symm;rw [Dl hge1, dB] at hf;refine Rx ?_; exact Rr ⟨x2, x2b, γ2⟩
theorem oE (ls : List (List Mail)) : eT ls = ls.flatten := by
 have h1 : ∀ (l : List (List Mail)) (acc : List Mail), dB l acc = acc ++ l.flatten := by
  intro l;induction l with
  | nil => intro acc; simp [dB]
  | cons a r ih => intro acc; rw [dB, ih]; simp
 have h0 : ∀ (l : List (List Mail)) (k : Nat), ew ls l k = dB ls [] := by
  intro l;induction l with
  | nil => intro k; rfl
  | cons a r ih =>
   intro k;have : decide (((k : Int) + (a.length : Int)) < 0) = false := by simp; omega
   rw [ew, this, cond_false, ih]
 rw [eT, h0, h1, List.nil_append]
theorem mJ (y1 : SlV) (ls : List (List Mail)) (hct : ls.flatten.length * 280 ≤ 140737488355328) : Dv 54 [y1.val ls.length] [RdN NMails y1 ls] ⟨[], []⟩ (fun (X : SlV × Option Nat × (Nat → SlV × SlV × SlV × SlV × SlV × SlV × SlV)) => X.1.val ls.flatten.length) (fun X => [FactsG NMail X.2.2 ls.flatten]) (fun X => ⟨[], [ownL NMail.E 108 X.1 X.2.1 (zipG X.2.2 0 ls.flatten)]⟩) := by
 have := nf y1 ls hct;rw [oE] at this;exact this
def eA  : List Step → Int → Int
 | [], most1 => most1
 | pn1 :: rn1, most1 => (eA rn1 (if pn1.o.time > most1 then pn1.o.time else most1))
def aJ (h1 : Hub) : Int :=
 (eA h1.h.l 0)
theorem gb (y1 : SlV) (y2 : SlV) (y3 : SlV) (h1 : Hub) : Du 59 [.agg ⟨cB y1 y2 y3 h1⟩] [RdL EStep y1 h1.h.l, RdL EPlace y2 h1.h.t, RdN NPeer y3 h1.peers] (.int .i64 (aJ h1)) := by
 refine Dp Tryz.func59 fun C => ?_;refine Qc y1 88 fun hlen1 => ?_;refine Qc y2 24 fun hlen2 => ?_;refine Qn y3 40 fun hlen3 => ?_;refine BxT fun g1 => ?_;refine Lq (Int × Nat) [2,8,9] [true] (fun ⟨most1, n1⟩ => ⟨[(3, .v (.int .i64 most1)), (10, .v (.int .i64 (n1 : Int)))], [], [], [], (n1 ≤ h1.h.l.length) ∧ (eA (h1.h.l.drop n1) most1) = (aJ h1), h1.h.l.length - n1⟩) ⟨0, 0⟩ ⟨N0, (by simp only [aJ, Cf, D0])⟩ ?_;rintro ⟨most1, n1⟩ ⟨hkn1, hf1⟩;simp only [Lc];refine Cu (fun hlt0 => ?_) fun hge0 => ?_
 ·refine Sy Tz (Xi n1) ?_;refine Sq Xa ?_;refine AlT fun g2 => ?_;refine Sy Tz (q_max rfl rfl Zf rfl Zf) ?_;refine Tt ?_;refine ⟨⟨(if (gt h1.h.l n1).o.time > most1 then (gt h1.h.l n1).o.time else most1), (n1 + 1)⟩, ⟨hlt0, (by rw [← hf1, aK hlt0]; simp only [eA, Cf, D0])⟩, Oo, Le4⟩
 ·have hf := Ri hf1.symm;rw [Dl hge0, eA] at hf;exact Ru
def eC (a1 : Wld) (b1 : Wld) : Bool :=
 (((((a1.up == b1.up) && (eD a1.h b1.h)) && (jt a1.d b1.d)) && (eH a1.c b1.c em)) && (f7 a1.mail b1.mail))
theorem jp (y1 : SlV) (y2 : SlV) (y3 : SlV) (y4 : SlV) (y5 : SlV) (y6 : SlV) (y7 : SlV) (a1 : Wld) (y8 : SlV) (y9 : SlV) (y10 : SlV) (y11 : SlV) (y12 : SlV) (y13 : SlV) (y14 : SlV) (b1 : Wld) : Du 10 [.agg ⟨cW y1 y2 y3 y4 y5 y6 y7 a1⟩, .agg ⟨cW y8 y9 y10 y11 y12 y13 y14 b1⟩] [RdL EStep y1 a1.h.h.l, RdL EPlace y2 a1.h.h.t, RdN NPeer y3 a1.h.peers, RdL EByte y4 a1.d.safe, RdL EByte y5 a1.d.wait, RdN NClient y6 a1.c, RdN NMail y7 a1.mail, RdL EStep y8 b1.h.h.l, RdL EPlace y9 b1.h.h.t, RdN NPeer y10 b1.h.peers, RdL EByte y11 b1.d.safe, RdL EByte y12 b1.d.wait, RdN NClient y13 b1.c, RdN NMail y14 b1.mail] (.bool (eC a1 b1)) := by
 refine Dp Tryz.func10 fun C => ?_;refine Qc y1 88 fun hlen1 => ?_;refine Qc y2 24 fun hlen2 => ?_;refine Qn y3 40 fun hlen3 => ?_;refine Qc y4 1 fun hlen4 => ?_;refine Qc y5 1 fun hlen5 => ?_;refine Qn y6 128 fun hlen6 => ?_;refine Qn y7 280 fun hlen7 => ?_;refine Qc y8 88 fun hlen8 => ?_;refine Qc y9 24 fun hlen9 => ?_;refine Qn y10 40 fun hlen10 => ?_;refine Qc y11 1 fun hlen11 => ?_;refine Qc y12 1 fun hlen12 => ?_;refine Qn y13 128 fun hlen13 => ?_;refine Qn y14 280 fun hlen14 => ?_;refine BxT fun g1 => ?_;refine BxT fun g2 => ?_;refine Sy Tz (q_eqb und_4 rfl rfl Zf rfl Zf) ?_;refine Cy (fun hG_ => it y1 y2 y3 a1.h y8 y9 y10 b1.h) ?_;refine Cy (fun hG_ => mr y4 y5 a1.d y11 y12 b1.d) ?_;refine Cy (fun hG_ => k9 y6 a1.c y13 b1.c _ _ _ em Kr (fun z0a_ z0b_ z0c_ z0d_ a0_ z1a_ z1b_ z1c_ z1d_ a1_ => lE z0a_ z0b_ z0c_ z0d_ a0_ z1a_ z1b_ z1c_ z1d_ a1_)) ?_;refine Cy (fun hG_ => mq y7 a1.mail y14 b1.mail) ?_;have hf := Ri (eC.eq_1 a1 b1);exact Ru
def am (e1 : Int) : Wld × Int :=
 ((⟨(⟨(⟨[], []⟩ : History), 0, ([] : List Peer)⟩ : Hub), (⟨[], []⟩ : Disk), false, ([] : List Client), ([] : List Mail)⟩ : Wld), e1)
theorem aE (e1 : Int) : Dw 46 [.int .i64 e1] [] (fun (X : SlV × SlV × SlV × SlV × SlV × SlV × SlV) => .tuple #[.agg ⟨cW X.1 X.2.1 X.2.2.1 X.2.2.2.1 X.2.2.2.2.1 X.2.2.2.2.2.1 X.2.2.2.2.2.2 (am e1).1⟩, .int .i64 (am e1).2]) (fun X => [RdL EStep X.1 (am e1).1.h.h.l, RdL EPlace X.2.1 (am e1).1.h.h.t, RdN NPeer X.2.2.1 (am e1).1.h.peers, RdL EByte X.2.2.2.1 (am e1).1.d.safe, RdL EByte X.2.2.2.2.1 (am e1).1.d.wait, RdN NClient X.2.2.2.2.2.1 (am e1).1.c, RdN NMail X.2.2.2.2.2.2 (am e1).1.mail]) := by
 refine Dp Tryz.func46 fun C => ?_;refine AlT fun g1 => ?_;refine Tx ?_;refine Fc EStep ?_;refine Fc EPlace ?_;refine Ft NPeer ?_;refine Fc EByte ?_;refine Ft NClient ?_;refine Ft NMail ?_;have hf := Ri (am.eq_1 e1);refine Rx ?_; exact Rr ⟨Z0, Z0, Z0, Z0, Z0, Z0, Z0⟩
def aw (m1 : Mail) (w1 : Wld) : Wld × Int × Wld :=
 (bif decide ((w1.mail.length : Int) < 30) then ((⟨w1.h, w1.d, w1.up, w1.c, (w1.mail ++ [m1])⟩ : Wld), 0, (⟨w1.h, w1.d, w1.up, w1.c, (w1.mail ++ [m1])⟩ : Wld)) else (w1, 0, w1))
theorem fy (y1 : SlV) (y2 : SlV) (y3 : SlV) (y4 : SlV) (y5 : SlV) (y6 : SlV) (y7 : SlV) (m1 : Mail) (c1 : Nat) (y8 : SlV) (y9 : SlV) (y10 : SlV) (y11 : SlV) (y12 : SlV) (y13 : SlV) (y14 : SlV) (y14b : Option Nat) (γ1 : Nat → SlV × SlV × SlV × SlV × SlV × SlV × SlV) (w1 : Wld) : Dv 47 [.agg ⟨cM y1 y2 y3 y4 y5 y6 y7 m1⟩, .pointer (some ⟨c1, 0, none⟩)] [RdL EInt y1 m1.v.roots, RdL EPlace y2 m1.v.known, RdL EPlace y3 m1.v.way, RdL EInt y4 m1.d.gone, RdL EPlace y5 m1.d.here, RdL EInt y6 m1.d.wayGone, RdL EPlace y7 m1.d.wayHere, RdL EStep y8 w1.h.h.l, RdL EPlace y9 w1.h.h.t, RdN NPeer y10 w1.h.peers, RdL EByte y11 w1.d.safe, RdL EByte y12 w1.d.wait, RdN NClient y13 w1.c, FactsG NMail γ1 w1.mail, LibP Tryz.prog] ⟨[⟨c1, 37, cW y8 y9 y10 y11 y12 y13 y14 w1⟩], [ownL NMail.E 108 y14 y14b (zipG γ1 0 w1.mail)]⟩ (fun (X : SlV × SlV × SlV × SlV × SlV × SlV × SlV × SlV × SlV × SlV × SlV × SlV × SlV × SlV) => .tuple #[.agg ⟨cW X.1 X.2.1 X.2.2.1 X.2.2.2.1 X.2.2.2.2.1 X.2.2.2.2.2.1 X.2.2.2.2.2.2.1 (aw m1 w1).1⟩, .int .i64 (aw m1 w1).2.1]) (fun X => [RdL EStep X.1 (aw m1 w1).1.h.h.l, RdL EPlace X.2.1 (aw m1 w1).1.h.h.t, RdN NPeer X.2.2.1 (aw m1 w1).1.h.peers, RdL EByte X.2.2.2.1 (aw m1 w1).1.d.safe, RdL EByte X.2.2.2.2.1 (aw m1 w1).1.d.wait, RdN NClient X.2.2.2.2.2.1 (aw m1 w1).1.c, RdN NMail X.2.2.2.2.2.2.1 (aw m1 w1).1.mail, RdL EStep X.2.2.2.2.2.2.2.1 (aw m1 w1).2.2.h.h.l, RdL EPlace X.2.2.2.2.2.2.2.2.1 (aw m1 w1).2.2.h.h.t, RdN NPeer X.2.2.2.2.2.2.2.2.2.1 (aw m1 w1).2.2.h.peers, RdL EByte X.2.2.2.2.2.2.2.2.2.2.1 (aw m1 w1).2.2.d.safe, RdL EByte X.2.2.2.2.2.2.2.2.2.2.2.1 (aw m1 w1).2.2.d.wait, RdN NClient X.2.2.2.2.2.2.2.2.2.2.2.2.1 (aw m1 w1).2.2.c, RdN NMail X.2.2.2.2.2.2.2.2.2.2.2.2.2 (aw m1 w1).2.2.mail]) (fun X => ⟨[⟨c1, 37, cW X.2.2.2.2.2.2.2.1 X.2.2.2.2.2.2.2.2.1 X.2.2.2.2.2.2.2.2.2.1 X.2.2.2.2.2.2.2.2.2.2.1 X.2.2.2.2.2.2.2.2.2.2.2.1 X.2.2.2.2.2.2.2.2.2.2.2.2.1 X.2.2.2.2.2.2.2.2.2.2.2.2.2 (aw m1 w1).2.2⟩], []⟩) := by
 refine Dq Tryz.func47 fun C => ?_;refine Qc y1 8 fun hlen1 => ?_;refine Qc y2 24 fun hlen2 => ?_;refine Qc y3 24 fun hlen3 => ?_;refine Qc y4 8 fun hlen4 => ?_;refine Qc y5 24 fun hlen5 => ?_;refine Qc y6 8 fun hlen6 => ?_;refine Qc y7 24 fun hlen7 => ?_;refine BxT fun g1 => ?_;refine AlT fun g2 => ?_;have hf := Ri (aw.eq_1 m1 w1);refine Cp hf (fun hc1 hc1p hf => ?_) fun hc1 hc1p hf => ?_
 ·refine Bl NMail.E [((y1, y2, y3, y4, y5, y6, y7), m1)] (hfill := kO rfl rfl) fun x1 x1b => ?_;refine Fx x1 ?_;refine Ns NMail x1 [m1] ?_;refine Ex NMail x1 fun (γ2 : Nat → SlV × SlV × SlV × SlV × SlV × SlV × SlV) => ?_;refine jS NMail γ1 γ2 w1.mail [m1] (b := y14b) .sq (fun _ _ => .inl ⟨_, rfl⟩) (au rfl) rfl rfl rfl rfl rfl rfl rfl (fun _ _ => Uo) rfl rfl rfl rfl rfl rfl rfl (lB (EN := NMail) (X := x1) (γ := γ2) (l := [m1]) Mm) (by show (w1.mail.length + [m1].length) * 280 ≤ 140737488355328; (try simp only [Ln]); omega) fun x2 x2b => ?_;refine Fp' NMail γ1 γ2 ?_;refine Tx ?_;refine Fz x2 ?_;refine Fj NMail x2 (appG γ1 w1.mail.length γ2) (w1.mail ++ [m1]) ?_;refine Rx ?_; exact Rr ⟨y8, y9, y10, y11, y12, y13, x2, y8, y9, y10, y11, y12, y13, x2⟩
 ·refine Tx ?_;refine Fz y14 ?_;refine Fj NMail y14 γ1 w1.mail ?_;refine Rx ?_; exact Rr ⟨y8, y9, y10, y11, y12, y13, y14, y8, y9, y10, y11, y12, y13, y14⟩
variable {r : Rec}
theorem zB (hd : d.safe.length ≤ 60000 ∧ d.safe.length + d.wait.length ≤ 60000) : (bB d r).1.safe.length ≤ 60000 ∧ (bB d r).1.safe.length + (bB d r).1.wait.length ≤ 60000 := by
 unfold bB;cases ((bD r).2 != 0) with
 | true => simp
 | false =>
  rw [cond_false];cases h2 : decide (((((d.safe.length : Int) + (d.wait.length : Int)) + ((bD r).1.length : Int)) + 1) > 60000) with
  | true => simp
  | false =>
   have := of_decide_eq_false h2;simp only [cond_false, List.flatten_cons, List.flatten_nil, Ln]; omega
def aP (r1 : Rec) (w1 : Wld) : Int × Wld :=
 (bif ((bf r1) != 0) then ((bf r1), w1) else (bif ((aM w1.h r1).2 != 0) then ((aM w1.h r1).2, w1) else (bif ((bB w1.d r1).2 != 0) then ((bB w1.d r1).2, w1) else (bif ((cX (bB w1.d r1).1).2 == 0) then ((cX (bB w1.d r1).1).2, (⟨(aM w1.h r1).1, (cX (bB w1.d r1).1).1, w1.up, w1.c, w1.mail⟩ : Wld)) else ((cX (bB w1.d r1).1).2, w1)))))
theorem gu (y1 : SlV) (r1 : Rec) (c1 : Nat) (y2 : SlV) (y3 : SlV) (y4 : SlV) (y5 : SlV) (y6 : SlV) (y7 : SlV) (y7b : Option Nat) (γ1 : Nat → SlV × SlV × SlV × SlV) (y8 : SlV) (w1 : Wld) (hk : dj w1.h = 0) (hdl : w1.d.safe.length ≤ 60000 ∧ w1.d.safe.length + w1.d.wait.length ≤ 60000) : Dv 48 [.agg ⟨cR y1 r1⟩, .pointer (some ⟨c1, 0, none⟩)] [RdL EInt y1 r1.roots, RdL EStep y2 w1.h.h.l, RdL EPlace y3 w1.h.h.t, RdN NPeer y4 w1.h.peers, RdL EByte y5 w1.d.safe, RdL EByte y6 w1.d.wait, FactsG NClient γ1 w1.c, RdN NMail y8 w1.mail, LibP Tryz.prog] ⟨[⟨c1, 37, cW y2 y3 y4 y5 y6 y7 y8 w1⟩], [ownL NClient.E 63 y7 y7b (zipG γ1 0 w1.c)]⟩ (fun (X : SlV × SlV × SlV × SlV × SlV × SlV × Option Nat × (Nat → SlV × SlV × SlV × SlV) × SlV) => .int .i64 (aP r1 w1).1) (fun X => [RdL EStep X.1 (aP r1 w1).2.h.h.l, RdL EPlace X.2.1 (aP r1 w1).2.h.h.t, RdN NPeer X.2.2.1 (aP r1 w1).2.h.peers, RdL EByte X.2.2.2.1 (aP r1 w1).2.d.safe, RdL EByte X.2.2.2.2.1 (aP r1 w1).2.d.wait, FactsG NClient X.2.2.2.2.2.2.2.1 (aP r1 w1).2.c, RdN NMail X.2.2.2.2.2.2.2.2 (aP r1 w1).2.mail]) (fun X => ⟨[⟨c1, 37, cW X.1 X.2.1 X.2.2.1 X.2.2.2.1 X.2.2.2.2.1 X.2.2.2.2.2.1 X.2.2.2.2.2.2.2.2 (aP r1 w1).2⟩], [ownL NClient.E 63 X.2.2.2.2.2.1 X.2.2.2.2.2.2.1 (zipG X.2.2.2.2.2.2.2.1 0 (aP r1 w1).2.c)]⟩) := by
 refine Dq Tryz.func48 fun C => ?_;refine Qc y1 8 fun hlen1 => ?_;refine BxT fun g1 => ?_;refine Ck (eg y1 r1) fun _ => ?_;have hf := Ri (aP.eq_1 r1 w1);refine Cn hf (fun hc1 hc1p hf => ?_) fun hc1 hc1p hf => ?_
 ·refine Rx ?_; exact Rr ⟨y2, y3, y4, y5, y6, y7, y7b, γ1, y8⟩
 ·have hnr := CF (ag hc1);refine Ck (j8 y2 y3 y4 w1.h y1 r1 Zc Zc) fun x1 => ?_;refine AlT fun g2 => ?_;refine Cn hf (fun hc2 hc2p hf => ?_) fun hc2 hc2p hf => ?_
  ·refine Rx ?_; exact Rr ⟨y2, y3, y4, y5, y6, y7, y7b, γ1, y8⟩
  ·refine Ck (oo y5 y6 w1.d y1 r1 Zc) fun x2 => ?_;refine AlT fun g3 => ?_;refine Cn hf (fun hc3 hc3p hf => ?_) fun hc3 hc3p hf => ?_
   ·refine Rx ?_; exact Rr ⟨y2, y3, y4, y5, y6, y7, y7b, γ1, y8⟩
   ·have hpd := zB (r := r1) hdl;refine Ck (np x2.1 x2.2 (bB w1.d r1).1 Zc) fun x3 => ?_;generalize hS1 : (cX (bB w1.d r1).1) = S1;try rw [hS1] at hf
    refine Ce hf (fun hc4 hc4p hf => ?_) fun hc4 hc4p hf => ?_
    ·refine Rg [(3,some [c1]),(5,some [c1])] ?_;refine Ra 0 rfl XA ?_;refine Rq (Fa 1 [2,3]) (.keep (.keep (.keep (.drop Sa)))) XA ?_;refine Ra 2 rfl Qp ?_;refine Rn 3 ?_;refine Wp ?_;refine Ra 4 rfl Qp ?_;refine Rn 5 ?_;refine Wp ?_;refine Re0 ?_;refine Rx ?_; exact Rr ⟨x1.1, x1.2.1, x1.2.2, x3.1, x3.2, y7, y7b, γ1, y8⟩
    ·refine Rx ?_; exact Rr ⟨y2, y3, y4, y5, y6, y7, y7b, γ1, y8⟩
def ax (w1 : Wld) (x1 : Happening) : Int × Wld :=
 (bif (decide (x1.who < 0) || decide (x1.who ≥ (w1.c.length : Int))) then (5, w1) else (bif (x1.kind == 1) then (bif ((c9 (gt w1.c x1.who.toNat) x1.who x1.node x1.parent x1.name).2.2 != 0) then ((c9 (gt w1.c x1.who.toNat) x1.who x1.node x1.parent x1.name).2.2, w1) else (0, (dP (⟨w1.h, w1.d, w1.up, (w1.c.set x1.who.toNat (c9 (gt w1.c x1.who.toNat) x1.who x1.node x1.parent x1.name).1), w1.mail⟩ : Wld) (⟨1, x1.who, 0, 0, 0, 0, 0, (c9 (gt w1.c x1.who.toNat) x1.who x1.node x1.parent x1.name).2.1, (⟨[], [], []⟩ : View), (⟨[], [], [], []⟩ : Delta)⟩ : Mail)))) else (bif (x1.kind == 2) then (bif (decide (x1.n < 0) || decide (x1.n ≥ ((gt w1.c x1.who.toNat).pending.length : Int))) then (5, w1) else (0, (dP w1 (⟨1, x1.who, 0, 0, 0, 0, 0, (gt (gt w1.c x1.who.toNat).pending x1.n.toNat), (⟨[], [], []⟩ : View), (⟨[], [], [], []⟩ : Delta)⟩ : Mail)))) else (bif (!w1.up) then (7, w1) else (bif (x1.kind == 6) then ((dh w1 x1.who).1, (dh w1 x1.who).2) else (bif (x1.kind == 5) then ((bL w1 (⟨3, x1.who, 0, x1.roots, (⟨0, 0, 0, 0, 0, 0, 0⟩ : Op)⟩ : Rec)).1, (bL w1 (⟨3, x1.who, 0, x1.roots, (⟨0, 0, 0, 0, 0, 0, 0⟩ : Op)⟩ : Rec)).2) else ((fj w1 x1).1, (fj w1 x1).2)))))))
theorem fO (c1 : Nat) (y1 : SlV) (y2 : SlV) (y3 : SlV) (y4 : SlV) (y5 : SlV) (y6 : SlV) (y6b : Option Nat) (γ1 : Nat → SlV × SlV × SlV × SlV) (y7 : SlV) (w1 : Wld) (y8 : SlV) (x1 : Happening) (hk : dj w1.h = 0) (hc : w1.c.length = 3) (hv : w1.up = true → w1.h.version ≤ ((az w1.d).2.1.length : Int)) : Dv 88 [.pointer (some ⟨c1, 0, none⟩), .agg ⟨cA y8 x1⟩] [RdL EStep y1 w1.h.h.l, RdL EPlace y2 w1.h.h.t, RdN NPeer y3 w1.h.peers, RdL EByte y4 w1.d.safe, RdL EByte y5 w1.d.wait, FactsG NClient γ1 w1.c, RdN NMail y7 w1.mail, RdL EInt y8 x1.roots, LibP Tryz.prog] ⟨[⟨c1, 37, [y1.val w1.h.h.l.length, y2.val w1.h.h.t.length, .int .i64 w1.h.version, y3.val w1.h.peers.length, y4.val w1.d.safe.length, y5.val w1.d.wait.length, .bool w1.up, y6.val w1.c.length, y7.val w1.mail.length]⟩], [ownL NClient.E 63 y6 y6b (zipG γ1 0 w1.c)]⟩ (fun (X : SlV × SlV × SlV × SlV × SlV × SlV × Option Nat × (Nat → SlV × SlV × SlV × SlV) × SlV) => .int .i64 (ax w1 x1).1) (fun X => [RdL EStep X.1 (ax w1 x1).2.h.h.l, RdL EPlace X.2.1 (ax w1 x1).2.h.h.t, RdN NPeer X.2.2.1 (ax w1 x1).2.h.peers, RdL EByte X.2.2.2.1 (ax w1 x1).2.d.safe, RdL EByte X.2.2.2.2.1 (ax w1 x1).2.d.wait, FactsG NClient X.2.2.2.2.2.2.2.1 (ax w1 x1).2.c, RdN NMail X.2.2.2.2.2.2.2.2 (ax w1 x1).2.mail]) (fun X => ⟨[⟨c1, 37, [X.1.val (ax w1 x1).2.h.h.l.length, X.2.1.val (ax w1 x1).2.h.h.t.length, .int .i64 (ax w1 x1).2.h.version, X.2.2.1.val (ax w1 x1).2.h.peers.length, X.2.2.2.1.val (ax w1 x1).2.d.safe.length, X.2.2.2.2.1.val (ax w1 x1).2.d.wait.length, .bool (ax w1 x1).2.up, X.2.2.2.2.2.1.val (ax w1 x1).2.c.length, X.2.2.2.2.2.2.2.2.val (ax w1 x1).2.mail.length]⟩], [ownL NClient.E 63 X.2.2.2.2.2.1 X.2.2.2.2.2.2.1 (zipG X.2.2.2.2.2.2.2.1 0 (ax w1 x1).2.c)]⟩) := by
 refine Dq Tryz.func88 fun C => ?_;refine Qc y8 8 fun hlen1 => ?_;refine BxT fun g1 => ?_;refine Rg [] ?_;refine Dx (.range 13) ?_;refine Re0 ?_;have hf := Ri (ax.eq_1 w1 x1);refine Ch hf (fun hc1 hf => ?_) fun hc1 hf => ?_
 ·refine Rx ?_; exact Rr ⟨y1, y2, y3, y4, y5, y6, y6b, γ1, y7⟩
 ·have hwr := hc1;simp only [Bo] at hwr;refine Rg [(9,none)] ?_;refine Dx (.range 6) ?_;refine Oq NClient.E y6 (zipG γ1 0 w1.c) (Fa 6 [8]) (Xn x1.who.toNat) ?_;refine Oq NClient.E y6 (zipG γ1 0 w1.c) (Fa 7 [8]) (Xe (cC (γ1 x1.who.toNat).1 (γ1 x1.who.toNat).2.1 (γ1 x1.who.toNat).2.2.1 (γ1 x1.who.toNat).2.2.2 (gt w1.c x1.who.toNat))) ?_;refine Gg NClient γ1 x1.who.toNat 0 ?_;refine Gg NClient γ1 x1.who.toNat 1 ?_;refine Gg NClient γ1 x1.who.toNat 2 ?_;refine Gg NClient γ1 x1.who.toNat 3 ?_;refine Rn 8 ?_;refine AlT fun g2 => ?_;refine Rn 9 ?_;refine Wa ?_;refine Re0 ?_;refine Ce hf (fun hc2 hc2p hf => ?_) fun hc2 hc2p hf => ?_
  ·refine Ck (sy (γ1 x1.who.toNat).1 (γ1 x1.who.toNat).2.1 (γ1 x1.who.toNat).2.2.1 (γ1 x1.who.toNat).2.2.2 (gt w1.c x1.who.toNat) x1.who x1.node x1.parent x1.name) fun x2 => ?_;generalize hS1 : (c9 (gt w1.c x1.who.toNat) x1.who x1.node x1.parent x1.name) = S1;try rw [hS1] at hf
   refine AlT fun g3 => ?_;refine AlT fun g4 => ?_;refine Cn hf (fun hc3 hc3p hf => ?_) fun hc3 hc3p hf => ?_
   ·refine Rx ?_; exact Rr ⟨y1, y2, y3, y4, y5, y6, y6b, γ1, y7⟩
   ·refine Rg [(8,none)] ?_;refine Dx (.range 7) ?_;refine Oq NClient.E y6 (zipG γ1 0 w1.c) (Fa 7 []) (Xn x1.who.toNat) ?_;refine Rn 8 ?_;refine Wn NClient γ1 w1.c x1.who.toNat 0 (x2.1, x2.2.1, x2.2.2.1, x2.2.2.2) S1.1 y6b ?_;refine Fu NClient γ1 w1.c x1.who.toNat (x2.1, x2.2.1, x2.2.2.1, x2.2.2.2) S1.1 ?_;have hv1 : y6.val w1.c.length = y6.val (w1.c.set x1.who.toNat S1.1).length := congrArg (SlV.val y6) List.length_set.symm;(try simp only [cB, cC, cW]); try rw [hv1]
    refine Re0 ?_;refine Tx ?_;refine Fr EInt ?_;refine Fr EPlace ?_;refine Cm (jW c1 y1 y2 y3 y4 y5 y6 y6b (updG γ1 x1.who.toNat (x2.1, x2.2.1, x2.2.2.1, x2.2.2.2)) y7 (⟨w1.h, w1.d, w1.up, (w1.c.set x1.who.toNat S1.1), w1.mail⟩ : Wld) Z0 Z0 Z0 Z0 Z0 Z0 Z0 (⟨1, x1.who, 0, 0, 0, 0, 0, S1.2.1, (⟨[], [], []⟩ : View), (⟨[], [], [], []⟩ : Delta)⟩ : Mail)) fun x3 => ?_;generalize hS2 : (dP (⟨w1.h, w1.d, w1.up, (w1.c.set x1.who.toNat S1.1), w1.mail⟩ : Wld) (⟨1, x1.who, 0, 0, 0, 0, 0, S1.2.1, (⟨[], [], []⟩ : View), (⟨[], [], [], []⟩ : Delta)⟩ : Mail)) = S2;try rw [hS2] at hf
    refine Rx ?_; exact Rr ⟨x3.1, x3.2.1, x3.2.2.1, x3.2.2.2.1, x3.2.2.2.2.1, x3.2.2.2.2.2.1, x3.2.2.2.2.2.2.1, x3.2.2.2.2.2.2.2.1, x3.2.2.2.2.2.2.2.2⟩
  ·refine Ce hf (fun hc4 hc4p hf => ?_) fun hc4 hc4p hf => ?_
   ·refine Ch hf (fun hc5 hf => ?_) fun hc5 hf => ?_
    ·refine Rx ?_; exact Rr ⟨y1, y2, y3, y4, y5, y6, y6b, γ1, y7⟩
    ·have hnr := hc5;simp only [Bo] at hnr;refine Rg [(10,none)] ?_;refine Dx (.range 7) ?_;refine Rb 7 rfl (Xi x1.n.toNat) ?_;refine Rb 8 rfl Xa ?_;refine Ra 9 rfl Qp ?_;refine Rn 10 ?_;refine Fr EInt ?_;refine Fr EPlace ?_;refine vh (jW c1 y1 y2 y3 y4 y5 y6 y6b γ1 y7 w1 Z0 Z0 Z0 Z0 Z0 Z0 Z0 (⟨1, x1.who, 0, 0, 0, 0, 0, (gt (gt w1.c x1.who.toNat).pending x1.n.toNat), (⟨[], [], []⟩ : View), (⟨[], [], [], []⟩ : Delta)⟩ : Mail)) (.lo _ rfl rfl) (.inr fun _ h => h) (au rfl) rfl rfl rfl Kr rfl rfl Sm Tk Tk ?_;intro x4;generalize hS3 : (dP w1 (⟨1, x1.who, 0, 0, 0, 0, 0, (gt (gt w1.c x1.who.toNat).pending x1.n.toNat), (⟨[], [], []⟩ : View), (⟨[], [], [], []⟩ : Delta)⟩ : Mail)) = S3;try rw [hS3] at hf
     refine Re0 ?_;refine Rx ?_; exact Rr ⟨x4.1, x4.2.1, x4.2.2.1, x4.2.2.2.1, x4.2.2.2.2.1, x4.2.2.2.2.2.1, x4.2.2.2.2.2.2.1, x4.2.2.2.2.2.2.2.1, x4.2.2.2.2.2.2.2.2⟩
   ·refine Ch hf (fun hc6 hf => ?_) fun hc6 hf => ?_
    ·refine Rx ?_; exact Rr ⟨y1, y2, y3, y4, y5, y6, y6b, γ1, y7⟩
    ·have hup : w1.up = true := (by simpa using hc6);refine Ce hf (fun hc7 hc7p hf => ?_) fun hc7 hc7p hf => ?_
     ·refine Cm (sn c1 y1 y2 y3 y4 y5 y6 y6b γ1 y7 w1 x1.who Zc Zc Zc) fun x5 => ?_;refine Rx ?_; exact Rr ⟨x5.1, x5.2.1, x5.2.2.1, x5.2.2.2.1, x5.2.2.2.2.1, x5.2.2.2.2.2.1, x5.2.2.2.2.2.2.1, x5.2.2.2.2.2.2.2.1, x5.2.2.2.2.2.2.2.2⟩
     ·refine Ce hf (fun hc8 hc8p hf => ?_) fun hc8 hc8p hf => ?_
      ·refine Cm (kR c1 y1 y2 y3 y4 y5 y6 y6b γ1 y7 w1 y8 (⟨3, x1.who, 0, x1.roots, (⟨0, 0, 0, 0, 0, 0, 0⟩ : Op)⟩ : Rec)) fun x6 => ?_;generalize hS4 : (bL w1 (⟨3, x1.who, 0, x1.roots, (⟨0, 0, 0, 0, 0, 0, 0⟩ : Op)⟩ : Rec)) = S4;try rw [hS4] at hf
       refine Rx ?_; exact Rr ⟨x6.1, x6.2.1, x6.2.2.1, x6.2.2.2.1, x6.2.2.2.2.1, x6.2.2.2.2.2.1, x6.2.2.2.2.2.2.1, x6.2.2.2.2.2.2.2.1, x6.2.2.2.2.2.2.2.2⟩
      ·refine Cm (sK c1 y1 y2 y3 y4 y5 y6 y6b γ1 y7 w1 y8 x1 (hv (by assumption))) fun x7 => ?_;refine Rx ?_; exact Rr ⟨x7.1, x7.2.1, x7.2.2.1, x7.2.2.2.1, x7.2.2.2.2.1, x7.2.2.2.2.2.1, x7.2.2.2.2.2.2.1, x7.2.2.2.2.2.2.2.1, x7.2.2.2.2.2.2.2.2⟩
def aY (w1 : Wld) (x1 : Happening) : Int × Wld :=
 (bif (x1.kind == 7) then ((cU w1 x1).1, (cU w1 x1).2) else (bif (x1.kind == 8) then ((cU w1 x1).1, (cU w1 x1).2) else (bif (x1.kind == 9) then (bif ((aL w1.mail x1.n false).2.2 == 0) then ((aL w1.mail x1.n false).2.2, (⟨w1.h, w1.d, w1.up, w1.c, (aL w1.mail x1.n false).1⟩ : Wld)) else ((aL w1.mail x1.n false).2.2, w1)) else (bif (x1.kind == 10) then ((dH w1 x1).1, (dH w1 x1).2) else (bif (x1.kind == 11) then ((dH w1 x1).1, (dH w1 x1).2) else (bif (x1.kind == 1) then ((ax w1 x1).1, (ax w1 x1).2) else (bif (x1.kind == 2) then ((ax w1 x1).1, (ax w1 x1).2) else (bif (x1.kind == 3) then ((ax w1 x1).1, (ax w1 x1).2) else (bif (x1.kind == 4) then ((ax w1 x1).1, (ax w1 x1).2) else (bif (x1.kind == 5) then ((ax w1 x1).1, (ax w1 x1).2) else (bif (x1.kind == 6) then ((ax w1 x1).1, (ax w1 x1).2) else (4, w1))))))))))))
theorem rf (c1 : Nat) (y1 : SlV) (y2 : SlV) (y3 : SlV) (y4 : SlV) (y5 : SlV) (y6 : SlV) (y6b : Option Nat) (γ1 : Nat → SlV × SlV × SlV × SlV) (y7 : SlV) (w1 : Wld) (y8 : SlV) (x1 : Happening) (hk : dj w1.h = 0) (hc : w1.c.length = 3) (hv : w1.up = true → w1.h.version ≤ ((az w1.d).2.1.length : Int)) : Dv 32 [.pointer (some ⟨c1, 0, none⟩), .agg ⟨cA y8 x1⟩] [RdL EStep y1 w1.h.h.l, RdL EPlace y2 w1.h.h.t, RdN NPeer y3 w1.h.peers, RdL EByte y4 w1.d.safe, RdL EByte y5 w1.d.wait, FactsG NClient γ1 w1.c, RdN NMail y7 w1.mail, RdL EInt y8 x1.roots, LibP Tryz.prog] ⟨[⟨c1, 37, cW y1 y2 y3 y4 y5 y6 y7 w1⟩], [ownL NClient.E 63 y6 y6b (zipG γ1 0 w1.c)]⟩ (fun (X : SlV × SlV × SlV × SlV × SlV × SlV × Option Nat × (Nat → SlV × SlV × SlV × SlV) × SlV) => .int .i64 (aY w1 x1).1) (fun X => [RdL EStep X.1 (aY w1 x1).2.h.h.l, RdL EPlace X.2.1 (aY w1 x1).2.h.h.t, RdN NPeer X.2.2.1 (aY w1 x1).2.h.peers, RdL EByte X.2.2.2.1 (aY w1 x1).2.d.safe, RdL EByte X.2.2.2.2.1 (aY w1 x1).2.d.wait, FactsG NClient X.2.2.2.2.2.2.2.1 (aY w1 x1).2.c, RdN NMail X.2.2.2.2.2.2.2.2 (aY w1 x1).2.mail]) (fun X => ⟨[⟨c1, 37, cW X.1 X.2.1 X.2.2.1 X.2.2.2.1 X.2.2.2.2.1 X.2.2.2.2.2.1 X.2.2.2.2.2.2.2.2 (aY w1 x1).2⟩], [ownL NClient.E 63 X.2.2.2.2.2.1 X.2.2.2.2.2.2.1 (zipG X.2.2.2.2.2.2.2.1 0 (aY w1 x1).2.c)]⟩) := by
 refine Dq Tryz.func32 fun C => ?_;refine Qc y8 8 fun hlen1 => ?_;refine BxT fun g1 => ?_;have hf := Ri (aY.eq_1 w1 x1);refine Ce hf (fun hc1 hc1p hf => ?_) fun hc1 hc1p hf => ?_
 ·refine Cd' (fun hc2 => ?_) fun hc2 => ?_
  ·refine Cm (ot c1 y1 y2 y3 y4 y5 y6 y6b γ1 y7 w1 y8 x1 Zc) fun x2 => ?_;refine Rx ?_; exact Rr ⟨x2.1, x2.2.1, x2.2.2.1, x2.2.2.2.1, x2.2.2.2.2.1, x2.2.2.2.2.2.1, x2.2.2.2.2.2.2.1, x2.2.2.2.2.2.2.2.1, x2.2.2.2.2.2.2.2.2⟩
  ·exact Bool.noConfusion (hc2.symm.trans hc1)
 ·refine Ce hf (fun hc3 hc3p hf => ?_) fun hc3 hc3p hf => ?_
  ·refine Cm (ot c1 y1 y2 y3 y4 y5 y6 y6b γ1 y7 w1 y8 x1 Zc) fun x3 => ?_;refine Rx ?_; exact Rr ⟨x3.1, x3.2.1, x3.2.2.1, x3.2.2.2.1, x3.2.2.2.2.1, x3.2.2.2.2.2.1, x3.2.2.2.2.2.2.1, x3.2.2.2.2.2.2.2.1, x3.2.2.2.2.2.2.2.2⟩
  ·refine Ce hf (fun hc4 hc4p hf => ?_) fun hc4 hc4p hf => ?_
   ·(repeat refine er ?_);refine my [0, 4] [true, true] (fun (x4 : SlV) => [(5, .v (x4.val (aL w1.mail x1.n false).1.length)), (7, .v (.int .i64 (aL w1.mail x1.n false).2.2))]) (fun (x4 : SlV) => []) (fun (x4 : SlV) => [ownL NClient.E 63 y6 y6b (zipG γ1 0 w1.c)]) (fun (x4 : SlV) => [RdN NMail x4 (aL w1.mail x1.n false).1]) (fun _ => True) (.cons rfl (.cons rfl (.nil _))) (.keep (.keep (.nil))) ?_ ?_
    ·refine Rg [(13,none)] ?_;refine Dx (.range 6) ?_;refine Rw 6 11 ?_ ?_
     ·refine Ck (k6 y7 w1.mail x1.n false) fun x5 => ?_;refine Dx [7,8,9] ?_;refine Rp' (Fa 10 [11,12,13]) ?_;refine Rn 11 ?_;refine AlT fun g2 => ?_;refine Ra 12 rfl Qp ?_;refine Rn 13 ?_;refine Wa ?_;refine Ra 14 rfl Qp ?_;refine Re0 ?_;refine ⟨x5.1, trivial, Le4⟩
     ·refine AlT fun g3 => ?_;refine Rn 6 ?_;refine Ck (k6 y7 w1.mail x1.n false) fun x6 => ?_;refine Dx [7,8,9] ?_;refine Rp' (Fa 10 [12,13]) ?_;refine Ra 12 rfl Qp ?_;refine Rn 13 ?_;refine Wa ?_;refine Ra 14 rfl Qp ?_;refine Re0 ?_;refine ⟨x6.1, trivial, Le4⟩
    ·rintro x4 -;simp only [Lc];refine Ce hf (fun hc5 hc5p hf => ?_) fun hc5 hc5p hf => ?_
     ·refine Rx ?_; exact Rr ⟨y1, y2, y3, y4, y5, y6, y6b, γ1, x4⟩
     ·refine Rx ?_; exact Rr ⟨y1, y2, y3, y4, y5, y6, y6b, γ1, y7⟩
   ·refine Ce hf (fun hc6 hc6p hf => ?_) fun hc6 hc6p hf => ?_
    ·refine Cd' (fun hc7 => ?_) fun hc7 => ?_
     ·refine Cm (nK c1 y1 y2 y3 y4 y5 y6 y6b γ1 y7 w1 y8 x1) fun x7 => ?_;refine Rx ?_; exact Rr ⟨x7.1, x7.2.1, x7.2.2.1, x7.2.2.2.1, x7.2.2.2.2.1, x7.2.2.2.2.2.1, x7.2.2.2.2.2.2.1, x7.2.2.2.2.2.2.2.1, x7.2.2.2.2.2.2.2.2⟩
     ·exact Bool.noConfusion (hc7.symm.trans hc6)
    ·refine Ce hf (fun hc8 hc8p hf => ?_) fun hc8 hc8p hf => ?_
     ·refine Cm (nK c1 y1 y2 y3 y4 y5 y6 y6b γ1 y7 w1 y8 x1) fun x8 => ?_;refine Rx ?_; exact Rr ⟨x8.1, x8.2.1, x8.2.2.1, x8.2.2.2.1, x8.2.2.2.2.1, x8.2.2.2.2.2.1, x8.2.2.2.2.2.2.1, x8.2.2.2.2.2.2.2.1, x8.2.2.2.2.2.2.2.2⟩
     ·refine Ce hf (fun hc9 hc9p hf => ?_) fun hc9 hc9p hf => ?_
      ·refine Cd' (fun hc10 => ?_) fun hc10 => ?_
       ·refine Cm (fO c1 y1 y2 y3 y4 y5 y6 y6b γ1 y7 w1 y8 x1 Zc Zc Zc) fun x9 => ?_;refine Rx ?_; exact Rr ⟨x9.1, x9.2.1, x9.2.2.1, x9.2.2.2.1, x9.2.2.2.2.1, x9.2.2.2.2.2.1, x9.2.2.2.2.2.2.1, x9.2.2.2.2.2.2.2.1, x9.2.2.2.2.2.2.2.2⟩
       ·exact Bool.noConfusion (hc10.symm.trans hc9)
      ·refine Ce hf (fun hc11 hc11p hf => ?_) fun hc11 hc11p hf => ?_
       ·refine Cd' (fun hc12 => ?_) fun hc12 => ?_
        ·refine Cm (fO c1 y1 y2 y3 y4 y5 y6 y6b γ1 y7 w1 y8 x1 Zc Zc Zc) fun x10 => ?_;refine Rx ?_; exact Rr ⟨x10.1, x10.2.1, x10.2.2.1, x10.2.2.2.1, x10.2.2.2.2.1, x10.2.2.2.2.2.1, x10.2.2.2.2.2.2.1, x10.2.2.2.2.2.2.2.1, x10.2.2.2.2.2.2.2.2⟩
        ·exact Bool.noConfusion (hc12.symm.trans hc11)
       ·refine Ce hf (fun hc13 hc13p hf => ?_) fun hc13 hc13p hf => ?_
        ·refine Cd' (fun hc14 => ?_) fun hc14 => ?_
         ·refine Cm (fO c1 y1 y2 y3 y4 y5 y6 y6b γ1 y7 w1 y8 x1 Zc Zc Zc) fun x11 => ?_;refine Rx ?_; exact Rr ⟨x11.1, x11.2.1, x11.2.2.1, x11.2.2.2.1, x11.2.2.2.2.1, x11.2.2.2.2.2.1, x11.2.2.2.2.2.2.1, x11.2.2.2.2.2.2.2.1, x11.2.2.2.2.2.2.2.2⟩
         ·exact Bool.noConfusion (hc14.symm.trans hc13)
        ·refine Ce hf (fun hc15 hc15p hf => ?_) fun hc15 hc15p hf => ?_
         ·refine Cd' (fun hc16 => ?_) fun hc16 => ?_
          ·refine Cm (fO c1 y1 y2 y3 y4 y5 y6 y6b γ1 y7 w1 y8 x1 Zc Zc Zc) fun x12 => ?_;refine Rx ?_; exact Rr ⟨x12.1, x12.2.1, x12.2.2.1, x12.2.2.2.1, x12.2.2.2.2.1, x12.2.2.2.2.2.1, x12.2.2.2.2.2.2.1, x12.2.2.2.2.2.2.2.1, x12.2.2.2.2.2.2.2.2⟩
          ·exact Bool.noConfusion (hc16.symm.trans hc15)
         ·refine Ce hf (fun hc17 hc17p hf => ?_) fun hc17 hc17p hf => ?_
          ·refine Cd' (fun hc18 => ?_) fun hc18 => ?_
           ·refine Cm (fO c1 y1 y2 y3 y4 y5 y6 y6b γ1 y7 w1 y8 x1 Zc Zc Zc) fun x13 => ?_;refine Rx ?_; exact Rr ⟨x13.1, x13.2.1, x13.2.2.1, x13.2.2.2.1, x13.2.2.2.2.1, x13.2.2.2.2.2.1, x13.2.2.2.2.2.2.1, x13.2.2.2.2.2.2.2.1, x13.2.2.2.2.2.2.2.2⟩
           ·exact Bool.noConfusion (hc18.symm.trans hc17)
          ·refine Ce hf (fun hc19 hc19p hf => ?_) fun hc19 hc19p hf => ?_
           ·refine Cm (fO c1 y1 y2 y3 y4 y5 y6 y6b γ1 y7 w1 y8 x1 Zc Zc Zc) fun x14 => ?_;refine Rx ?_; exact Rr ⟨x14.1, x14.2.1, x14.2.2.1, x14.2.2.2.1, x14.2.2.2.2.1, x14.2.2.2.2.2.1, x14.2.2.2.2.2.2.1, x14.2.2.2.2.2.2.2.1, x14.2.2.2.2.2.2.2.2⟩
           ·refine Rx ?_; exact Rr ⟨y1, y2, y3, y4, y5, y6, y6b, γ1, y7⟩
def bw (l : List Rec) : Str := l.flatMap (fun r => k4 r ++ [10])
theorem i6 : bw [] = [] := rfl
theorem lc (r : Rec) (l : List Rec) : bw (r :: l) = k4 r ++ 10 :: bw l := by simp [bw]
theorem i7 (a b : List Rec) : bw (a ++ b) = bw a ++ bw b := by simp [bw]
theorem v6 (l : List Rec) : l.length ≤ (bw l).length := by
 induction l with
 | nil => simp
 | cons r l ih => rw [lc]; simp only [List.length_append, List.length_cons]; omega
theorem C8 (r : Rec) : (10 : UInt8) ∉ wordOf r := by
 unfold wordOf;cases (r.kind == 1) <;> cases (r.kind == 2) <;> simp
theorem AN : ∀ (l : List Int), (10 : UInt8) ∉ glue 32 (l.map Lib.itoa)
 | [] => by simp [glue]
 | n :: l => by
  have h1 : (10 : UInt8) ∉ Lib.itoa n := AH (by decide);have h2 := AN l;simp only [glue, List.map_cons, List.flatMap_cons, List.mem_append, List.mem_cons] at h2 ⊢;intro h;rcases h with (h | h) | h
  ·exact absurd h (by decide)
  ·exact h1 h
  ·exact h2 h
theorem pr_nl (r : Rec) : (10 : UInt8) ∉ k4 r := by
 intro h;rcases List.mem_append.1 h with h | h
 ·exact C8 r h
 ·exact AN _ h
abbrev AllR (l : List Rec) : Prop := ∀ r ∈ l, aH r = 0
theorem zl (hr : aH r = 0) (s0 : Str) (most : Int) (f : Nat) (t : Str) (acc : List Rec) (h : (acc.length : Int) ≠ most) :
  ca s0 most (f + 1) (k4 r ++ 10 :: t) acc = ca s0 most f t (acc ++ [r]) := by
 have h1 : ((k4 r ++ 10 :: t) != ([] : Str)) = true := by simp
 have h2 : ((acc.length : Int) == most) = false := by simpa using h
 rw [ca];simp only [h1, pB t (pr_nl r), xO hr, h2, cond_true, cond_false, Bool.not_true, bne_self_eq_false]
theorem uB (s0 : Str) (most : Int) (t : Str) : ∀ (l acc : List Rec) (f : Nat), AllR l → ((acc.length + l.length : Nat) : Int) ≤ most →
  ca s0 most (f + l.length) (bw l ++ t) acc = ca s0 most f t (acc ++ l)
 | [], acc, f, _, _ => by simp [i6]
 | r :: l, acc, f, hl, hm => by
  simp only [List.length_cons] at hm;have e : f + (r :: l).length = (f + l.length) + 1 := by simp only [List.length_cons]; omega
  rw [e, lc, List.append_assoc, List.cons_append, zl (hl r (.head _)) s0 most _ _ _ (by omega),
   uB s0 most t l (acc ++ [r]) f (fun x hx => hl x (.tail _ hx)) (by simp only [Ln]; omega)]
  simp
variable {t : Str}
theorem AD (s0 : Str) (most : Int) (f : Nat) (ht : (10 : UInt8) ∉ t) (acc : List Rec) :
  ca s0 most (f + 1) t acc = (acc, (s0.length : Int) - (t.length : Int), if t = [] then 0 else 8) := by
 rw [ca];by_cases h : t = []
 ·subst h;simp
 ·have h1 : (t != ([] : Str)) = true := by simpa using h
  simp only [h1, ry ht, cond_true, Bool.not_false, if_neg h]
variable {l : List Rec}
theorem yt (most : Int) (hl : AllR l) (ht : (10 : UInt8) ∉ t) (hm : (l.length : Int) ≤ most) :
  bm (bw l ++ t) most = (l, ((bw l).length : Int), if t = [] then 0 else 8) := by
 have hlen := v6 l;have e : (bw l ++ t).length + 1 = ((bw l).length - l.length + t.length + 1) + l.length := by simp only [List.length_append]; omega
 unfold bm;rw [e, uB _ _ _ _ _ _ hl (by simpa using hm), AD _ _ _ ht];simp only [List.nil_append, List.length_append];congr 2;omega
theorem tg (most : Int) (hl : AllR l) (hm : (l.length : Int) ≤ most) :
  bm (bw l) most = (l, ((bw l).length : Int), 0) := by
 have := yt most hl (t := []) (by simp) hm;simpa using this
variable {a : List Rec}
theorem nC {w : Str} (ha : AllR a) (hn : a.length ≤ 60) (hl : (bw a).length + w.length ≤ 60000) : ck ⟨bw a, w⟩ = 0 := by
 unfold ck;have h : (decide (((bw a).length : Int) > 60000) || decide ((w.length : Int) > (60000 - ((bw a).length : Int)))) = false := by
  simp only [Bo]; omega
 simp only [h, cond_false, tg 60 ha (by omega)]
variable {b : List Rec}
theorem vC (ha : AllR a) (hb : AllR b) (hn : a.length + b.length ≤ 60) (ht : (10 : UInt8) ∉ t) (hl : (bw a).length + (bw b ++ t).length ≤ 60000) :
  az ⟨bw a, bw b ++ t⟩ = (⟨bw (a ++ b), []⟩, a ++ b, 0) := by
 unfold az;have h2 : (bw b ++ t).take (bw b).length = bw b := by simp
 simp only [nC ha (by omega) hl, tg 60 ha (by omega), yt (60 - (a.length : Int)) hb ht (by omega), bne_self_eq_false, cond_false, Int.toNat_natCast, h2, List.flatten_cons, List.flatten_nil, List.append_nil, i7]
theorem lA : ∀ {l : List Rec}, AllR l → (bw l).length ≤ 160 * l.length
 | [], _ => by simp [i6]
 | r :: l, h => by
  have h1 := pq (h r (.head _));have h2 := lA (fun x hx => h x (.tail r hx));rw [lc];simp only [List.length_append, List.length_cons];omega
theorem yQ {q : Rec} (ha : AllR a) (hq : aH q = 0) (hn : a.length < 60) : fJ ⟨bw a, []⟩ q = (⟨bw a, bw [q]⟩, 0) := by
 have h1 := lA ha;have h2 := pq hq;have h3 : ck ⟨bw a, []⟩ = 0 := nC ha (by omega) (by simp only [List.length_nil]; omega);unfold fJ;have h4 : decide ((((k4 q).length : Int) + 1) > ((60000 - ((bw a).length : Int)) - (([] : List UInt8).length : Int))) = false := by
  simp only [List.length_nil, decide_eq_false_iff_not]; omega
 simp only [h3, vO, if_pos hq, bne_self_eq_false, cond_false, h4];simp [bw]
theorem wQ (ha : AllR a) (hb : AllR b) (hn : a.length + b.length ≤ 60) : f8 ⟨bw a, bw b⟩ = (⟨bw (a ++ b), []⟩, 0) := by
 have h1 := lA ha;have h2 := lA hb;have hab : AllR (a ++ b) := fun x hx => (List.mem_append.1 hx).elim (ha x) (hb x);have h3 : ck ⟨bw a, bw b⟩ = 0 := nC ha (by omega) (by omega);have h4 : ck ⟨bw (a ++ b), []⟩ = 0 := nC hab (by rw [List.length_append]; omega) (by rw [i7, List.length_append, List.length_nil]; omega);unfold f8;simp only [List.flatten_cons, List.flatten_nil, List.append_nil, ← i7, h3, h4, bne_self_eq_false, cond_false]
theorem wK {c : UInt8} : ∀ {s : Str}, (cutc c s).2.2 = true → s = (cutc c s).1 ++ c :: (cutc c s).2.1
 | [], h => by simp [cutc] at h
 | b :: r, h => by
  rw [cutc] at h ⊢;cases hb : (b == c) with
  | true => rw [cond_true, eq_of_beq hb]; rfl
  | false =>
   rw [hb, cond_false] at h;rw [cond_false];simp only [List.cons_append];rw [← wK h]
theorem qI (s0 : Str) (most : Int) : ∀ (f : Nat) (s : Str) (acc : List Rec), s.length < f → (acc.length : Int) ≤ most → ∃ m t, s = bw m ++ t ∧ AllR m ∧ ((acc ++ m).length : Int) ≤ most ∧
  (ca s0 most f s acc).1 = acc ++ m ∧ (ca s0 most f s acc).2.1 = (s0.length : Int) - (t.length : Int) ∧ ((ca s0 most f s acc).2.2 = 0 → t = [])
 | 0, s, acc, hf, _ => absurd hf (Nat.not_lt_zero _)
 | f + 1, s, acc, hf, ha => by
  rw [ca];cases h1 : (s != ([] : Str)) with
  | false =>
   have hs : s = [] := by simpa using h1
   subst hs;exact ⟨[], [], rfl, (fun _ h => by cases h), by simpa using ha, by simp, by simp, fun _ => rfl⟩
  | true =>
   simp only [cond_true];cases h2 : (!(cutc 10 s).2.2) with
   | true => simp only [cond_true]; exact ⟨[], s, by simp [i6], (fun _ h => by cases h), by simpa using ha, by simp, rfl, fun h => absurd h (by decide)⟩
   | false =>
    have h2 : (cutc 10 s).2.2 = true := by simpa using h2
    simp only [cond_false];cases h3 : ((cw (cutc 10 s).1).2 != 0) with
    | true => simp only [cond_true]; exact ⟨[], s, by simp [i6], (fun _ h => by cases h), by simpa using ha, by simp, rfl, fun h => by rw [h] at h3; cases h3⟩
    | false =>
     simp only [cond_false];cases h4 : ((acc.length : Int) == most) with
     | true => simp only [cond_true]; exact ⟨[], s, by simp [i6], (fun _ h => by cases h), by simpa using ha, by simp, rfl, fun h => absurd h (by decide)⟩
     | false =>
      have h4 := beq_eq_false_iff_ne.1 h4;simp only [cond_false];have hp := Cl (s := (cutc 10 s).1) (x := (cw (cutc 10 s).1).1) (Prod.ext rfl (ag h3));have hlt := tG 10 s h2;obtain ⟨m, t, g1, g2, g3, g4, g5, g6⟩ := qI s0 most f (cutc 10 s).2.1 (acc ++ [(cw (cutc 10 s).1).1]) (by omega) (by simp only [Ln]; omega);refine ⟨(cw (cutc 10 s).1).1 :: m, t, ?_, ?_, ?_, ?_, g5, g6⟩
      ·have hj := wK h2;rw [lc, hp.2, List.append_assoc, List.cons_append, ← g1];exact hj
      ·intro x hx;rcases List.mem_cons.1 hx with rfl | hx
       ·exact hp.1
       ·exact g2 x hx
      ·simpa using g3
      ·rw [g4]; simp
theorem uA (s : Str) {most : Int} (h : 0 ≤ most) : ∃ m t, s = bw m ++ t ∧ AllR m ∧ (m.length : Int) ≤ most ∧ (bm s most).1 = m ∧ (bm s most).2.1 = ((bw m).length : Int) ∧ ((bm s most).2.2 = 0 → t = []) := by
 obtain ⟨m, t, g1, g2, g3, g4, g5, g6⟩ := qI s most (s.length + 1) s [] (by omega) (by simpa using h);refine ⟨m, t, g1, g2, by simpa using g3, (by rw [List.nil_append] at g4; exact g4), ?_, g6⟩;have : (bm s most).2.1 = (s.length : Int) - (t.length : Int) := g5;rw [this, g1, List.length_append]; omega
theorem ue (h : ck d = 0) : ∃ l, AllR l ∧ l.length ≤ 60 ∧ d.safe = bw l := by
 unfold ck at h;cases h1 : (decide ((d.safe.length : Int) > 60000) || decide ((d.wait.length : Int) > (60000 - (d.safe.length : Int)))) with
 | true => rw [h1] at h; cases h
 | false =>
  rw [h1, cond_false] at h;obtain ⟨m, t, g1, g2, g3, g4, g5, g6⟩ := uA d.safe (most := 60) (by decide);refine ⟨m, g2, by omega, ?_⟩;rw [g1, g6 h, List.append_nil]
theorem xM (h : (az d).2.2 = 0) : ∃ l, AllR l ∧ l.length ≤ 60 ∧ az d = (⟨bw l, []⟩, l, 0) ∧ (d.wait = [] → d = ⟨bw l, []⟩) := by
 unfold az at h ⊢;cases h1 : (ck d != 0) with
 | true => rw [h1, cond_true] at h; simp only at h; rw [h] at h1; cases h1
 | false =>
  obtain ⟨l, a1, a2, a3⟩ := ue (ag h1);have e1 : bm d.safe 60 = (l, ((bw l).length : Int), 0) := by rw [a3]; exact tg 60 a1 (by omega)
  obtain ⟨m, t, g1, g2, g3, g4, g5, g6⟩ := uA d.wait (most := 60 - (l.length : Int)) (by omega);have hall : AllR (l ++ m) := fun x hx => (List.mem_append.1 hx).elim (a1 x) (g2 x);refine ⟨l ++ m, hall, by rw [List.length_append]; omega, ?_, fun hw => ?_⟩
  ·simp only [cond_false, e1, g4, g5, Int.toNat_natCast];have e2 : d.wait.take (bw m).length = bw m := by rw [g1, List.take_left]
   rw [e2, a3, i7];simp
  ·have hm : bw m = [] := by
    have := congrArg List.length g1;rw [hw] at this;simp only [List.length_nil, List.length_append] at this;exact List.eq_nil_of_length_eq_zero (by omega)
   obtain ⟨s, w⟩ := d;simp only at a3 hw;rw [a3, hw, i7, hm, List.append_nil]
theorem uQ (ha : AllR l) (hn : l.length ≤ 60) : az ⟨bw l, []⟩ = (⟨bw l, []⟩, l, 0) := by
 have := vC (a := l) (b := []) (t := []) ha (fun _ h => by cases h) (by simpa using hn) (by simp) (by have := lA ha; simp only [i6, List.nil_append, List.length_nil]; omega);simpa [i6] using this
theorem CL (f : Peer → Peer → Bool) (hf : ∀ a b, f a b = true → a = b) (s2 : List Peer) : ∀ (l : List Peer) (k : Nat), l.length + k = s2.length → cz s2 f l k = true → l = s2.drop k
 | [], k, h, _ => by
  simp only [List.length_nil, Nat.zero_add] at h;rw [h, List.drop_length]
 | r :: l, k, h, h0 => by
  simp only [List.length_cons] at h;rw [cz] at h0;cases h1 : (!(f r (gt s2 k))) with
  | true => rw [h1] at h0; cases h0
  | false =>
   rw [h1, cond_false] at h0;have h1 : f r (gt s2 k) = true := by simpa using h1
   rw [aK (by omega : k < s2.length), ← hf _ _ h1, ← CL f hf s2 l (k + 1) (by omega) h0]
theorem xv {a b : Hub} (h : jj a b = true) : a = b := by
 unfold jj dY at h;cases h1 : ((a.peers.length : Int) != (b.peers.length : Int)) with
 | true => rw [h1] at h; simp at h
 | false =>
  rw [h1, cond_false] at h;simp only [Bool.and_eq_true, beq_iff_eq] at h;obtain ⟨⟨h2, h3⟩, h4⟩ := h;have h5 := CL ji (fun x y hxy => by
   obtain ⟨x1, x2, x3⟩ := x; obtain ⟨y1, y2, y3⟩ := y;simp only [ji, Bool.and_eq_true, beq_iff_eq, decide_eq_true_eq] at hxy;obtain ⟨⟨rfl, rfl⟩, rfl⟩ := hxy; rfl) b.peers a.peers 0 (by simp only [bne_eq_false_iff_eq] at h1; omega) h4
  obtain ⟨a1, a2, a3⟩ := a; obtain ⟨b1, b2, b3⟩ := b;simp only [List.drop_zero] at h2 h3 h5;rw [(qS _ _).1 h2, h3, h5]
theorem jX (w : Wld) : ∀ (l : List Client) (k : Nat), l = w.c.drop k → (dI l k = 0 ↔ ∀ i, k ≤ i → i < w.c.length → bK (gt w.c i) (i : Int) = 0)
 | [], k, h => by
  have : w.c.length ≤ k := by have := congrArg List.length h; simp at this; omega
  exact ⟨fun _ i h1 h2 => by omega, fun _ => rfl⟩
 | c :: l, k, h => by
  have hk : k < w.c.length := by
   rcases Nat.lt_or_ge k w.c.length with h' | h'
   ·exact h'
   ·rw [Dl h'] at h; cases h
  rw [aK hk] at h;obtain ⟨rfl, h'⟩ := List.cons.inj h;rw [dI];cases h1 : (bK (gt w.c k) (k : Int) != 0) with
  | true =>
   rw [cond_true];refine ⟨fun h2 => (by rw [h2] at h1; cases h1), fun h2 => h2 k Nr hk⟩
  | false =>
   rw [cond_false, jX w l (k + 1) h'];constructor
   ·intro h2 i hi hl;by_cases hik : i = k
    ·rw [hik]; exact ag h1
    ·exact h2 i (by omega) hl
   ·intro h2 i hi hl;exact h2 i (by omega) hl
structure IsW (w : Wld) (l : List Rec) : Prop where
 three : w.c.length = 3
 mail : cx w.mail = 0
 all : AllR l
 sixty : l.length ≤ 60
 recd : az w.d = (⟨bw l, []⟩, l, 0)
 up : w.up = true → w.d = ⟨bw l, []⟩ ∧ aF l = (w.h, 0)
 down : w.up = false → w.h = dU
 cli : ∀ k, k < 3 → bK (gt w.c k) (k : Int) = 0
theorem rB : aF [] = (dU, 0) := rfl
theorem gn (w : Wld) : bT w = 0 ↔ ∃ l, IsW w l := by
 constructor
 ·intro h;unfold bT at h;rw [km (by decide)] at h;obtain ⟨h1, h⟩ := h;have h1 : w.c.length = 3 := by simp only [bne_eq_false_iff_eq] at h1; omega
  cases h2 : (cx w.mail != 0) with
  | true => rw [h2, cond_true] at h; rw [h] at h2; cases h2
  | false =>
  rw [h2, cond_false] at h;cases h3 : ((az w.d).2.2 != 0) with
  | true => rw [h3, cond_true] at h; rw [h] at h3; cases h3
  | false =>
  rw [h3, cond_false, km (by decide)] at h;obtain ⟨h4, h⟩ := h;obtain ⟨l, a1, a2, a3, a4⟩ := xM (ag h3);have key : ∀ r, (bif ((aF r).2 != 0) then (aF r).2 else (bif (!(jj (aF r).1 w.h)) then 4 else dI w.c 0)) = 0 → aF r = (w.h, 0) ∧ ∀ k, k < 3 → bK (gt w.c k) (k : Int) = 0 := by
   intro r hr;cases h5 : ((aF r).2 != 0) with
   | true => rw [h5, cond_true] at hr; rw [hr] at h5; cases h5
   | false =>
    rw [h5, cond_false, km (by decide)] at hr;obtain ⟨h6, h7⟩ := hr;refine ⟨Prod.ext (xv (by simpa using h6)) (ag h5), fun k hk => ?_⟩;exact (jX w w.c 0 rfl).1 h7 k N0 (by omega)
  refine ⟨l, ?_⟩;rw [a3] at h;cases hu : w.up with
  | false =>
   rw [hu] at h;obtain ⟨b1, b2⟩ := key [] h;rw [rB] at b1;exact ⟨h1, ag h2, a1, a2, a3, fun hu2 => (by rw [hu] at hu2; cases hu2), fun _ => (congrArg Prod.fst b1).symm, b2⟩
  | true =>
   rw [hu] at h h4;obtain ⟨b1, b2⟩ := key l h;have hw : w.d.wait = [] := List.eq_nil_of_length_eq_zero (by simpa using h4);exact ⟨h1, ag h2, a1, a2, a3, fun _ => ⟨a4 hw, b1⟩, fun hu2 => (by rw [hu] at hu2; cases hu2), b2⟩
 ·rintro ⟨l, h⟩;unfold bT;have e1 : ((w.c.length : Int) != 3) = false := by rw [h.three]; rfl
  have e2 : (cx w.mail != 0) = false := by rw [h.mail]; rfl
  have e3 : ((az w.d).2.2 != 0) = false := by rw [h.recd]; rfl
  have e4 : dI w.c 0 = 0 := (jX w w.c 0 rfl).2 fun i _ hi => h.cli i (by rw [h.three] at hi; exact hi);rw [e1, e2, e3, cond_false, cond_false, cond_false, h.recd];cases hu : w.up with
  | false =>
   have e5 : jj (aF []).1 w.h = true := by rw [rB, h.down hu]; exact nz _
   simp only [Bool.false_and, cond_false, Bool.not_false, cond_true, e5, e4, Bool.not_true];rfl
  | true =>
   obtain ⟨f1, f2⟩ := h.up hu;have e5 : w.d.wait = [] := by rw [f1]
   simp only [e5, f2, nz, e4];rfl
variable {w : Wld}
theorem IsW.hub (h : IsW w l) : IsHub w.h ∧ (w.up = true → w.h.version = (l.length : Int)) := by
 cases hu : w.up with
 | false => rw [h.down hu]; exact ⟨mT, fun h => by cases h⟩
 | true =>
  have h1 := (h.up hu).2;have h2 := rC (l := l) (by rw [h1]);rw [h1] at h2;exact ⟨h2.1, fun _ => h2.2.1⟩
theorem ql (h : bT w = 0) : dj w.h = 0 ∧ w.c.length = 3 ∧ (w.up = true → w.h.version ≤ ((az w.d).2.1.length : Int)) := by
 obtain ⟨l, h⟩ := (gn w).1 h;have h1 := h.hub;refine ⟨(eo _).2 h1.1, h.three, fun hu => ?_⟩;rw [h1.2 hu, h.recd]; exact Int.le_refl _
theorem pX : ∀ (l : List Rec) (r : Rec) (h g : Hub), cu l h.h.l h.h.t h.version h.peers = (g, 0) → (bd g r).2 = 0 →
  cu (l ++ [r]) h.h.l h.h.t h.version h.peers = ((bd g r).1, 0)
 | [], r, h, g, h0, h1 => by
  rw [cu] at h0;have he : (⟨⟨h.h.l, h.h.t⟩, h.version, h.peers⟩ : Hub) = h := rfl;have hg : h = g := congrArg Prod.fst h0;subst hg;rw [List.nil_append, cu];simp only [he, h1, bne_self_eq_false, cond_false, cu]
 | q :: l, r, h, g, h0, h1 => by
  rw [cu] at h0;rw [List.cons_append, cu];have he : (⟨⟨h.h.l, h.h.t⟩, h.version, h.peers⟩ : Hub) = h := rfl;simp only [he] at h0 ⊢;cases h2 : ((bd h q).2 != 0) with
  | true =>
   rw [h2, cond_true] at h0;have h3 : (bd h q).2 = 0 := congrArg Prod.snd h0;rw [h3] at h2; cases h2
  | false =>
   rw [h2, cond_false] at h0;rw [cond_false];exact pX l r (bd h q).1 g h0 h1
theorem xL {g : Hub} (h0 : aF l = (g, 0)) (h1 : (bd g r).2 = 0) (hn : l.length < 60) : aF (l ++ [r]) = ((bd g r).1, 0) := by
 have hr := wT (l := l) (by rw [h0]);have e1 : aF l = cu l dU.h.l dU.h.t dU.version dU.peers := hr.2.2;unfold aF;have : decide (((l ++ [r]).length : Int) > 60) = false := by simp only [Ln, decide_eq_false_iff_not]; omega
 rw [this, cond_false];exact pX l r dU g (e1.symm.trans h0) h1
theorem vt {h : Hub} (h0 : (bd h r).2 = 0) : h.version ≠ 60 := by
 intro hv;have hn := vq h0;unfold bd at h0;have e1 : (aH r != 0) = false := by rw [hn]; rfl
 have e2 : (h.version == 60) = true := by rw [hv]; rfl
 rw [e1, cond_false, e2, cond_true] at h0;cases h0
theorem qi (h : IsW w l) (hu : w.up = true) (r : Rec) : bL w r = if (bd w.h r).2 = 0 then (0, ⟨(bd w.h r).1, ⟨bw (l ++ [r]), []⟩, w.up, w.c, w.mail⟩) else ((bd w.h r).2, w) := by
 obtain ⟨f1, f2⟩ := h.up hu;have hh := h.hub;unfold bL;rw [DP hh.1];by_cases h0 : (bd w.h r).2 = 0
 ·have hv := vt h0;have hv2 := hh.2 hu;have hs := h.sixty;have hq := vq h0;have hq1 : AllR [r] := fun x hx => by rw [List.mem_singleton] at hx; subst hx; exact hq
  rw [if_pos h0, f1, yQ h.all hq (by omega)];simp only [h0, wQ h.all hq1 (by simp only [List.length_cons, List.length_nil]; omega), bne_self_eq_false, cond_false]
 ·rw [if_neg h0];have : ((bd w.h r).2 != 0) = true := by simpa using h0
  rw [this, cond_true]
theorem uY (h : IsW w l) (hu : w.up = true) (h0 : (bd w.h r).2 = 0) : IsW ⟨(bd w.h r).1, ⟨bw (l ++ [r]), []⟩, w.up, w.c, w.mail⟩ (l ++ [r]) := by
 obtain ⟨f1, f2⟩ := h.up hu;have hh := h.hub;have hv := vt h0;have hv2 := hh.2 hu;have hs := h.sixty;have hq := vq h0;have hall : AllR (l ++ [r]) := fun x hx => (List.mem_append.1 hx).elim (h.all x) fun hx => by rw [List.mem_singleton] at hx; subst hx; exact hq
 have hl : (l ++ [r]).length ≤ 60 := by simp only [Ln]; omega
 exact ⟨h.three, h.mail, hall, hl, uQ hall hl, fun _ => ⟨rfl, xL f2 h0 (by omega)⟩, fun hd => (by simp only at hd; rw [hu] at hd; cases hd), h.cli⟩
theorem Bb (l : List Mail) (m : Mail) : jD l m = bif cx l != 0 then ([], cx l) else bif cr m != 0 then ([], cr m) else bif decide ((l.length : Int) < 30) then (l ++ [m], 0) else (l, 0) := by
 unfold jD j0 jZ jY;rw [qo]
def posted (l : List Mail) (m : Mail) : List Mail := if cr m = 0 ∧ l.length < 30 then l ++ [m] else l
theorem vm (h : IsW w l) (m : Mail) : dP w m = ⟨w.h, w.d, w.up, w.c, posted w.mail m⟩ := by
 unfold dP posted;rw [Bb, h.mail, bne_self_eq_false, cond_false];by_cases h1 : cr m = 0
 ·rw [h1, bne_self_eq_false, cond_false];by_cases h2 : w.mail.length < 30
  ·have : decide ((w.mail.length : Int) < 30) = true := by simp only [decide_eq_true_eq]; omega
   rw [this, if_pos ⟨rfl, h2⟩]; rfl
  ·have : decide ((w.mail.length : Int) < 30) = false := by simp only [decide_eq_false_iff_not]; omega
   rw [this, if_neg (fun h => h2 h.2)]; rfl
 ·have : (cr m != 0) = true := by simpa using h1
  rw [this, cond_true, if_neg (fun h => h1 h.1)];have : (cr m == 0) = false := by simpa using h1
  simp only [this, cond_false]
theorem s4 {l : List Mail} (h : cx l = 0) (m : Mail) : cx (posted l m) = 0 := by
 unfold posted;split
 ·rename_i h1;obtain ⟨h2, h3⟩ := (fb l).1 h;refine (fb _).2 ⟨by simp only [Ln]; omega, fun x hx => ?_⟩;rcases List.mem_append.1 hx with hx | hx
  ·exact h3 x hx
  ·rw [List.mem_singleton] at hx; subst hx; exact h1.1
 ·exact h
theorem IsW.withMail (h : IsW w l) {q : List Mail} (hq : cx q = 0) : IsW ⟨w.h, w.d, w.up, w.c, q⟩ l :=
 ⟨h.three, hq, h.all, h.sixty, h.recd, h.up, h.down, h.cli⟩
variable {c : Client} {k : Nat}
theorem IsW.withCli (h : IsW w l) (hk : k < 3) (hc : bK c (k : Int) = 0) : IsW ⟨w.h, w.d, w.up, w.c.set k c, w.mail⟩ l :=
 ⟨by simp only [List.length_set]; exact h.three, h.mail, h.all, h.sixty, h.recd, h.up, h.down, fun j hj => by
  by_cases hjk : j = k
  ·subst hjk;have : gt (w.c.set j c) j = c := by simp [gt, List.getD_eq_getElem?_getD, h.three, hj]
   simp only [this]; exact hc
  ·have : gt (w.c.set k c) j = gt w.c j := by simp [gt, List.getD_eq_getElem?_getD, List.getElem?_set_ne (Ne.symm hjk)]
   simp only [this]; exact h.cli j hj⟩
theorem A7 {l : List Mail} {k : Int} {t : Bool} (h0 : (aL l k t).2.2 = 0) : cx (aL l k t).1 = 0 := by
 obtain ⟨h1, h2, h3, h4⟩ := lq h0;obtain ⟨h5, h6⟩ := (fb l).1 h1;rw [h4];cases t with
 | true => exact h1
 | false =>
  refine (fb _).2 ⟨?_, fun x hx => ?_⟩
  ·simp only [cond_false, List.length_append, List.length_take, List.length_drop]; omega
  ·rcases List.mem_append.1 hx with hx | hx
   ·exact h6 x (List.mem_of_mem_take hx)
   ·exact h6 x (List.mem_of_mem_drop hx)
theorem Cr {me : Int} {m : Mail} (h : (bF c me m).2 = 0) : bK (bF c me m).1 me = 0 := by
 obtain ⟨hc, hs, _, _, h1⟩ := Cq h;rcases h1 with h1 | ⟨v, hv, hst, h1⟩
 ·rw [h1]; exact (fF _ _).2 hc
 ·rw [h1]; exact (fF _ _).2 (AL hc hs hst hv).1
theorem Br {life time : Int} (hk : k < 3) (h : (db life time).2 = 0) : bK (db life time).1 (k : Int) = 0 ∧ (db life time).1 = ⟨life, time, 0, [], 0, ⟨[], [], []⟩⟩ := by
 unfold db at h ⊢;cases h1 : (((decide (life < 1) || decide (life > 50)) || decide (time < 0)) || decide (time > 10000)) with
 | true => rw [h1] at h; cases h
 | false =>
  simp only [Bo] at h1;rw [cond_false];refine ⟨(fF _ _).2 ⟨by omega, by simp only; omega, by simp, (ef (⟨[], [], []⟩ : View)).1 (by decide), fun h => by simp only at h; omega, fun _ => rfl, by simp, fun i hi => by simp at hi⟩, rfl⟩
abbrev opRec (o : Op) : Rec := ⟨1, 0, 0, [], o⟩
abbrev mx (w : Wld) (who : Int) : Rec := ⟨2, who, (gt w.h.peers who.toNat).life + 1, [], ⟨0, 0, 0, 0, 0, 0, 0⟩⟩
abbrev qA (who : Int) (roots : List Int) : Rec := ⟨3, who, 0, roots, ⟨0, 0, 0, 0, 0, 0, 0⟩⟩
abbrev wi (who : Int) (o : Op) : Mail := ⟨1, who, 0, 0, 0, 0, 0, o, ⟨[], [], []⟩, ⟨[], [], [], []⟩⟩
def wt (l : List Mail) (x : Happening) : List Mail := bif x.kind == 8 then l else l.take x.n.toNat ++ l.drop (x.n + 1).toNat
structure Shown (w : Wld) (l : List Rec) (x : Happening) (m : Mail) : Prop where
 sees : (bZ w.h x.who).2 = 0
 life : (gt w.h.peers x.who.toNat).life ≠ 0
 case : m = ⟨2, x.who, (gt w.h.peers x.who.toNat).life, (gt w.h.peers x.who.toNat).seq, fu w.h, w.h.version, 0, ⟨0, 0, 0, 0, 0, 0, 0⟩, (bZ w.h x.who).1, ⟨[], [], [], []⟩⟩ ∨
  (0 ≤ x.n ∧ x.n < w.h.version ∧ ∃ g : Hub, aF (l.take x.n.toNat) = (g, 0) ∧ (gt g.peers x.who.toNat).life = (gt w.h.peers x.who.toNat).life ∧ (gt g.peers x.who.toNat).roots = (gt w.h.peers x.who.toNat).roots ∧ (bZ g x.who).2 = 0 ∧
   (fK (bZ g x.who).1 (bZ w.h x.who).1).2 = 0 ∧
   m = ⟨3, x.who, (gt w.h.peers x.who.toNat).life, (gt w.h.peers x.who.toNat).seq, fu w.h, w.h.version, x.n, ⟨0, 0, 0, 0, 0, 0, 0⟩, ⟨[], [], []⟩, (fK (bZ g x.who).1 (bZ w.h x.who).1).1⟩)
inductive Hap (w : Wld) (l : List Rec) (x : Happening) : Wld → List Rec → Prop
 | hear (hx : x.kind = 7 ∨ x.kind = 8) (hn : 0 ≤ x.n ∧ x.n < (w.mail.length : Int)) (m : Mail) (hm : m = gt w.mail x.n.toNat) (hk : m.kind ≠ 1) (hh : (bF (gt w.c m.who.toNat) m.who m).2 = 0) :
   Hap w l x ⟨w.h, w.d, w.up, w.c.set m.who.toNat (bF (gt w.c m.who.toNat) m.who m).1, wt w.mail x⟩ l
 | got (hx : x.kind = 7 ∨ x.kind = 8) (hn : 0 ≤ x.n ∧ x.n < (w.mail.length : Int)) (m : Mail) (hm : m = gt w.mail x.n.toNat) (hk : m.kind = 1) (hu : w.up = true) (h0 : (bd w.h (opRec m.o)).2 = 0) :
   Hap w l x ⟨(bd w.h (opRec m.o)).1, ⟨bw (l ++ [opRec m.o]), []⟩, w.up, w.c, wt w.mail x⟩ (l ++ [opRec m.o])
 | late (hx : x.kind = 7 ∨ x.kind = 8) (hn : 0 ≤ x.n ∧ x.n < (w.mail.length : Int)) (m : Mail) (hm : m = gt w.mail x.n.toNat) (hk : m.kind = 1) (hu : w.up = true) (h0 : (bd w.h (opRec m.o)).2 ≠ 0) :
   Hap w l x ⟨w.h, w.d, w.up, w.c, wt w.mail x⟩ l
 | lose (hx : x.kind = 9) (hn : 0 ≤ x.n ∧ x.n < (w.mail.length : Int)) : Hap w l x ⟨w.h, w.d, w.up, w.c, w.mail.take x.n.toNat ++ w.mail.drop (x.n + 1).toNat⟩ l
 | crash (hx : x.kind = 10) (hu : w.up = true) : Hap w l x ⟨dU, w.d, false, w.c, w.mail⟩ l
 | boot (hx : x.kind = 11) (hu : w.up = false) (h0 : (aF l).2 = 0) : Hap w l x ⟨(aF l).1, ⟨bw l, []⟩, true, w.c, w.mail⟩ l
 | move (hx : x.kind = 1) (hw : 0 ≤ x.who ∧ x.who < 3) (h0 : (c9 (gt w.c x.who.toNat) x.who x.node x.parent x.name).2.2 = 0) :
   Hap w l x ⟨w.h, w.d, w.up, w.c.set x.who.toNat (c9 (gt w.c x.who.toNat) x.who x.node x.parent x.name).1, posted w.mail (wi x.who (c9 (gt w.c x.who.toNat) x.who x.node x.parent x.name).2.1)⟩ l
 | again (hx : x.kind = 2) (hw : 0 ≤ x.who ∧ x.who < 3) (hn : 0 ≤ x.n ∧ x.n < ((gt w.c x.who.toNat).pending.length : Int)) :
   Hap w l x ⟨w.h, w.d, w.up, w.c, posted w.mail (wi x.who (gt (gt w.c x.who.toNat).pending x.n.toNat))⟩ l
 | began (hx : x.kind = 6) (hw : 0 ≤ x.who ∧ x.who < 3) (hu : w.up = true) (h0 : (bd w.h (mx w x.who)).2 = 0) (h1 : (db ((gt w.h.peers x.who.toNat).life + 1) (fu (bd w.h (mx w x.who)).1)).2 = 0) :
   Hap w l x ⟨(bd w.h (mx w x.who)).1, ⟨bw (l ++ [mx w x.who]), []⟩, w.up, w.c.set x.who.toNat (db ((gt w.h.peers x.who.toNat).life + 1) (fu (bd w.h (mx w x.who)).1)).1, w.mail⟩ (l ++ [mx w x.who])
 | roots (hx : x.kind = 5) (hw : 0 ≤ x.who ∧ x.who < 3) (hu : w.up = true) (h0 : (bd w.h (qA x.who x.roots)).2 = 0) :
   Hap w l x ⟨(bd w.h (qA x.who x.roots)).1, ⟨bw (l ++ [qA x.who x.roots]), []⟩, w.up, w.c, w.mail⟩ (l ++ [qA x.who x.roots])
 | shown (hx : x.kind = 3 ∨ x.kind = 4) (hw : 0 ≤ x.who ∧ x.who < 3) (hu : w.up = true) (m : Mail) (hm : Shown w l x m) : Hap w l x ⟨w.h, w.d, w.up, w.c, posted w.mail m⟩ l
variable {x : Happening}
theorem Hap.keeps {w' : Wld} {l' : List Rec} (h : IsW w l) (hp : Hap w l x w' l') : IsW w' l' := by
 have hleft : ∀ (_ : x.kind = 7 ∨ x.kind = 8) (_ : 0 ≤ x.n ∧ x.n < (w.mail.length : Int)), cx (wt w.mail x) = 0 := fun _ hn => by
  obtain ⟨h5, h6⟩ := (fb _).1 h.mail;unfold wt;cases (x.kind == 8) with
  | true => exact h.mail
  | false =>
   refine (fb _).2 ⟨?_, fun y hy => ?_⟩
   ·simp only [cond_false, List.length_append, List.length_take, List.length_drop]; omega
   ·rcases List.mem_append.1 hy with hy | hy
    ·exact h6 y (List.mem_of_mem_take hy)
    ·exact h6 y (List.mem_of_mem_drop hy)
 cases hp with
 | hear hx hn m hm hk hh =>
  have hw : 0 ≤ m.who ∧ m.who < 3 := by rw [hm]; exact m5 (((fb _).1 h.mail).2 _ (gJ (by omega)))
  refine (h.withCli (k := m.who.toNat) (by omega) ?_).withMail (hleft hx hn);rw [Int.toNat_of_nonneg hw.1]; exact Cr hh
 | got hx hn m hm hk hu h0 => exact uY (h.withMail (hleft hx hn)) hu h0
 | late hx hn m hm hk hu h0 => exact h.withMail (hleft hx hn)
 | lose hx hn =>
  obtain ⟨h5, h6⟩ := (fb _).1 h.mail;refine h.withMail ((fb _).2 ⟨?_, fun y hy => ?_⟩)
  ·simp only [List.length_append, List.length_take, List.length_drop]; omega
  ·rcases List.mem_append.1 hy with hy | hy
   ·exact h6 y (List.mem_of_mem_take hy)
   ·exact h6 y (List.mem_of_mem_drop hy)
 | crash hx hu => exact ⟨h.three, h.mail, h.all, h.sixty, h.recd, fun hu => (by cases hu), fun _ => rfl, h.cli⟩
 | boot hx hu h0 => exact ⟨h.three, h.mail, h.all, h.sixty, uQ h.all h.sixty, fun _ => ⟨rfl, Prod.ext rfl h0⟩, fun hu => (by cases hu), h.cli⟩
 | move hx hw h0 =>
  obtain ⟨a1, a2, a3, a4, a5, a6, a7⟩ := vQ h0;refine (h.withCli (k := x.who.toNat) (by omega) ?_).withMail (s4 h.mail _);rw [a7, Int.toNat_of_nonneg hw.1];exact (fF _ _).2 (wl a1 a2 a3 a4 a5 a6)
 | again hx hw hn => exact h.withMail (s4 h.mail _)
 | began hx hw hu h0 h1 => exact (uY h hu h0).withCli (k := x.who.toNat) (by omega) (Br (by omega) h1).1
 | roots hx hw hu h0 => exact uY h hu h0
 | shown hx hw hu m hm => exact h.withMail (s4 h.mail m)
theorem yv (h : IsW w l) (hx : x.kind = 7 ∨ x.kind = 8) (h0 : (cU w x).1 = 0) : ∃ l', Hap w l x (cU w x).2 l' := by
 unfold cU at h0 ⊢;cases h1 : ((aL w.mail x.n (x.kind == 8)).2.2 != 0) with
 | true => rw [h1, cond_true] at h0; simp only at h0; rw [h0] at h1; cases h1
 | false =>
 obtain ⟨_, t2, t3, t4⟩ := lq (ag h1);rw [h1, cond_false] at h0;rw [cond_false];rw [t4] at h0 ⊢;cases h2 : ((gt w.mail x.n.toNat).kind != 1) with
 | true =>
  simp only [h2, cond_true] at h0 ⊢;cases h3 : ((bF (gt w.c (gt w.mail x.n.toNat).who.toNat) (gt w.mail x.n.toNat).who (gt w.mail x.n.toNat)).2 == 0) with
  | false => rw [h3, cond_false] at h0; simp only at h0; rw [h0] at h3; cases h3
  | true => exact ⟨l, .hear hx ⟨t2, t3⟩ _ rfl (bne_iff_ne.1 h2) (eq_of_beq h3)⟩
 | false =>
  simp only [h2, cond_false] at h0 ⊢;cases hu : w.up with
  | false => rw [hu] at h0; cases h0
  | true =>
   simp only [Bool.not_true, cond_false];have hT : cx (bif x.kind == 8 then w.mail else w.mail.take x.n.toNat ++ w.mail.drop (x.n + 1).toNat) = 0 := by
    have := A7 (ag h1); rwa [t4] at this
   have hw := h.withMail hT;rw [hu] at hw;rw [qi hw rfl];by_cases hn : (bd w.h (opRec (gt w.mail x.n.toNat).o)).2 = 0
   ·rw [if_pos hn];have := Hap.got (l := l) hx ⟨t2, t3⟩ _ rfl (ag h2) hu hn;rw [hu] at this;exact ⟨_, this⟩
   ·rw [if_neg hn];have := Hap.late (l := l) hx ⟨t2, t3⟩ _ rfl (ag h2) hu hn;rw [hu] at this;exact ⟨_, this⟩
theorem v9 (h : IsW w l) (hk : x.kind = 10 ∨ x.kind = 11) (h0 : (dH w x).1 = 0) : Hap w l x (dH w x).2 l := by
 unfold dH at h0 ⊢;cases h1 : (w.up == (x.kind == 11)) with
 | true => rw [h1] at h0; cases h0
 | false =>
 rw [h1, cond_false] at h0;rw [cond_false];rcases hk with hk | hk
 ·have e1 : (x.kind == 10) = true := by rw [hk]; rfl
  have e2 : (x.kind == 11) = false := by rw [hk]; rfl
  rw [e1, cond_true];refine .crash hk ?_;rw [e2] at h1;cases hu : w.up with
  | true => rfl
  | false => rw [hu] at h1; cases h1
 ·have e1 : (x.kind == 10) = false := by rw [hk]; rfl
  have e2 : (x.kind == 11) = true := by rw [hk]; rfl
  rw [e1, cond_false] at h0 ⊢;simp only [h.recd, bne_self_eq_false, cond_false] at h0 ⊢;cases h3 : ((aF l).2 == 0) with
  | false => rw [h3, cond_false] at h0; simp only at h0; rw [h0] at h3; cases h3
  | true =>
   refine .boot hk ?_ (eq_of_beq h3);rw [e2] at h1;cases hu : w.up with
   | false => rfl
   | true => rw [hu] at h1; cases h1
theorem BE (h : IsW w l) (hx : x.kind = 3 ∨ x.kind = 4) (hw : 0 ≤ x.who ∧ x.who < 3) (hu : w.up = true) (h0 : (fj w x).1 = 0) : Hap w l x (fj w x).2 l := by
 unfold fj at h0 ⊢;cases h1 : ((bZ w.h x.who).2 != 0) with
 | true => rw [h1, cond_true] at h0; simp only at h0; rw [h0] at h1; cases h1
 | false =>
 rw [h1, cond_false] at h0;rw [cond_false];cases h2 : ((gt w.h.peers x.who.toNat).life == 0) with
 | true => rw [h2] at h0; cases h0
 | false =>
 rw [h2, cond_false] at h0;rw [cond_false];have hl := beq_eq_false_iff_ne.1 h2;cases h3 : (x.kind == 4) with
 | false =>
  rw [cond_false];simp only;rw [vm h];exact .shown hx hw hu _ ⟨ag h1, hl, .inl rfl⟩
 | true =>
  rw [h3, cond_true] at h0;rw [cond_true];cases h4 : (decide (x.n < 0) || decide (x.n ≥ w.h.version)) with
  | true => rw [h4] at h0; cases h0
  | false =>
  rw [h4, cond_false] at h0;rw [cond_false];simp only [Bo] at h4;simp only [h.recd, bne_self_eq_false, cond_false] at h0 ⊢;cases h5 : ((aF (l.take x.n.toNat)).2 != 0) with
  | true => rw [h5, cond_true] at h0; simp only at h0; rw [h0] at h5; cases h5
  | false =>
  rw [h5, cond_false] at h0;rw [cond_false];have h5 := ag h5;generalize hG : aF (l.take x.n.toNat) = G at *;obtain ⟨g, e⟩ := G;simp only at h5;subst h5;simp only at h0 ⊢;cases h6 : (((gt g.peers x.who.toNat).life != (gt w.h.peers x.who.toNat).life) || (!(decide ((gt g.peers x.who.toNat).roots = (gt w.h.peers x.who.toNat).roots)))) with
  | true => rw [h6] at h0; cases h0
  | false =>
  rw [h6, cond_false] at h0;rw [cond_false];simp only [Bool.or_eq_false_iff, bne_eq_false_iff_eq, Bool.not_eq_false', decide_eq_true_eq] at h6;cases h7 : ((bZ g x.who).2 != 0) with
  | true => rw [h7, cond_true] at h0; simp only at h0; rw [h0] at h7; cases h7
  | false =>
  rw [h7, cond_false] at h0;rw [cond_false];cases h8 : ((fK (bZ g x.who).1 (bZ w.h x.who).1).2 != 0) with
  | true => rw [h8, cond_true] at h0; simp only at h0; rw [h0] at h8; cases h8
  | false =>
  rw [cond_false];simp only;rw [vm h];exact .shown hx hw hu _ ⟨ag h1, hl, .inr ⟨by omega, by omega, g, hG, h6.1, h6.2, ag h7, ag h8, rfl⟩⟩
theorem wj (h : IsW w l) (hx : 1 ≤ x.kind ∧ x.kind ≤ 6) (h0 : (ax w x).1 = 0) : ∃ l', Hap w l x (ax w x).2 l' := by
 unfold ax at h0 ⊢;cases h1 : (decide (x.who < 0) || decide (x.who ≥ (w.c.length : Int))) with
 | true => rw [h1] at h0; cases h0
 | false =>
 have hw : 0 ≤ x.who ∧ x.who < 3 := by
  simp only [h.three, Bo] at h1; omega
 rw [h1, cond_false] at h0;rw [cond_false];cases h2 : (x.kind == 1) with
 | true =>
  rw [h2, cond_true] at h0;rw [cond_true];cases h3 : ((c9 (gt w.c x.who.toNat) x.who x.node x.parent x.name).2.2 != 0) with
  | true => rw [h3, cond_true] at h0; simp only at h0; rw [h0] at h3; cases h3
  | false =>
   rw [cond_false];obtain ⟨a1, a2, a3, a4, a5, a6, a7⟩ := vQ (ag h3);have hc : bK (c9 (gt w.c x.who.toNat) x.who x.node x.parent x.name).1 ((x.who.toNat : Nat) : Int) = 0 := by
    rw [a7, Int.toNat_of_nonneg hw.1]; exact (fF _ _).2 (wl a1 a2 a3 a4 a5 a6)
   simp only;rw [vm (h.withCli (k := x.who.toNat) (by omega) hc)];exact ⟨l, .move (eq_of_beq h2) hw (ag h3)⟩
 | false =>
 rw [h2, cond_false] at h0;rw [cond_false];cases h3 : (x.kind == 2) with
 | true =>
  rw [h3, cond_true] at h0;rw [cond_true];cases h4 : (decide (x.n < 0) || decide (x.n ≥ ((gt w.c x.who.toNat).pending.length : Int))) with
  | true => rw [h4] at h0; cases h0
  | false =>
   simp only [Bo] at h4;rw [cond_false];simp only;rw [vm h];exact ⟨l, .again (eq_of_beq h3) hw (by omega)⟩
 | false =>
 rw [h3, cond_false] at h0;rw [cond_false];cases hu : w.up with
 | false => rw [hu] at h0; cases h0
 | true =>
 rw [hu, Bool.not_true, cond_false] at h0;rw [Bool.not_true, cond_false];cases h4 : (x.kind == 6) with
 | true =>
  rw [h4, cond_true] at h0;rw [cond_true];simp only at h0 ⊢;unfold dh at h0 ⊢;rw [qi h hu] at h0 ⊢;by_cases hn : (bd w.h (mx w x.who)).2 = 0
  ·rw [if_pos hn] at h0 ⊢;simp only [bne_self_eq_false, cond_false] at h0 ⊢;cases h5 : ((db ((gt w.h.peers x.who.toNat).life + 1) (fu (bd w.h (mx w x.who)).1)).2 == 0) with
   | false => rw [h5, cond_false] at h0; simp only at h0; rw [h0] at h5; cases h5
   | true => exact ⟨_, .began (eq_of_beq h4) hw hu hn (eq_of_beq h5)⟩
  ·rw [if_neg hn] at h0;have : ((bd w.h (mx w x.who)).2 != 0) = true := by simpa using hn
   simp only [this, cond_true] at h0;exact absurd h0 hn
 | false =>
 rw [h4, cond_false] at h0;rw [cond_false];cases h5 : (x.kind == 5) with
 | true =>
  rw [h5, cond_true] at h0;rw [cond_true];simp only at h0 ⊢;rw [qi h hu] at h0 ⊢;by_cases hn : (bd w.h (qA x.who x.roots)).2 = 0
  ·rw [if_pos hn]; exact ⟨_, .roots (eq_of_beq h5) hw hu hn⟩
  ·rw [if_neg hn] at h0; exact absurd h0 hn
 | false =>
  rw [h5, cond_false] at h0;rw [cond_false];simp only [beq_eq_false_iff_ne] at h2 h3 h4 h5;exact ⟨l, BE h (by omega) hw hu h0⟩
theorem zn (h : IsW w l) (h0 : (aY w x).1 = 0) : ∃ l', Hap w l x (aY w x).2 l' := by
 have hc : ∀ (_ : 1 ≤ x.kind ∧ x.kind ≤ 6) (z : Int × Wld), z = ((ax w x).1, (ax w x).2) → z.1 = 0 → ∃ l', Hap w l x z.2 l' := fun hx z hz h0 => by
  subst hz; exact wj h hx h0
 unfold aY at h0 ⊢;cases h1 : (x.kind == 7) with
 | true => rw [h1, cond_true] at h0; rw [cond_true]; exact yv h (.inl (eq_of_beq h1)) h0
 | false =>
 rw [h1, cond_false] at h0; rw [cond_false];cases h2 : (x.kind == 8) with
 | true => rw [h2, cond_true] at h0; rw [cond_true]; exact yv h (.inr (eq_of_beq h2)) h0
 | false =>
 rw [h2, cond_false] at h0; rw [cond_false];cases h3 : (x.kind == 9) with
 | true =>
  rw [h3, cond_true] at h0;rw [cond_true];cases h4 : ((aL w.mail x.n false).2.2 == 0) with
  | true =>
   obtain ⟨_, t2, t3, t4⟩ := lq (eq_of_beq h4);rw [cond_true, t4];exact ⟨l, .lose (eq_of_beq h3) ⟨t2, t3⟩⟩
  | false => rw [h4, cond_false] at h0; simp only at h0; rw [h0] at h4; cases h4
 | false =>
 rw [h3, cond_false] at h0; rw [cond_false];cases h4 : (x.kind == 10) with
 | true => rw [h4, cond_true] at h0; rw [cond_true]; exact ⟨l, v9 h (.inl (eq_of_beq h4)) h0⟩
 | false =>
 rw [h4, cond_false] at h0; rw [cond_false];cases h5 : (x.kind == 11) with
 | true => rw [h5, cond_true] at h0; rw [cond_true]; exact ⟨l, v9 h (.inr (eq_of_beq h5)) h0⟩
 | false =>
 rw [h5, cond_false] at h0; rw [cond_false];cases h6 : (x.kind == 1) with
 | true => rw [h6, cond_true] at h0; rw [cond_true]; exact hc (by rw [eq_of_beq h6]; decide) _ rfl h0
 | false =>
 rw [h6, cond_false] at h0; rw [cond_false];cases h7 : (x.kind == 2) with
 | true => rw [h7, cond_true] at h0; rw [cond_true]; exact hc (by rw [eq_of_beq h7]; decide) _ rfl h0
 | false =>
 rw [h7, cond_false] at h0; rw [cond_false];cases h8 : (x.kind == 3) with
 | true => rw [h8, cond_true] at h0; rw [cond_true]; exact hc (by rw [eq_of_beq h8]; decide) _ rfl h0
 | false =>
 rw [h8, cond_false] at h0; rw [cond_false];cases h9 : (x.kind == 4) with
 | true => rw [h9, cond_true] at h0; rw [cond_true]; exact hc (by rw [eq_of_beq h9]; decide) _ rfl h0
 | false =>
 rw [h9, cond_false] at h0; rw [cond_false];cases h10 : (x.kind == 5) with
 | true => rw [h10, cond_true] at h0; rw [cond_true]; exact hc (by rw [eq_of_beq h10]; decide) _ rfl h0
 | false =>
 rw [h10, cond_false] at h0; rw [cond_false];cases h11 : (x.kind == 6) with
 | true => rw [h11, cond_true] at h0; rw [cond_true]; exact hc (by rw [eq_of_beq h11]; decide) _ rfl h0
 | false => rw [h11] at h0; cases h0
theorem kL (h : bT w = 0) (h0 : (aY w x).1 = 0) : bT (aY w x).2 = 0 := by
 obtain ⟨l, hl⟩ := (gn w).1 h;obtain ⟨l', hp⟩ := zn hl h0;exact (gn _).2 ⟨l', hp.keeps hl⟩
def eO  : List Happening → (List Int) → Wld → (Wld × (List Int) × Int)
 | [], said1, w2 => (w2, said1, 0)
 | pn1 :: rn1, said1, w2 => (bif ((aY w2 pn1).1 == 0) then (eO rn1 (said1 ++ [(aY w2 pn1).1]) (aY w2 pn1).2) else (eO rn1 (said1 ++ [(aY w2 pn1).1]) w2))
def cQ (w1 : Wld) (l1 : List Happening) : Wld × (List Int) × Int :=
 (bif ((bT w1) != 0) then ((⟨(⟨(⟨[], []⟩ : History), 0, ([] : List Peer)⟩ : Hub), (⟨[], []⟩ : Disk), false, ([] : List Client), ([] : List Mail)⟩ : Wld), ([] : List Int), (bT w1)) else (bif decide ((l1.length : Int) > 100) then ((⟨(⟨(⟨[], []⟩ : History), 0, ([] : List Peer)⟩ : Hub), (⟨[], []⟩ : Disk), false, ([] : List Client), ([] : List Mail)⟩ : Wld), ([] : List Int), 2) else (eO l1 [] w1)))
theorem pK (y1 : SlV) (y2 : SlV) (y3 : SlV) (y4 : SlV) (y5 : SlV) (y6 : SlV) (y7 : SlV) (w1 : Wld) (y8 : SlV) (l1 : List Happening) : Dw 7 [.agg ⟨cW y1 y2 y3 y4 y5 y6 y7 w1⟩, y8.val l1.length] [RdL EStep y1 w1.h.h.l, RdL EPlace y2 w1.h.h.t, RdN NPeer y3 w1.h.peers, RdL EByte y4 w1.d.safe, RdL EByte y5 w1.d.wait, RdN NClient y6 w1.c, RdN NMail y7 w1.mail, RdN NHap y8 l1, LibP Tryz.prog] (fun (X : SlV × SlV × SlV × SlV × SlV × SlV × SlV × SlV) => .tuple #[.agg ⟨cW X.1 X.2.1 X.2.2.1 X.2.2.2.1 X.2.2.2.2.1 X.2.2.2.2.2.1 X.2.2.2.2.2.2.1 (cQ w1 l1).1⟩, X.2.2.2.2.2.2.2.val (cQ w1 l1).2.1.length, .int .i64 (cQ w1 l1).2.2]) (fun X => [RdL EStep X.1 (cQ w1 l1).1.h.h.l, RdL EPlace X.2.1 (cQ w1 l1).1.h.h.t, RdN NPeer X.2.2.1 (cQ w1 l1).1.h.peers, RdL EByte X.2.2.2.1 (cQ w1 l1).1.d.safe, RdL EByte X.2.2.2.2.1 (cQ w1 l1).1.d.wait, RdN NClient X.2.2.2.2.2.1 (cQ w1 l1).1.c, RdN NMail X.2.2.2.2.2.2.1 (cQ w1 l1).1.mail, RdL EInt X.2.2.2.2.2.2.2 (cQ w1 l1).2.1]) := by
 refine Dp Tryz.func7 fun C => ?_;refine Qc y1 88 fun hlen1 => ?_;refine Qc y2 24 fun hlen2 => ?_;refine Qn y3 40 fun hlen3 => ?_;refine Qc y4 1 fun hlen4 => ?_;refine Qc y5 1 fun hlen5 => ?_;refine Qn y6 128 fun hlen6 => ?_;refine Qn y7 280 fun hlen7 => ?_;refine Qn y8 72 fun hlen8 => ?_;refine BxT fun g1 => ?_;refine AlT fun g2 => ?_;refine Ck (so y1 y2 y3 y4 y5 y6 y7 w1) fun _ => ?_;have hf := Ri (cQ.eq_1 w1 l1);refine Cn hf (fun hc1 hc1p hf => ?_) fun hc1 hc1p hf => ?_
 ·refine Tx ?_;refine Fc EStep ?_;refine Fc EPlace ?_;refine Ft NPeer ?_;refine Fc EByte ?_;refine Ft NClient ?_;refine Ft NMail ?_;refine Fc EInt ?_;refine Rx ?_; exact Rr ⟨Z0, Z0, Z0, Z0, Z0, Z0, Z0, Z0⟩
 ·refine Cp hf (fun hc2 hc2p hf => ?_) fun hc2 hc2p hf => ?_
  ·refine Tx ?_;refine Fc EStep ?_;refine Fc EPlace ?_;refine Ft NPeer ?_;refine Fc EByte ?_;refine Ft NClient ?_;refine Ft NMail ?_;refine Fc EInt ?_;refine Rx ?_; exact Rr ⟨Z0, Z0, Z0, Z0, Z0, Z0, Z0, Z0⟩
  ·refine Cm (nL y1 y2 y3 y4 y5 y6 y7 w1) fun x1 => ?_;refine Fx x1.2.2.2.2.2.1 ?_;refine Fk NClient x1.2.2.2.2.2.1 x1.2.2.2.2.2.2.2.1 w1.c ?_;refine Lq (List Int × SlV × Option Nat × Nat × Wld × SlV × SlV × SlV × SlV × SlV × SlV × SlV) [2,4,5,6,25,26] [true, false] (fun ⟨said1, x2, x2b, n1, w2, x3, x4, x5, x6, x7, x8, x9⟩ => ⟨[(8, .v (x2.val said1.length)), (27, .v (.int .i64 (n1 : Int)))], [⟨g1, 37, cW x3 x4 x5 x6 x7 x8 x9 w2⟩], [ownL EInt 40 x2 x2b said1], [RdL EStep x3 w2.h.h.l, RdL EPlace x4 w2.h.h.t, RdN NPeer x5 w2.h.peers, RdL EByte x6 w2.d.safe, RdL EByte x7 w2.d.wait, RdN NClient x8 w2.c, RdN NMail x9 w2.mail], (n1 ≤ l1.length) ∧ (said1.length ≤ n1) ∧ (bT w2 = 0) ∧ (eO (l1.drop n1) said1 w2) = (cQ w1 l1), l1.length - n1⟩) ⟨[], ⟨none, 0⟩, none, 0, w1, x1.1, x1.2.1, x1.2.2.1, x1.2.2.2.1, x1.2.2.2.2.1, x1.2.2.2.2.2.1, x1.2.2.2.2.2.2.2.2⟩ ⟨N0, Nz, (ag (by assumption)), hf.symm⟩ ?_ (hs := Le.trans (eI EInt 40) Le4);rintro ⟨said1, x2, x2b, n1, w2, x3, x4, x5, x6, x7, x8, x9⟩ ⟨hkn1, hsaid1, hinv, hf1⟩;simp only [Lc];refine Cu (fun hlt0 => ?_) fun hge0 => ?_
   ·refine Tx ?_;refine Ex NHap y8 fun (γ1 : Nat → SlV) => ?_;refine Sq (Xn n1) ?_;refine Sq (Xe (cA (γ1 n1) (gt l1 n1))) ?_;refine Gg NHap γ1 n1 0 ?_;refine AlT fun g3 => ?_;refine Cm (nL x3 x4 x5 x6 x7 x8 x9 w2) fun x10 => ?_;refine AlT fun g4 => ?_;refine Cm (rf g4 x10.1 x10.2.1 x10.2.2.1 x10.2.2.2.1 x10.2.2.2.2.1 x10.2.2.2.2.2.1 x10.2.2.2.2.2.2.1 x10.2.2.2.2.2.2.2.1 x10.2.2.2.2.2.2.2.2 w2 (γ1 n1) (gt l1 n1) (ql (by first | assumption | exact hinv | exact ag hc1)).1 (ql (by first | assumption | exact hinv | exact ag hc1)).2.1 (ql (by first | assumption | exact hinv | exact ag hc1)).2.2) fun x11 => ?_;refine Fx x11.2.2.2.2.2.1 ?_;refine Fk NClient x11.2.2.2.2.2.1 x11.2.2.2.2.2.2.2.1 (aY w2 (gt l1 n1)).2.c ?_;have hf := Ri hf1.symm;rw [aK hlt0, eO] at hf;refine Ce hf (fun hc4 hc4p hf => ?_) fun hc4 hc4p hf => ?_
    ·refine Bl EInt [(aY w2 (gt l1 n1)).1] fun x12 x12b => ?_;refine Ap EInt 8 said1 [(aY w2 (gt l1 n1)).1] x2b fun x13 x13b => ?_;refine Tt ?_;refine ⟨⟨(said1 ++ [(aY w2 (gt l1 n1)).1]), x13, x13b, (n1 + 1), (aY w2 (gt l1 n1)).2, x11.1, x11.2.1, x11.2.2.1, x11.2.2.2.1, x11.2.2.2.2.1, x11.2.2.2.2.2.1, x11.2.2.2.2.2.2.2.2⟩, ⟨hlt0, Zl, (by first | exact hinv | exact kL hinv (eq_of_beq (by assumption))), hf.symm⟩, Oo, Le4⟩
    ·refine Bl EInt [(aY w2 (gt l1 n1)).1] fun x14 x14b => ?_;refine Ap EInt 8 said1 [(aY w2 (gt l1 n1)).1] x2b fun x15 x15b => ?_;refine Tt ?_;refine ⟨⟨(said1 ++ [(aY w2 (gt l1 n1)).1]), x15, x15b, (n1 + 1), w2, x3, x4, x5, x6, x7, x8, x9⟩, ⟨hlt0, Zl, (by first | exact hinv | exact kL hinv (eq_of_beq (by assumption))), hf.symm⟩, Oo, Le4⟩
   ·refine Tx ?_;refine Fz x2 ?_;have hf := Ri hf1.symm;rw [Dl hge0, eO] at hf;refine Rx ?_; exact Rr ⟨x3, x4, x5, x6, x7, x8, x9, x2⟩
end Go.Proofs.YtkjccbdeaflekaaGreatDoor
