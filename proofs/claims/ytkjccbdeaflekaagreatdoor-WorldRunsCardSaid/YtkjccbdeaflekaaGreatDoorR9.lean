/- Part of this claim. No condition. -/
import Derived.Test.YtkjccbdeaflekaaGreatDoorR8
import Derived.Test.YtkjccbdeaflekaaGreatDoorR5
import Derived.Test.YtkjccbdeaflekaaGreatDoorR3
import Derived.Test.YtkjccbdeaflekaaGreatDoorR4
import Derived.Test.YtkjccbdeaflekaaGreatDoorR7
import Derived.Test.YtkjccbdeaflekaaGreatDoorR2
set_option linter.unusedVariables false
set_option linter.unusedSimpArgs false
set_option maxHeartbeats 2000000
namespace Go.Proofs.YtkjccbdeaflekaaGreatDoor
open Go Go.Proofs.YtkjccbdeaflekaaGreatDoor.Fw Go.Proofs
theorem m4 (c : Client) (me : Int) (ht : ∀ o ∈ c.pending, chkO o = 0 → 0 < o.time) : ∀ (r : List Op) (k : Nat) (seq last : Int), r = c.pending.drop k → seq = c.seq - (c.pending.length : Int) + (k : Int) → last = (if k = 0 then 0 else (gt c.pending (k - 1)).time) → dx c me r seq last = e9 c me r k
 | [], k, _, _, _, _, _ => rfl
 | p :: r, k, seq, last, h, hs, hl => by
  have hk : k < c.pending.length := by
   rcases Nat.lt_or_ge k c.pending.length with h' | h'
   ·exact h'
   ·rw [Dl h'] at h; cases h
  rw [aK hk] at h;obtain ⟨rfl, h'⟩ := List.cons.inj h;rw [dx, e9, gO, fA];cases h1 : (chkO (gt c.pending k) != 0) with
  | true => rfl
  | false =>
   rw [cond_false, cond_false];have h2 := ht _ (gJ hk) (ag h1);have h3 := m4 c me ht r (k + 1) (seq + 1) (gt c.pending k).time h' (by omega) (by simp);rw [h3];congr 1;rw [Bool.eq_iff_iff];simp only [Bool.or_eq_true, bne_iff_ne, decide_eq_true_eq, Bool.and_eq_true];rcases Nat.eq_zero_or_pos k with h4 | h4
   ·rw [if_pos h4] at hl;subst hl hs; omega
   ·rw [if_neg (by omega)] at hl;subst hl hs; omega
theorem kB (c : Client) (me : Int) : bx c me = bK c me := by
 unfold bx bK;refine fN ?_ (fun _ => rfl) fun _ => fN ?_ (fun _ => rfl) fun h2 => fN rfl (fun _ => rfl) fun _ => ?_
 ·rw [Bool.eq_iff_iff];simp only [Bool.not_eq_true', oU, Bq]; omega
 ·rw [Bool.eq_iff_iff];simp only [Bool.not_eq_true', oU, Bq]; omega
 rw [jg];refine fN rfl (fun _ => rfl) fun _ => fN ?_ (fun _ => rfl) fun _ => ?_
 ·simp only [Bo] at h2;rw [Bool.eq_iff_iff];simp only [Bq, Bool.and_eq_true, beq_iff_eq, bne_iff_ne]; omega
 ·exact m4 c me (fun o _ ho => by have := lL ho; omega) c.pending 0 _ 0 rfl (by simp) rfl
theorem BS (a b c : Nat) : decide ((a : Int) + (b : Int) + (c : Int) > 0) = false ↔ a = 0 ∧ b = 0 ∧ c = 0 := by
 rw [decide_eq_false_iff_not]; omega
theorem BR (a b c d : Nat) : decide ((a : Int) + (b : Int) + (c : Int) + (d : Int) > 0) = false ↔ a = 0 ∧ b = 0 ∧ c = 0 ∧ d = 0 := by
 rw [decide_eq_false_iff_not]; omega
theorem rb (m : Mail) : ci [m] = cr m := by
 show bp [m] = cr m;rw [bp, bp, kD];obtain ⟨kind, who, life, seq, time, version, frm, o, v, d⟩ := m;simp only [gO, nJ, jg];have one : ∀ x : Int, (bif x != 0 then x else 0) = x := fun x => by
  cases h : (x != 0) with
  | true => rfl
  | false => exact (ag h).symm
 simp only [one];have hv : decide ((v.roots.length : Int) + (v.known.length : Int) + (v.way.length : Int) > 0) = !decide (v = ⟨[], [], []⟩) := by
  rw [Bool.eq_iff_iff, ← Bool.not_eq_false, BS];obtain ⟨a, b, c⟩ := v;simp only [List.length_eq_zero_iff, Bool.not_eq_true', decide_eq_false_iff_not, View.mk.injEq]
 have hd : decide ((d.gone.length : Int) + (d.here.length : Int) + (d.wayGone.length : Int) + (d.wayHere.length : Int) > 0) = !decide (d = ⟨[], [], [], []⟩) := by
  rw [Bool.eq_iff_iff, ← Bool.not_eq_false, BR];obtain ⟨a, b, c, e⟩ := d;simp only [List.length_eq_zero_iff, Bool.not_eq_true', decide_eq_false_iff_not, Delta.mk.injEq]
 rw [hv, hd];refine fN ?_ (fun _ => rfl) fun h1 => fN ?_ (fun _ => rfl) fun h2 => ?_
 ·rw [Bool.eq_iff_iff];simp only [Bool.not_eq_true', oU, Bq]; omega
 ·rw [Bool.eq_iff_iff];simp only [Bool.not_eq_true', oU, Bq]; omega
 have hbad : ((((!ak life 1 50 || !ak seq 0 30) || !ak time 0 10000) || !ak version 1 60) || !ak frm 0 (version - 1)) = oS ⟨kind, who, life, seq, time, version, frm, o, v, d⟩ := by
  rw [Bool.eq_iff_iff];simp only [oS, Bool.not_eq_true', oU, Bq]; omega
 cases h3 : (kind == 1) with
 | true =>
  simp only [Bool.true_and, cond_true];have hw : gE ⟨kind, who, life, seq, time, version, frm, o, v, d⟩ (want1 ⟨kind, who, life, seq, time, version, frm, o, v, d⟩) = !((((((life != 0 || seq != 0) || time != 0) || version != 0) || frm != 0) || !decide (v = ⟨[], [], []⟩)) || !decide (d = ⟨[], [], [], []⟩)) := by
   rw [Bool.eq_iff_iff, gP];simp only [want1, Mail.mk.injEq, Bool.not_eq_true', Bool.or_eq_false_iff, bne_eq_false_iff_eq, Bool.not_eq_false', decide_eq_true_eq];simp only [true_and, and_assoc]
  rw [hw, Bool.not_not];cases ((((((life != 0 || seq != 0) || time != 0) || version != 0) || frm != 0) || !decide (v = ⟨[], [], []⟩)) || !decide (d = ⟨[], [], [], []⟩)) <;> rfl
 | false =>
  simp only [Bool.false_and, cond_false];rw [hbad];cases h4 : (kind == 2) with
  | true =>
   have h5 : (kind == 3) = false := by have := eq_of_beq h4; subst this; rfl
   rw [h5];simp only [Bool.true_and, Bool.false_and, cond_true, cond_false];have hw : gE ⟨kind, who, life, seq, time, version, frm, o, v, d⟩ (want2 ⟨kind, who, life, seq, time, version, frm, o, v, d⟩) = !((!decide (o = ⟨0, 0, 0, 0, 0, 0, 0⟩)) || (frm != 0 || !decide (d = ⟨[], [], [], []⟩))) := by
    rw [Bool.eq_iff_iff, gP];simp only [want2, Mail.mk.injEq, Bool.not_eq_true', Bool.or_eq_false_iff, bne_eq_false_iff_eq, Bool.not_eq_false', decide_eq_true_eq, true_and, and_true];constructor <;> exact fun ⟨x, y, z⟩ => ⟨y, x, z⟩
   rw [hw, Bool.not_not];cases (!decide (o = ⟨0, 0, 0, 0, 0, 0, 0⟩)) <;> cases (frm != 0 || !decide (d = ⟨[], [], [], []⟩)) <;> rfl
  | false =>
   have h5 : (kind == 3) = true := by
    simp only [Bo] at h1;have := beq_eq_false_iff_ne.1 h3; have := beq_eq_false_iff_ne.1 h4;simp only [beq_iff_eq]; omega
   rw [h5];simp only [Bool.true_and, Bool.false_and, cond_true, cond_false];have hw : gE ⟨kind, who, life, seq, time, version, frm, o, v, d⟩ (want3 ⟨kind, who, life, seq, time, version, frm, o, v, d⟩) = !((!decide (o = ⟨0, 0, 0, 0, 0, 0, 0⟩)) || !decide (v = ⟨[], [], []⟩)) := by
    rw [Bool.eq_iff_iff, gP];simp only [want3, Mail.mk.injEq, Bool.not_eq_true', Bool.or_eq_false_iff, Bool.not_eq_false', decide_eq_true_eq, true_and, and_true]
   rw [hw, Bool.not_not];cases (!decide (o = ⟨0, 0, 0, 0, 0, 0, 0⟩)) <;> cases (!decide (v = ⟨[], [], []⟩)) <;> rfl
attribute [local irreducible] CW RW RdL RdN VarP
def dT  : List Place → (List Place) → (List Place)
 | [], tb2 => (dE tb2)
 | pn2 :: rn2, tb2 => (dT rn2 (tb2.set pn2.node.toNat pn2))
def dt (here1 : List Place) : List Int → (List Place) → (List Place)
 | [], tb1 => (dT here1 tb1)
 | pn1 :: rn1, tb1 => (dt here1 rn1 (tb1.set pn1.toNat (⟨(gt tb1 pn1.toNat).node, (-1), (gt tb1 pn1.toNat).name⟩ : Place)))
def bc (l1 : List Place) (gone1 : List Int) (here1 : List Place) : List Place :=
 (dt here1 gone1 (ap l1))
theorem eJ (y1 : SlV) (l1 : List Place) (y2 : SlV) (gone1 : List Int) (y3 : SlV) (here1 : List Place) (hnode : ∀ p ∈ l1, 0 ≤ p.node ∧ p.node < 16) (hg : ∀ n ∈ gone1, 0 ≤ n ∧ n < 16) (hh : ∀ p ∈ here1, 0 ≤ p.node ∧ p.node < 16) : Dw 149 [y1.val l1.length, y2.val gone1.length, y3.val here1.length] [RdL EPlace y1 l1, RdL EInt y2 gone1, RdL EPlace y3 here1] (fun (X : SlV) => X.val (bc l1 gone1 here1).length) (fun X => [RdL EPlace X (bc l1 gone1 here1)]) := by
 refine Dp Tryz.func149 fun C => ?_;refine Qc y1 24 fun hlen1 => ?_;refine Qc y2 8 fun hlen2 => ?_;refine Qc y3 24 fun hlen3 => ?_;refine Ck (fL y1 l1 hnode) fun _ => ?_;refine AlT fun g1 => ?_;refine sW EPlace (ap l1) (n := 16) .sq (.inl ⟨_, rfl⟩) (au rfl) rfl rfl rfl rfl rfl rfl rfl (gq l1) rfl Ub (by rfl) ?_;refine Lq (Nat × List Place) [2,6,7,14,15] [false] (fun ⟨n1, tb1⟩ => ⟨[(16, .v (.int .i64 (n1 : Int)))], [⟨g1, 201, (tb1.flatMap EPlace.enc)⟩], [], [], (n1 ≤ gone1.length) ∧ (tb1.length = 16) ∧ (dt here1 (gone1.drop n1) tb1) = (bc l1 gone1 here1), gone1.length - n1⟩) ⟨0, (ap l1)⟩ ⟨N0, (gq l1), (by simp only [bc, Cf, D0])⟩ ?_;rintro ⟨n1, tb1⟩ ⟨hkn1, hl_tb1, hf1⟩;simp only [Lc];refine Cu (fun hlt0 => ?_) fun hge0 => ?_
 ·have hgb := hg _ (gJ hlt0);refine Sy Tz (Xi n1) ?_;refine Sq X1 ?_;refine Sy Tz (qB (gt gone1 n1).toNat rfl rfl Zf rfl Zf rfl rfl rfl Zo (fun _ => by first | assumption | omega)) ?_;refine Rp rfl rfl rfl rfl ?_;refine zO EPlace tb1 (gt gone1 n1).toNat 1 (⟨(gt tb1 (gt gone1 n1).toNat).node, (-1), (gt tb1 (gt gone1 n1).toNat).name⟩ : Place) .sq (.inl ⟨_, rfl⟩) (au rfl) rfl rfl rfl rfl rfl rfl rfl rfl rfl rfl rfl rfl (Nat.lt_of_lt_of_eq (m := 16) Zc (Eq.symm hl_tb1)) rfl Ub ?_;refine Tt ?_;refine ⟨⟨(n1 + 1), (tb1.set (gt gone1 n1).toNat (⟨(gt tb1 (gt gone1 n1).toNat).node, (-1), (gt tb1 (gt gone1 n1).toNat).name⟩ : Place))⟩, ⟨hlt0, (by rw [List.length_set]; exact hl_tb1), (by rw [← hf1, aK hlt0]; simp only [dt, Cf, D0])⟩, Oo, Le4⟩
 ·refine Lq (Nat × List Place) [6,7,24,25] [false] (fun ⟨n2, tb2⟩ => ⟨[(26, .v (.int .i64 (n2 : Int)))], [⟨g1, 201, (tb2.flatMap EPlace.enc)⟩], [], [], (n2 ≤ here1.length) ∧ (tb2.length = 16) ∧ (dT (here1.drop n2) tb2) = (bc l1 gone1 here1), here1.length - n2⟩) ⟨0, tb1⟩ ⟨N0, hl_tb1, (by rw [← hf1, Dl hge0]; simp only [dt, Cf, D0])⟩ ?_;rintro ⟨n2, tb2⟩ ⟨hkn2, hl_tb2, hf2⟩;simp only [Lc];refine Cu (fun hlt1 => ?_) fun hge1 => ?_
  ·have hhb := hh _ (gJ hlt1);refine Sy Tz (Xi n2) ?_;refine Sq Xa ?_;refine AlT fun g2 => ?_;refine Sy Tz (qB (gt here1 n2).node.toNat rfl rfl Zf rfl Zf rfl rfl rfl Zo (fun _ => by first | assumption | omega)) ?_;refine zP EPlace tb2 (gt here1 n2).node.toNat (gt here1 n2) .sq (.inl ⟨_, rfl⟩) (au rfl) rfl rfl rfl rfl rfl rfl rfl rfl rfl (Nat.lt_of_lt_of_eq (m := 16) Zc (Eq.symm hl_tb2)) Ub ?_;refine Tt ?_;refine ⟨⟨(n2 + 1), (tb2.set (gt here1 n2).node.toNat (gt here1 n2))⟩, ⟨hlt1, (by rw [List.length_set]; exact hl_tb2), (by rw [← hf2, aK hlt1]; simp only [dT, Cf, D0])⟩, Oo, Le4⟩
  ·refine Sy Tz (q_ldA rfl rfl Zf rfl Mm (pw EPlace (n := 16) hl_tb2 rfl)) ?_;refine Ck (iC tb2 Zc) fun x1 => ?_;refine Qr x1 24 fun hlen4 => ?_;have hf := Ri hf2.symm;rw [Dl hge1, dT] at hf;refine Rx ?_; exact Rr x1
def bQ (v1 : View) (d1 : Delta) : View × Int :=
 (bif ((bu v1) != 0) then ((⟨[], [], []⟩ : View), (bu v1)) else (bif ((dq d1) != 0) then ((⟨[], [], []⟩ : View), (dq d1)) else (bif ((bu (⟨v1.roots, (bc v1.known d1.gone d1.here), (bc v1.way d1.wayGone d1.wayHere)⟩ : View)) != 0) then ((⟨[], [], []⟩ : View), (bu (⟨v1.roots, (bc v1.known d1.gone d1.here), (bc v1.way d1.wayGone d1.wayHere)⟩ : View))) else ((⟨v1.roots, (bc v1.known d1.gone d1.here), (bc v1.way d1.wayGone d1.wayHere)⟩ : View), 0))))
theorem mQ (y1 : SlV) (y2 : SlV) (y3 : SlV) (v1 : View) (y4 : SlV) (y5 : SlV) (y6 : SlV) (y7 : SlV) (d1 : Delta) : Dw 104 [.agg ⟨cV y1 y2 y3 v1⟩, .agg ⟨cD y4 y5 y6 y7 d1⟩] [RdL EInt y1 v1.roots, RdL EPlace y2 v1.known, RdL EPlace y3 v1.way, RdL EInt y4 d1.gone, RdL EPlace y5 d1.here, RdL EInt y6 d1.wayGone, RdL EPlace y7 d1.wayHere] (fun (X : SlV × SlV × SlV) => .tuple #[.agg ⟨cV X.1 X.2.1 X.2.2 (bQ v1 d1).1⟩, .int .i64 (bQ v1 d1).2]) (fun X => [RdL EInt X.1 (bQ v1 d1).1.roots, RdL EPlace X.2.1 (bQ v1 d1).1.known, RdL EPlace X.2.2 (bQ v1 d1).1.way]) := by
 refine Dp Tryz.func104 fun C => ?_;refine Qc y1 8 fun hlen1 => ?_;refine Qc y2 24 fun hlen2 => ?_;refine Qc y3 24 fun hlen3 => ?_;refine Qc y4 8 fun hlen4 => ?_;refine Qc y5 24 fun hlen5 => ?_;refine Qc y6 8 fun hlen6 => ?_;refine Qc y7 24 fun hlen7 => ?_;refine BxT fun g1 => ?_;refine BxT fun g2 => ?_;refine AlT fun g3 => ?_;refine Ck (d5 y1 y2 y3 v1) fun _ => ?_;have hf := Ri (bQ.eq_1 v1 d1);refine Cn hf (fun hc1 hc1p hf => ?_) fun hc1 hc1p hf => ?_
 ·refine Tx ?_;refine Fc EInt ?_;refine Fc EPlace ?_;refine Rx ?_; exact Rr ⟨Z0, Z0, Z0⟩
 ·have hcv := lO (ag hc1);refine Ck (ja y4 y5 y6 y7 d1) fun _ => ?_;refine Cn hf (fun hc2 hc2p hf => ?_) fun hc2 hc2p hf => ?_
  ·refine Tx ?_;refine Fc EInt ?_;refine Fc EPlace ?_;refine Rx ?_; exact Rr ⟨Z0, Z0, Z0⟩
  ·have hcd := sA (ag hc2);refine Tx ?_;refine Jn (Nat × SlV × SlV) [4, 5] [true, true, true] (fun ⟨g4, x1, x2⟩ => ⟨[(9, .v (.pointer (some ⟨g4, 0, none⟩)))], [⟨g4, 61, [y1.val v1.roots.length, x1.val (bc v1.known d1.gone d1.here).length, x2.val (bc v1.way d1.wayGone d1.wayHere).length]⟩], [], [RdL EInt y1 v1.roots, RdL EPlace x1 (bc v1.known d1.gone d1.here), RdL EPlace x2 (bc v1.way d1.wayGone d1.wayHere)], True, 0⟩) ?_ ?_
   ·refine Rg [(20,none)] ?_;refine Dx [0,1,2,3,4,5,6,7,8,10,11,12,13,14,15,16] ?_;refine Rw 9 19 ?_ ?_
    ·refine Cv (eJ y2 v1.known y4 d1.gone y5 d1.here (by first | exact hcv.1 | exact hcv.2) (by first | exact hcd.1 | exact hcd.2.2.1) (by first | exact hcd.2.1 | exact hcd.2.2.2)) fun x3 => ?_;refine Qr x3 24 fun hlen8 => ?_;refine Rw 17 19 ?_ ?_
     ·refine Cv (eJ y3 v1.way y6 d1.wayGone y7 d1.wayHere (by first | exact hcv.1 | exact hcv.2) (by first | exact hcd.1 | exact hcd.2.2.1) (by first | exact hcd.2.1 | exact hcd.2.2.2)) fun x4 => ?_;refine Qr x4 24 fun hlen9 => ?_;refine Ra 18 rfl Qp ?_;refine Rn 19 ?_;refine AlT fun g5 => ?_;refine Rn 20 ?_;refine Wa ?_;refine Re0 ?_;refine ⟨⟨g5, x3, x4⟩, trivial, Le4⟩
     ·refine AlT fun g6 => ?_;refine Rn 17 ?_;refine Cv (eJ y3 v1.way y6 d1.wayGone y7 d1.wayHere (by first | exact hcv.1 | exact hcv.2) (by first | exact hcd.1 | exact hcd.2.2.1) (by first | exact hcd.2.1 | exact hcd.2.2.2)) fun x5 => ?_;refine Qr x5 24 fun hlen10 => ?_;refine Ra 18 rfl Qp ?_;refine Rn 20 ?_;refine Wa ?_;refine Re0 ?_;refine ⟨⟨g6, x3, x5⟩, trivial, Le4⟩
    ·refine AlT fun g7 => ?_;refine Rn 9 ?_;refine Cv (eJ y2 v1.known y4 d1.gone y5 d1.here (by first | exact hcv.1 | exact hcv.2) (by first | exact hcd.1 | exact hcd.2.2.1) (by first | exact hcd.2.1 | exact hcd.2.2.2)) fun x6 => ?_;refine Qr x6 24 fun hlen11 => ?_;refine Rn 17 ?_;refine Cv (eJ y3 v1.way y6 d1.wayGone y7 d1.wayHere (by first | exact hcv.1 | exact hcv.2) (by first | exact hcd.1 | exact hcd.2.2.1) (by first | exact hcd.2.1 | exact hcd.2.2.2)) fun x7 => ?_;refine Qr x7 24 fun hlen12 => ?_;refine Ra 18 rfl Qp ?_;refine Rn 20 ?_;refine Wa ?_;refine Re0 ?_;refine ⟨⟨g7, x6, x7⟩, trivial, Le4⟩
   ·rintro ⟨g4, x1, x2⟩ -;simp only [Lc];refine Ck (d5 y1 x1 x2 (⟨v1.roots, (bc v1.known d1.gone d1.here), (bc v1.way d1.wayGone d1.wayHere)⟩ : View)) fun _ => ?_;refine Cn hf (fun hc3 hc3p hf => ?_) fun hc3 hc3p hf => ?_
    ·refine Tx ?_;refine Fc EInt ?_;refine Fc EPlace ?_;refine Rx ?_; exact Rr ⟨Z0, Z0, Z0⟩
    ·refine Rx ?_; exact Rr ⟨y1, x1, x2⟩
def dz (c1 : Client) (me1 : Int) (node1 : Int) (parent1 : Int) (name1 : Int) : Client × Op × Int :=
 (bif ((bx c1 me1) != 0) then ((⟨0, 0, 0, ([] : List Op), 0, (⟨[], [], []⟩ : View)⟩ : Client), (⟨0, 0, 0, 0, 0, 0, 0⟩ : Op), (bx c1 me1)) else (bif (c1.life == 0) then ((⟨0, 0, 0, ([] : List Op), 0, (⟨[], [], []⟩ : View)⟩ : Client), (⟨0, 0, 0, 0, 0, 0, 0⟩ : Op), 7) else (bif ((((c1.pending.length : Int) == 8) || (c1.time == 10000)) || (c1.seq == 30)) then ((⟨0, 0, 0, ([] : List Op), 0, (⟨[], [], []⟩ : View)⟩ : Client), (⟨0, 0, 0, 0, 0, 0, 0⟩ : Op), 2) else (bif ((aG (⟨(c1.time + 1), me1, node1, parent1, name1, c1.life, (c1.seq + 1)⟩ : Op)) != 0) then ((⟨0, 0, 0, ([] : List Op), 0, (⟨[], [], []⟩ : View)⟩ : Client), (⟨0, 0, 0, 0, 0, 0, 0⟩ : Op), (aG (⟨(c1.time + 1), me1, node1, parent1, name1, c1.life, (c1.seq + 1)⟩ : Op))) else ((⟨c1.life, (c1.time + 1), (c1.seq + 1), ((([] : List Op) ++ c1.pending) ++ [(⟨(c1.time + 1), me1, node1, parent1, name1, c1.life, (c1.seq + 1)⟩ : Op)]), c1.version, c1.v⟩ : Client), (⟨(c1.time + 1), me1, node1, parent1, name1, c1.life, (c1.seq + 1)⟩ : Op), 0)))))
theorem oq (y1 : SlV) (y2 : SlV) (y3 : SlV) (y4 : SlV) (c1 : Client) (me1 : Int) (node1 : Int) (parent1 : Int) (name1 : Int) : Dw 57 [.agg ⟨cC y1 y2 y3 y4 c1⟩, .int .i64 me1, .int .i64 node1, .int .i64 parent1, .int .i64 name1] [RdL EOp y1 c1.pending, RdL EInt y2 c1.v.roots, RdL EPlace y3 c1.v.known, RdL EPlace y4 c1.v.way] (fun (X : SlV × SlV × SlV × SlV) => .tuple #[.agg ⟨cC X.1 X.2.1 X.2.2.1 X.2.2.2 (dz c1 me1 node1 parent1 name1).1⟩, .agg ⟨cO (dz c1 me1 node1 parent1 name1).2.1⟩, .int .i64 (dz c1 me1 node1 parent1 name1).2.2]) (fun X => [RdL EOp X.1 (dz c1 me1 node1 parent1 name1).1.pending, RdL EInt X.2.1 (dz c1 me1 node1 parent1 name1).1.v.roots, RdL EPlace X.2.2.1 (dz c1 me1 node1 parent1 name1).1.v.known, RdL EPlace X.2.2.2 (dz c1 me1 node1 parent1 name1).1.v.way]) := by
 refine Dp Tryz.func57 fun C => ?_;refine Qc y1 56 fun hlen1 => ?_;refine Qc y2 8 fun hlen2 => ?_;refine Qc y3 24 fun hlen3 => ?_;refine Qc y4 24 fun hlen4 => ?_;refine BxT fun g1 => ?_;refine AlT fun g2 => ?_;refine AlT fun g3 => ?_;refine Ck (fr y1 y2 y3 y4 c1 me1) fun _ => ?_;have hf := Ri (dz.eq_1 c1 me1 node1 parent1 name1);refine Cn hf (fun hc1 hc1p hf => ?_) fun hc1 hc1p hf => ?_
 ·refine Cd' (fun hc2 => ?_) fun hc2 => ?_
  ·refine Tx ?_;refine Fc EOp ?_;refine Fc EInt ?_;refine Fc EPlace ?_;refine Rx ?_; exact Rr ⟨Z0, Z0, Z0, Z0⟩
  ·exact Bool.noConfusion (hc2.symm.trans hc1)
 ·have hck := kl ((kB c1 me1).symm.trans (ag hc1));refine Ce hf (fun hc3 hc3p hf => ?_) fun hc3 hc3p hf => ?_
  ·refine Cd' (fun hc4 => ?_) fun hc4 => ?_
   ·refine Tx ?_;refine Fc EOp ?_;refine Fc EInt ?_;refine Fc EPlace ?_;refine Rx ?_; exact Rr ⟨Z0, Z0, Z0, Z0⟩
   ·exact Bool.noConfusion (hc4.symm.trans (show ((7 : Int) != 0) = true by decide))
  ·refine Ch hf (fun hc5 hf => ?_) fun hc5 hf => ?_
   ·refine Cd' (fun hc6 => ?_) fun hc6 => ?_
    ·refine Tx ?_;refine Fc EOp ?_;refine Fc EInt ?_;refine Fc EPlace ?_;refine Rx ?_; exact Rr ⟨Z0, Z0, Z0, Z0⟩
    ·exact Bool.noConfusion (hc6.symm.trans (show ((2 : Int) != 0) = true by decide))
   ·refine Cd' (fun hc7 => ?_) fun hc7 => ?_
    ·exact Bool.noConfusion (hc7.symm.trans hc1)
    ·refine AlT fun g4 => ?_;refine Ck (fl (⟨(c1.time + 1), me1, node1, parent1, name1, c1.life, (c1.seq + 1)⟩ : Op)) fun _ => ?_;refine Cn hf (fun hc8 hc8p hf => ?_) fun hc8 hc8p hf => ?_
     ·refine Tx ?_;refine Fc EOp ?_;refine Fc EInt ?_;refine Fc EPlace ?_;refine Rx ?_; exact Rr ⟨Z0, Z0, Z0, Z0⟩
     ·refine Tx ?_;refine Jn (SlV × Option Nat) [5, 10, 11, 12, 14] [true, true, true, false] (fun ⟨x1, b1⟩ => ⟨[], [⟨g1, 63, [.int .i64 c1.life, .int .i64 c1.time, .int .i64 c1.seq, x1.val ((([] : List Op) ++ c1.pending) ++ [(⟨(c1.time + 1), me1, node1, parent1, name1, c1.life, (c1.seq + 1)⟩ : Op)]).length, .int .i64 c1.version, y2.val c1.v.roots.length, y3.val c1.v.known.length, y4.val c1.v.way.length]⟩], [ownL EOp 76 x1 b1 ((([] : List Op) ++ c1.pending) ++ [(⟨(c1.time + 1), me1, node1, parent1, name1, c1.life, (c1.seq + 1)⟩ : Op)])], [RdL EInt y2 c1.v.roots, RdL EPlace y3 c1.v.known, RdL EPlace y4 c1.v.way], True, 0⟩) ?_ ?_
      ·refine Rg [(3,none),(6,none),(8,some [g1])] ?_;refine Dx [1,2] ?_;refine Rw 0 4 ?_ ?_
       ·refine Bl EOp ([] : List Op) fun x2 x2b => ?_;refine Rw 3 4 ?_ ?_
        ·refine Ap EOp 56 ([] : List Op) c1.pending x2b fun x3 x3b => ?_;refine Rb 4 rfl XA ?_;refine Rn 5 ?_;refine Bl EOp [(⟨(c1.time + 1), me1, node1, parent1, name1, c1.life, (c1.seq + 1)⟩ : Op)] fun x4 x4b => ?_;refine Rn 6 ?_;refine Ap EOp 56 (([] : List Op) ++ c1.pending) [(⟨(c1.time + 1), me1, node1, parent1, name1, c1.life, (c1.seq + 1)⟩ : Op)] x3b fun x5 x5b => ?_;refine Ra 7 rfl Qp ?_;refine Rn 8 ?_;refine W1 ?_;refine Re0 ?_;refine ⟨⟨x5, x5b⟩, trivial, Le4⟩
        ·refine pO rfl rfl rfl rfl (q_ldA rfl rfl Zf rfl Mm rfl) ?_;refine Rw 3 5 ?_ ?_
         ·refine Ap EOp 56 ([] : List Op) c1.pending x2b fun x6 x6b => ?_;refine Rn 5 ?_;refine Bl EOp [(⟨(c1.time + 1), me1, node1, parent1, name1, c1.life, (c1.seq + 1)⟩ : Op)] fun x7 x7b => ?_;refine Rn 6 ?_;refine Ap EOp 56 (([] : List Op) ++ c1.pending) [(⟨(c1.time + 1), me1, node1, parent1, name1, c1.life, (c1.seq + 1)⟩ : Op)] x6b fun x8 x8b => ?_;refine Ra 7 rfl Qp ?_;refine Rn 8 ?_;refine W1 ?_;refine Re0 ?_;refine ⟨⟨x8, x8b⟩, trivial, Le4⟩
         ·refine Bl EOp [(⟨(c1.time + 1), me1, node1, parent1, name1, c1.life, (c1.seq + 1)⟩ : Op)] fun x9 x9b => ?_;refine Rn 3 ?_;refine Ap EOp 56 ([] : List Op) c1.pending x2b fun x10 x10b => ?_;refine Rn 6 ?_;refine Ap EOp 56 (([] : List Op) ++ c1.pending) [(⟨(c1.time + 1), me1, node1, parent1, name1, c1.life, (c1.seq + 1)⟩ : Op)] x10b fun x11 x11b => ?_;refine Ra 7 rfl Qp ?_;refine Rn 8 ?_;refine W1 ?_;refine Re0 ?_;refine ⟨⟨x11, x11b⟩, trivial, Le4⟩
       ·refine pO rfl rfl rfl rfl (q_ldA rfl rfl Zf rfl Mm rfl) ?_;refine Rw 0 5 ?_ ?_
        ·refine Bl EOp ([] : List Op) fun x12 x12b => ?_;refine Rw 3 5 ?_ ?_
         ·refine Ap EOp 56 ([] : List Op) c1.pending x12b fun x13 x13b => ?_;refine Rn 5 ?_;refine Bl EOp [(⟨(c1.time + 1), me1, node1, parent1, name1, c1.life, (c1.seq + 1)⟩ : Op)] fun x14 x14b => ?_;refine Rn 6 ?_;refine Ap EOp 56 (([] : List Op) ++ c1.pending) [(⟨(c1.time + 1), me1, node1, parent1, name1, c1.life, (c1.seq + 1)⟩ : Op)] x13b fun x15 x15b => ?_;refine Ra 7 rfl Qp ?_;refine Rn 8 ?_;refine W1 ?_;refine Re0 ?_;refine ⟨⟨x15, x15b⟩, trivial, Le4⟩
         ·refine Bl EOp [(⟨(c1.time + 1), me1, node1, parent1, name1, c1.life, (c1.seq + 1)⟩ : Op)] fun x16 x16b => ?_;refine Rn 3 ?_;refine Ap EOp 56 ([] : List Op) c1.pending x12b fun x17 x17b => ?_;refine Rn 6 ?_;refine Ap EOp 56 (([] : List Op) ++ c1.pending) [(⟨(c1.time + 1), me1, node1, parent1, name1, c1.life, (c1.seq + 1)⟩ : Op)] x17b fun x18 x18b => ?_;refine Ra 7 rfl Qp ?_;refine Rn 8 ?_;refine W1 ?_;refine Re0 ?_;refine ⟨⟨x18, x18b⟩, trivial, Le4⟩
        ·refine Bl EOp [(⟨(c1.time + 1), me1, node1, parent1, name1, c1.life, (c1.seq + 1)⟩ : Op)] fun x19 x19b => ?_;refine Rn 0 ?_;refine Bl EOp ([] : List Op) fun x20 x20b => ?_;refine Rn 3 ?_;refine Ap EOp 56 ([] : List Op) c1.pending x20b fun x21 x21b => ?_;refine Rn 6 ?_;refine Ap EOp 56 (([] : List Op) ++ c1.pending) [(⟨(c1.time + 1), me1, node1, parent1, name1, c1.life, (c1.seq + 1)⟩ : Op)] x21b fun x22 x22b => ?_;refine Ra 7 rfl Qp ?_;refine Rn 8 ?_;refine W1 ?_;refine Re0 ?_;refine ⟨⟨x22, x22b⟩, trivial, Le4⟩
      ·rintro ⟨x1, b1⟩ -;simp only [Lc];refine Tt ?_;refine Rg [(2,some [g2]),(3,some [g3])] ?_;refine Ra 0 rfl XA ?_;refine Rq (Fa 1 [2]) (.keep (.keep (.keep (.drop Sa)))) XA ?_;refine Rn 2 ?_;refine Wa ?_;refine Rn 3 ?_;refine Wa ?_;refine Ra 4 rfl Qp ?_;refine Re0 ?_;(repeat refine er ?_);refine Fz x1 ?_;refine Rx ?_; exact Rr ⟨x1, y2, y3, y4⟩
def dp (c1 : Client) (m1 : Mail) (roots1 : List Int) (known1 : List Place) (way1 : List Place) : List Op → (List Op) → (Client × Int)
 | [], pending1 => ((⟨c1.life, (if m1.time > c1.time then m1.time else c1.time), c1.seq, pending1, m1.version, (⟨roots1, known1, way1⟩ : View)⟩ : Client), 0)
 | pn1 :: rn1, pending1 => (bif decide (pn1.seq > m1.seq) then (dp c1 m1 roots1 known1 way1 rn1 (pending1 ++ [pn1])) else (dp c1 m1 roots1 known1 way1 rn1 pending1))
def eX (c1 : Client) (m1 : Mail) (roots1 : List Int) (known1 : List Place) (way1 : List Place) : Client × Int :=
 (dp c1 m1 roots1 known1 way1 c1.pending [])
def aO (c1 : Client) (me1 : Int) (m1 : Mail) : Client × Int :=
 (bif ((bx c1 me1) == 0) then (bif (((ci [m1]) == 0) && ((m1.kind == 1) || (m1.who != me1))) then ((⟨0, 0, 0, ([] : List Op), 0, (⟨[], [], []⟩ : View)⟩ : Client), 4) else (bif ((ci [m1]) != 0) then ((⟨0, 0, 0, ([] : List Op), 0, (⟨[], [], []⟩ : View)⟩ : Client), (ci [m1])) else (bif ((((c1.life != m1.life) || decide (c1.version ≥ m1.version)) || decide (c1.seq < m1.seq)) || ((m1.kind == 3) && (m1.frm != c1.version))) then (c1, 0) else (bif (m1.kind == 3) then (bif ((bQ c1.v m1.d).2 != 0) then ((⟨0, 0, 0, ([] : List Op), 0, (⟨[], [], []⟩ : View)⟩ : Client), (bQ c1.v m1.d).2) else (eX c1 m1 (bQ c1.v m1.d).1.roots (bQ c1.v m1.d).1.known (bQ c1.v m1.d).1.way)) else (eX c1 m1 m1.v.roots m1.v.known m1.v.way))))) else ((⟨0, 0, 0, ([] : List Op), 0, (⟨[], [], []⟩ : View)⟩ : Client), (bx c1 me1)))
theorem jV (y1 : SlV) (y2 : SlV) (y3 : SlV) (y4 : SlV) (c1 : Client) (me1 : Int) (y5 : SlV) (y6 : SlV) (y7 : SlV) (y8 : SlV) (y9 : SlV) (y10 : SlV) (y11 : SlV) (m1 : Mail) : Dw 55 [.agg ⟨cC y1 y2 y3 y4 c1⟩, .int .i64 me1, .agg ⟨cM y5 y6 y7 y8 y9 y10 y11 m1⟩] [RdL EOp y1 c1.pending, RdL EInt y2 c1.v.roots, RdL EPlace y3 c1.v.known, RdL EPlace y4 c1.v.way, RdL EInt y5 m1.v.roots, RdL EPlace y6 m1.v.known, RdL EPlace y7 m1.v.way, RdL EInt y8 m1.d.gone, RdL EPlace y9 m1.d.here, RdL EInt y10 m1.d.wayGone, RdL EPlace y11 m1.d.wayHere] (fun (X : SlV × SlV × SlV × SlV) => .tuple #[.agg ⟨cC X.1 X.2.1 X.2.2.1 X.2.2.2 (aO c1 me1 m1).1⟩, .int .i64 (aO c1 me1 m1).2]) (fun X => [RdL EOp X.1 (aO c1 me1 m1).1.pending, RdL EInt X.2.1 (aO c1 me1 m1).1.v.roots, RdL EPlace X.2.2.1 (aO c1 me1 m1).1.v.known, RdL EPlace X.2.2.2 (aO c1 me1 m1).1.v.way]) := by
 refine Dp Tryz.func55 fun C => ?_;refine Qc y1 56 fun hlen1 => ?_;refine Qc y2 8 fun hlen2 => ?_;refine Qc y3 24 fun hlen3 => ?_;refine Qc y4 24 fun hlen4 => ?_;refine Qc y5 8 fun hlen5 => ?_;refine Qc y6 24 fun hlen6 => ?_;refine Qc y7 24 fun hlen7 => ?_;refine Qc y8 8 fun hlen8 => ?_;refine Qc y9 24 fun hlen9 => ?_;refine Qc y10 8 fun hlen10 => ?_;refine Qc y11 24 fun hlen11 => ?_;refine BxT fun g1 => ?_;refine BxT fun g2 => ?_;refine AlT fun g3 => ?_;refine Ck (fr y1 y2 y3 y4 c1 me1) fun _ => ?_;have hf := Ri (aO.eq_1 c1 me1 m1);refine Ce hf (fun hc1 hc1p hf => ?_) fun hc1 hc1p hf => ?_
 ·refine Bl NMail.E [((y5, y6, y7, y8, y9, y10, y11), m1)] (hfill := kO rfl rfl) fun x1 x1b => ?_;refine Fx x1 ?_;refine Ns NMail x1 [m1] ?_;refine Ck (jq x1 [m1]) fun _ => ?_;refine Ch hf (fun hc2 hf => ?_) fun hc2 hf => ?_
  ·refine Cd' (fun hc3 => ?_) fun hc3 => ?_
   ·refine Tx ?_;refine Fc EOp ?_;refine Fc EInt ?_;refine Fc EPlace ?_;refine Rx ?_; exact Rr ⟨Z0, Z0, Z0, Z0⟩
   ·exact Bool.noConfusion (hc3.symm.trans (show ((4 : Int) != 0) = true by decide))
  ·refine Cn hf (fun hc4 hc4p hf => ?_) fun hc4 hc4p hf => ?_
   ·refine Tx ?_;refine Fc EOp ?_;refine Fc EInt ?_;refine Fc EPlace ?_;refine Rx ?_; exact Rr ⟨Z0, Z0, Z0, Z0⟩
   ·refine Ch hf (fun hc5 hf => ?_) fun hc5 hf => ?_
    ·refine Rx ?_; exact Rr ⟨y1, y2, y3, y4⟩
    ·refine AlT fun g4 => ?_;refine Tx ?_;refine my [3, 5, 6, 7, 9] [false, true, true, true] (fun (i_ : List Int × SlV × List Place × SlV × List Place × SlV) => match i_ with | ⟨roots1, x2, known1, x3, way1, x4⟩ => []) (fun (i_ : List Int × SlV × List Place × SlV × List Place × SlV) => match i_ with | ⟨roots1, x2, known1, x3, way1, x4⟩ => [⟨g4, 61, [x2.val roots1.length, x3.val known1.length, x4.val way1.length]⟩]) (fun (i_ : List Int × SlV × List Place × SlV × List Place × SlV) => match i_ with | ⟨roots1, x2, known1, x3, way1, x4⟩ => []) (fun (i_ : List Int × SlV × List Place × SlV × List Place × SlV) => match i_ with | ⟨roots1, x2, known1, x3, way1, x4⟩ => [RdL EInt x2 roots1, RdL EPlace x3 known1, RdL EPlace x4 way1]) (fun (i_ : List Int × SlV × List Place × SlV × List Place × SlV) => match i_ with | ⟨roots1, x2, known1, x3, way1, x4⟩ => (eX c1 m1 roots1 known1 way1) = (aO c1 me1 m1)) (.cons rfl (.cons rfl (.cons rfl (.cons rfl (.cons rfl (.nil _)))))) (.drop (.keep (.keep (.keep (.nil))))) ?_ ?_
     ·refine Ce hf (fun hc6 hc6p hf => ?_) fun hc6 hc6p hf => ?_
      ·refine Ck (mQ y2 y3 y4 c1.v y8 y9 y10 y11 m1.d) fun x5 => ?_;refine Qr x5.1 8 fun hlen12 => ?_;refine Qr x5.2.1 24 fun hlen13 => ?_;refine Qr x5.2.2 24 fun hlen14 => ?_;refine Cn hf (fun hc7 hc7p hf => ?_) fun hc7 hc7p hf => ?_
       ·refine Tx ?_;refine Fc EOp ?_;refine Fc EInt ?_;refine Fc EPlace ?_;refine Rx ?_; exact Rr ⟨Z0, Z0, Z0, Z0⟩
       ·refine Tx ?_;refine ⟨⟨(bQ c1.v m1.d).1.roots, x5.1, (bQ c1.v m1.d).1.known, x5.2.1, (bQ c1.v m1.d).1.way, x5.2.2⟩, hf.symm, Le4⟩
      ·refine Tx ?_;refine ⟨⟨m1.v.roots, y5, m1.v.known, y6, m1.v.way, y7⟩, hf.symm, Le4⟩
     ·rintro ⟨roots1, x2, known1, x3, way1, x4⟩ hj1;simp only [Lc];refine Sy Tz (q_max rfl rfl Zf rfl Zf) ?_;refine AlT fun g5 => ?_;refine Lq (Nat × List Op × SlV × Option Nat) [5,6,7,10,101,102] [false, true, true, true, true] (fun ⟨n1, pending1, x6, x6b⟩ => ⟨[(103, .v (.int .i64 (n1 : Int)))], [⟨g5, 63, [.int .i64 c1.life, .int .i64 (if m1.time > c1.time then m1.time else c1.time), .int .i64 c1.seq, x6.val pending1.length, .int .i64 m1.version, x2.val roots1.length, x3.val known1.length, x4.val way1.length]⟩], [ownL EOp 76 x6 x6b pending1], [], (n1 ≤ c1.pending.length) ∧ (pending1.length ≤ n1) ∧ (dp c1 m1 roots1 known1 way1 (c1.pending.drop n1) pending1) = (aO c1 me1 m1), c1.pending.length - n1⟩) ⟨0, [], ⟨none, 0⟩, none⟩ ⟨N0, Nz, (by rw [← hj1]; simp only [eX, Cf, D0])⟩ ?_ (hs := Le.trans (eI EOp 76) Le4);rintro ⟨n1, pending1, x6, x6b⟩ ⟨hkn1, hpending1, hf1⟩;simp only [Lc];refine Cu (fun hlt0 => ?_) fun hge0 => ?_
      ·refine Sy Tz (Xi n1) ?_;refine Sq Xa ?_;refine AlT fun g6 => ?_;have hf := Ri hf1.symm;rw [aK hlt0, dp] at hf;refine Cp hf (fun hc9 hc9p hf => ?_) fun hc9 hc9p hf => ?_
       ·refine Bl EOp [(gt c1.pending n1)] fun x7 x7b => ?_;refine Ap EOp 56 pending1 [(gt c1.pending n1)] x6b fun x8 x8b => ?_;refine Tt ?_;refine ⟨⟨(n1 + 1), (pending1 ++ [(gt c1.pending n1)]), x8, x8b⟩, ⟨hlt0, Zl, hf.symm⟩, Oo, Le4⟩
       ·refine Tt ?_;refine ⟨⟨(n1 + 1), pending1, x6, x6b⟩, ⟨hlt0, Zl, hf.symm⟩, Oo, Le4⟩
      ·refine Tx ?_;refine Fz x6 ?_;have hf := Ri hf1.symm;rw [Dl hge0, dp] at hf;refine Rx ?_; exact Rr ⟨x6, x2, x3, x4⟩
 ·(repeat refine er ?_); refine rx ?_;(repeat refine er ?_); refine kk ?_;refine Rp rfl rfl rfl rfl ?_;refine Rp rfl rfl rfl rfl ?_;refine Rp rfl rfl rfl rfl ?_;refine rw_qg (ce rfl rfl rfl) rfl rfl (jA (v := .bool false) hc1) ?_;refine rw_qg (ce rfl rfl rfl) rfl rfl (jA (v := .bool false) hc1) ?_;refine rw_qg (ce rfl rfl rfl) rfl rfl (jA (v := .bool false) hc1) ?_;refine rw_qg (ce rfl rfl rfl) rfl rfl (jA (v := .bool false) hc1) ?_;refine rw_qg (fI rfl rfl rfl) rfl rfl (jA (v := .bool false) (by rw [hc1]; rfl)) ?_;refine rw_qg (fI rfl rfl rfl) rfl rfl (jA (v := .bool false) (by rw [hc1]; rfl)) ?_;refine rw_qg (fI rfl rfl rfl) rfl rfl (jA (v := .bool false) (by rw [hc1]; rfl)) ?_;refine rw_qg (fI rfl rfl rfl) rfl rfl (jA (v := .bool false) (by rw [hc1]; rfl)) ?_;refine rw_qg (ce rfl rfl rfl) rfl rfl (jA (v := .bool false) hc1) ?_;refine Cd' (fun hc10 => ?_) fun hc10 => ?_
  ·exact Bool.noConfusion (hc10.symm.trans ((by simp only [hc1, Bd]) : (((bx c1 me1) == 0) && false) = false))
  ·refine Cd' (fun hc11 => ?_) fun hc11 => ?_
   ·refine Tx ?_;refine Fc EOp ?_;refine Fc EInt ?_;refine Fc EPlace ?_;refine Rx ?_; exact Rr ⟨Z0, Z0, Z0, Z0⟩
   ·exact Bool.noConfusion (hc11.symm.trans (show ((bx c1 me1) != 0) = true by rw [bne, hc1]; rfl))
end Go.Proofs.YtkjccbdeaflekaaGreatDoor
namespace Go.Proofs.YtkjccbdeaflekaaGreatDoor
open Go Go.Proofs.YtkjccbdeaflekaaGreatDoor.Fw Go.Proofs
attribute [local irreducible] CW RW
def eW (x1 : Mail) (y1 : Mail) : Bool :=
 ((((((((((x1.kind == y1.kind) && (x1.who == y1.who)) && (x1.life == y1.life)) && (x1.seq == y1.seq)) && (x1.time == y1.time)) && (x1.version == y1.version)) && (x1.frm == y1.frm)) && decide (x1.o = y1.o)) && (fE x1.v y1.v)) && (i9 x1.d y1.d))
theorem lD (y2 : SlV) (y3 : SlV) (y4 : SlV) (y5 : SlV) (y6 : SlV) (y7 : SlV) (y8 : SlV) (x1 : Mail) (y9 : SlV) (y10 : SlV) (y11 : SlV) (y12 : SlV) (y13 : SlV) (y14 : SlV) (y15 : SlV) (y1 : Mail) : Du 98 [.agg ⟨cM y2 y3 y4 y5 y6 y7 y8 x1⟩, .agg ⟨cM y9 y10 y11 y12 y13 y14 y15 y1⟩] [RdL EInt y2 x1.v.roots, RdL EPlace y3 x1.v.known, RdL EPlace y4 x1.v.way, RdL EInt y5 x1.d.gone, RdL EPlace y6 x1.d.here, RdL EInt y7 x1.d.wayGone, RdL EPlace y8 x1.d.wayHere, RdL EInt y9 y1.v.roots, RdL EPlace y10 y1.v.known, RdL EPlace y11 y1.v.way, RdL EInt y12 y1.d.gone, RdL EPlace y13 y1.d.here, RdL EInt y14 y1.d.wayGone, RdL EPlace y15 y1.d.wayHere] (.bool (eW x1 y1)) := by
 refine Dp Tryz.func98 fun C => ?_;refine Qc y2 8 fun hlen1 => ?_;refine Qc y3 24 fun hlen2 => ?_;refine Qc y4 24 fun hlen3 => ?_;refine Qc y5 8 fun hlen4 => ?_;refine Qc y6 24 fun hlen5 => ?_;refine Qc y7 8 fun hlen6 => ?_;refine Qc y8 24 fun hlen7 => ?_;refine Qc y9 8 fun hlen8 => ?_;refine Qc y10 24 fun hlen9 => ?_;refine Qc y11 24 fun hlen10 => ?_;refine Qc y12 8 fun hlen11 => ?_;refine Qc y13 24 fun hlen12 => ?_;refine Qc y14 8 fun hlen13 => ?_;refine Qc y15 24 fun hlen14 => ?_;refine BxT fun g1 => ?_;refine BxT fun g2 => ?_;refine Tx ?_;refine Sg Gz (q_eqE tC (lI x1.o y1.o) rfl rfl Bt rfl Bt rfl rfl) ?_;refine Cy (fun hG_ => ic y2 y3 y4 x1.v y9 y10 y11 y1.v) ?_;refine Cy (fun hG_ => lV y5 y6 y7 y8 x1.d y12 y13 y14 y15 y1.d) ?_;have hf := Ri (eW.eq_1 x1 y1);exact Ru
def f7 (a1 : List Mail) (b1 : List Mail) : Bool :=
 (dZ a1 b1 eW)
theorem mq (y1 : SlV) (a1 : List Mail) (y2 : SlV) (b1 : List Mail) : Du 45 [y1.val a1.length, y2.val b1.length] [RdN NMail y1 a1, RdN NMail y2 b1] (.bool (f7 a1 b1)) := by
 refine Dp Tryz.func45 fun C => ?_;refine Qn y1 280 fun hlen1 => ?_;refine Qn y2 280 fun hlen2 => ?_;refine Ck (lS y1 a1 y2 b1 _ _ _ eW Kr (fun z0a_ z0b_ z0c_ z0d_ z0e_ z0f_ z0g_ a0_ z1a_ z1b_ z1c_ z1d_ z1e_ z1f_ z1g_ a1_ => lD z0a_ z0b_ z0c_ z0d_ z0e_ z0f_ z0g_ a0_ z1a_ z1b_ z1c_ z1d_ z1e_ z1f_ z1g_ a1_)) fun _ => ?_;have hf := Ri (f7.eq_1 a1 b1);exact Ru
variable {h : Hub}
theorem DP (hh : IsHub h) (r : Rec) : hJ h r = bd h r := by
 unfold hJ;rw [(eo h).2 hh]; rfl
variable {c : Client} {me : Int}
theorem IsCli.ops (h : IsCli c me) : ∀ o ∈ c.pending, chkO o = 0 := fun o ho => by
 obtain ⟨i, hi, rfl⟩ := List.getElem_of_mem ho;have := (h.pend i hi).ok
 rwa [gt_eq hi] at this
def kb (c : Client) (o : Op) : Client := ⟨c.life, o.time, o.seq, c.pending ++ [o], c.version, c.v⟩
variable {name node parent : Int}
theorem vQ (h : (c9 c me node parent name).2.2 = 0) : IsCli c me ∧ c.life ≠ 0 ∧ c.pending.length ≠ 8 ∧ c.time ≠ 10000 ∧ c.seq ≠ 30 ∧ chkO ⟨c.time + 1, me, node, parent, name, c.life, c.seq + 1⟩ = 0 ∧
  c9 c me node parent name = (kb c ⟨c.time + 1, me, node, parent, name, c.life, c.seq + 1⟩, ⟨c.time + 1, me, node, parent, name, c.life, c.seq + 1⟩, 0) := by
 unfold c9 at h ⊢;cases h1 : (bK c me != 0) with
 | true => rw [h1, cond_true] at h; simp only at h; rw [h] at h1; cases h1
 | false =>
 rw [h1, cond_false] at h;cases h2 : (c.life == 0) with
 | true => rw [h2, cond_true] at h; cases h
 | false =>
 rw [h2, cond_false] at h;cases h3 : ((((c.pending.length : Int) == 8) || (c.time == 10000)) || (c.seq == 30)) with
 | true => rw [h3, cond_true] at h; cases h
 | false =>
 rw [h3, cond_false] at h;cases h4 : (dv (⟨(c.time + 1), me, node, parent, name, c.life, (c.seq + 1)⟩ : Op) != 0) with
 | true => rw [h4, cond_true] at h; simp only at h; rw [h] at h4; cases h4
 | false =>
 simp only [Bool.or_eq_false_iff, beq_eq_false_iff_ne] at h2 h3;exact ⟨(fF _ _).1 (ag h1), h2, by omega, h3.1.2, h3.2, ag h4, rfl⟩
theorem rt {l : List Op} {o : Op} {i : Nat} (h : i < l.length) : gt (l ++ [o]) i = gt l i := by
 simp [gt, List.getD_eq_getElem?_getD, List.getElem?_append_left h]
theorem wl (h : IsCli c me) (h1 : c.life ≠ 0) (h2 : c.pending.length ≠ 8) (h3 : c.time ≠ 10000) (h4 : c.seq ≠ 30) (ho : chkO ⟨c.time + 1, me, node, parent, name, c.life, c.seq + 1⟩ = 0) : IsCli (kb c ⟨c.time + 1, me, node, parent, name, c.life, c.seq + 1⟩) me := by
 have hr := h.rng;have hf := h.few;have hp := h.pseq;have hlen : (kb c ⟨c.time + 1, me, node, parent, name, c.life, c.seq + 1⟩).pending.length = c.pending.length + 1 := by simp [kb]
 refine ⟨h.num, by simp only [kb]; omega, by omega, h.view, fun hl => absurd hl h1, h.vers, by rw [hlen]; simp only [kb]; omega, fun i hi => ?_⟩;rw [hlen] at hi;rcases Nat.lt_or_ge i c.pending.length with hlt | hge
 ·have hq := h.pend i hlt;have hg : gt (kb c ⟨c.time + 1, me, node, parent, name, c.life, c.seq + 1⟩).pending i = gt c.pending i := rt hlt;have hs := hq.seq;have ht := hq.time;refine ⟨by rw [hg]; exact hq.ok, by rw [hg]; exact hq.who, by rw [hg]; exact hq.life, ?_, ?_, fun h0 => ?_⟩
  ·rw [hg, hs, hlen]; simp only [kb]; omega
  ·rw [hg]; simp only [kb]; omega
  ·rw [hg, show gt (kb c ⟨c.time + 1, me, node, parent, name, c.life, c.seq + 1⟩).pending (i - 1) = gt c.pending (i - 1) from rt (by omega)];exact hq.up h0
 ·have hi' : i = c.pending.length := by omega
  have hg : gt (kb c ⟨c.time + 1, me, node, parent, name, c.life, c.seq + 1⟩).pending i = ⟨c.time + 1, me, node, parent, name, c.life, c.seq + 1⟩ := mX _ _ [] _ hi';refine ⟨by rw [hg]; exact ho, by rw [hg], by rw [hg]; rfl, ?_, ?_, fun h0 => ?_⟩
  ·rw [hg, hlen]; simp only [kb]; omega
  ·rw [hg]; simp only [kb]; omega
  ·rw [hg, show gt (kb c ⟨c.time + 1, me, node, parent, name, c.life, c.seq + 1⟩).pending (i - 1) = gt c.pending (i - 1) from rt (by omega)];have := (h.pend (i - 1) (by omega)).time;show _ < c.time + 1;omega
attribute [local irreducible] RdL RdN VarP
def c7 (a1 : List Place) (b1 : List Place) : Nat → Nat → (List Int) → (List Place) → ((List Int) × (List Place))
 | 0, n1, gone1, here1 => (gone1, here1)
 | fn1 + 1, n1, gone1, here1 => (bif decide ((gt (ap a1) n1) = (gt (ap b1) n1)) then (c7 a1 b1 fn1 (n1 + 1) gone1 here1) else (bif decide ((gt (ap b1) n1).parent < 0) then (c7 a1 b1 fn1 (n1 + 1) (gone1 ++ [(n1 : Int)]) here1) else (c7 a1 b1 fn1 (n1 + 1) gone1 (here1 ++ [(gt (ap b1) n1)]))))
def c8 (a1 : List Place) (b1 : List Place) : (List Int) × (List Place) :=
 (c7 a1 b1 (16 - 1) 1 [] [])
theorem jU (y1 : SlV) (a1 : List Place) (y2 : SlV) (b1 : List Place) (hna : ∀ p ∈ a1, 0 ≤ p.node ∧ p.node < 16) (hnb : ∀ p ∈ b1, 0 ≤ p.node ∧ p.node < 16) : Dw 105 [y1.val a1.length, y2.val b1.length] [RdL EPlace y1 a1, RdL EPlace y2 b1] (fun (X : SlV × SlV) => .tuple #[X.1.val (c8 a1 b1).1.length, X.2.val (c8 a1 b1).2.length]) (fun X => [RdL EInt X.1 (c8 a1 b1).1, RdL EPlace X.2 (c8 a1 b1).2]) := by
 refine Dp Tryz.func105 fun C => ?_;refine Qc y1 24 fun hlen1 => ?_;refine Qc y2 24 fun hlen2 => ?_;refine Ck (fL y1 a1 (by first | exact hna | exact hnb)) fun _ => ?_;refine Rp rfl rfl rfl rfl ?_;refine Ck (fL y2 b1 (by first | exact hna | exact hnb)) fun _ => ?_;refine AlT fun g1 => ?_;refine AlT fun g2 => ?_;refine sW EPlace (ap a1) (n := 16) .sq (.inl ⟨_, rfl⟩) (au rfl) rfl rfl rfl rfl rfl rfl rfl (gq a1) rfl Ub (by rfl) ?_;refine sW EPlace (ap b1) (n := 16) .sq (.inl ⟨_, rfl⟩) (au rfl) rfl rfl rfl rfl rfl rfl rfl (gq b1) rfl Ub (by rfl) ?_;refine Lq (List Int × SlV × Option Nat × List Place × SlV × Option Nat × Nat) [4,5,6,7] [true, true] (fun ⟨gone1, x1, x1b, here1, x2, x2b, n1⟩ => ⟨[(8, .v (x1.val gone1.length)), (9, .v (x2.val here1.length)), (10, .v (.int .i64 (n1 : Int)))], [], [ownL EInt 3 x1 x1b gone1, ownL EPlace 99 x2 x2b here1], [], (n1 ≤ 16) ∧ (gone1.length ≤ n1) ∧ (here1.length ≤ n1) ∧ (c7 a1 b1 (16 - n1) n1 gone1 here1) = (c8 a1 b1), 16 - n1⟩) ⟨[], ⟨none, 0⟩, none, [], ⟨none, 0⟩, none, 1⟩ ⟨(by omega), Nz, Nz, (by simp only [c8, Cf, D0])⟩ ?_ (hs := Le.trans (eI EInt 3) (Le.trans (eI EPlace 99) Le4))
 rintro ⟨gone1, x1, x1b, here1, x2, x2b, n1⟩ ⟨hkn1, hgone1, hhere1, hf1⟩;simp only [Lc];refine Cd' (fun hc1 => ?_) fun hc1 => ?_
 ·have hlt0 : n1 < 16 := by have := of_decide_eq_true hc1; omega
  have hlt0_ : 16 - n1 = (16 - (n1 + 1)) + 1 := by omega
  refine Rg [] ?_;refine Rb 0 rfl Qp ?_;refine Rb 1 rfl (qB n1 rfl rfl Zf rfl Zf rfl rfl rfl Zf (fun _ => by first | assumption | omega)) ?_;refine Rb 2 rfl (q_ltA EPlace n1 rfl rfl Zf rfl rfl rfl Mm (fun _ => Nat.lt_of_lt_of_eq (m := 16) Zc (Eq.symm (gq a1)))) ?_;refine Rb 3 rfl Qp ?_;refine Rb 4 rfl (qB n1 rfl rfl Zf rfl Zf rfl rfl rfl Zf (fun _ => by first | assumption | omega)) ?_;refine Rb 5 rfl (q_ltA EPlace n1 rfl rfl Zf rfl rfl rfl Mm (fun _ => Nat.lt_of_lt_of_eq (m := 16) Zc (Eq.symm (gq b1)))) ?_;refine Ra 6 rfl (q_eqE oX (kM (gt (ap a1) n1) (gt (ap b1) n1)) rfl rfl Zf rfl Zf rfl rfl) ?_;refine Ra 7 rfl Qp ?_;refine Re0 ?_;have hf := Ri hf1.symm;rw [hlt0_, c7] at hf;refine Cp hf (fun hc2 hc2p hf => ?_) fun hc2 hc2p hf => ?_
  ·refine Tt ?_;refine ⟨⟨gone1, x1, x1b, here1, x2, x2b, (n1 + 1)⟩, ⟨hlt0, Zl, Zl, hf.symm⟩, Oo, Le4⟩
  ·refine Sy Tz (qB n1 rfl rfl Zf rfl Zf rfl rfl rfl Zf (fun _ => by first | assumption | omega)) ?_;refine Rp rfl rfl rfl rfl ?_;refine Sq (q_lt1 EPlace n1 (o2 := 1) rfl rfl Zf rfl rfl rfl Mm (fun _ => Nat.lt_of_lt_of_eq (m := 16) Zc (Eq.symm (gq b1))) rfl) ?_;refine Cp hf (fun hc3 hc3p hf => ?_) fun hc3 hc3p hf => ?_
   ·refine Bl EInt [(n1 : Int)] fun x3 x3b => ?_;refine Ap EInt 8 gone1 [(n1 : Int)] x1b fun x4 x4b => ?_;refine Tt ?_;refine ⟨⟨(gone1 ++ [(n1 : Int)]), x4, x4b, here1, x2, x2b, (n1 + 1)⟩, ⟨hlt0, Zl, Zl, hf.symm⟩, Oo, Le4⟩
   ·refine Sy Tz (qB n1 rfl rfl Zf rfl Zf rfl rfl rfl Zf (fun _ => by first | assumption | omega)) ?_;refine Sq (q_ltA EPlace n1 rfl rfl Zf rfl rfl rfl Mm (fun _ => Nat.lt_of_lt_of_eq (m := 16) Zc (Eq.symm (gq b1)))) ?_;refine Bl EPlace [(gt (ap b1) n1)] fun x5 x5b => ?_;refine Ap EPlace 24 here1 [(gt (ap b1) n1)] x2b fun x6 x6b => ?_;refine Tt ?_;refine ⟨⟨gone1, x1, x1b, (here1 ++ [(gt (ap b1) n1)]), x6, x6b, (n1 + 1)⟩, ⟨hlt0, Zl, Zl, hf.symm⟩, Oo, Le4⟩
 ·have hge0 : 16 ≤ n1 := by have := of_decide_eq_false hc1; omega
  have hge0_ : 16 - n1 = 0 := by omega
  refine Tx ?_;refine Fz x1 ?_;refine Fz x2 ?_;have hf := Ri hf1.symm;rw [hge0_, c7] at hf;refine Rx ?_; exact Rr ⟨x1, x2⟩
def di (from1 : View) (to1 : View) : Delta × Int :=
 (bif ((bu from1) != 0) then ((⟨[], [], [], []⟩ : Delta), (bu from1)) else (bif ((bu to1) != 0) then ((⟨[], [], [], []⟩ : Delta), (bu to1)) else (bif (!(decide (from1.roots = to1.roots))) then ((⟨[], [], [], []⟩ : Delta), 4) else ((⟨(c8 from1.known to1.known).1, (c8 from1.known to1.known).2, (c8 from1.way to1.way).1, (c8 from1.way to1.way).2⟩ : Delta), 0))))
theorem mP (y1 : SlV) (y2 : SlV) (y3 : SlV) (from1 : View) (y4 : SlV) (y5 : SlV) (y6 : SlV) (to1 : View) : Dw 61 [.agg ⟨cV y1 y2 y3 from1⟩, .agg ⟨cV y4 y5 y6 to1⟩] [RdL EInt y1 from1.roots, RdL EPlace y2 from1.known, RdL EPlace y3 from1.way, RdL EInt y4 to1.roots, RdL EPlace y5 to1.known, RdL EPlace y6 to1.way] (fun (X : SlV × SlV × SlV × SlV) => .tuple #[.agg ⟨cD X.1 X.2.1 X.2.2.1 X.2.2.2 (di from1 to1).1⟩, .int .i64 (di from1 to1).2]) (fun X => [RdL EInt X.1 (di from1 to1).1.gone, RdL EPlace X.2.1 (di from1 to1).1.here, RdL EInt X.2.2.1 (di from1 to1).1.wayGone, RdL EPlace X.2.2.2 (di from1 to1).1.wayHere]) := by
 refine Dp Tryz.func61 fun C => ?_;refine Qc y1 8 fun hlen1 => ?_;refine Qc y2 24 fun hlen2 => ?_;refine Qc y3 24 fun hlen3 => ?_;refine Qc y4 8 fun hlen4 => ?_;refine Qc y5 24 fun hlen5 => ?_;refine Qc y6 24 fun hlen6 => ?_;refine BxT fun g1 => ?_;refine BxT fun g2 => ?_;refine AlT fun g3 => ?_;refine Ck (d5 y1 y2 y3 from1) fun _ => ?_;have hf := Ri (di.eq_1 from1 to1);refine Cn hf (fun hc1 hc1p hf => ?_) fun hc1 hc1p hf => ?_
 ·refine Tx ?_;refine Fc EInt ?_;refine Fc EPlace ?_;refine Rx ?_; exact Rr ⟨Z0, Z0, Z0, Z0⟩
 ·have hcv1 := lO (ag hc1);refine Ck (d5 y4 y5 y6 to1) fun _ => ?_;refine Cn hf (fun hc2 hc2p hf => ?_) fun hc2 hc2p hf => ?_
  ·refine Tx ?_;refine Fc EInt ?_;refine Fc EPlace ?_;refine Rx ?_; exact Rr ⟨Z0, Z0, Z0, Z0⟩
  ·have hcv2 := lO (ag hc2);refine Ck ((fun y1 a y2 b => cl y1 y2 a b) y1 from1.roots y4 to1.roots) fun _ => ?_;refine Ch hf (fun hc3 hf => ?_) fun hc3 hf => ?_
   ·refine Tx ?_;refine Fc EInt ?_;refine Fc EPlace ?_;refine Rx ?_; exact Rr ⟨Z0, Z0, Z0, Z0⟩
   ·refine AlT fun g4 => ?_;refine Ck (jU y2 from1.known y5 to1.known (by first | exact hcv1.1 | exact hcv1.2) (by first | exact hcv2.1 | exact hcv2.2)) fun x1 => ?_;refine Qr x1.1 8 fun hlen7 => ?_;refine Qr x1.2 24 fun hlen8 => ?_;refine Ck (jU y3 from1.way y6 to1.way (by first | exact hcv1.1 | exact hcv1.2) (by first | exact hcv2.1 | exact hcv2.2)) fun x2 => ?_;refine Qr x2.1 8 fun hlen9 => ?_;refine Qr x2.2 24 fun hlen10 => ?_;refine Rx ?_; exact Rr ⟨x1.1, x1.2, x2.1, x2.2⟩
theorem yF (eq : Mail → Mail → Bool) (he : ∀ a b, eq a b = true ↔ a = b) (s : List Mail) : ∀ (r : List Mail) (n : Nat), r.length + n ≤ s.length → (cg s eq r n = true ↔ r = (s.drop n).take r.length)
 | [], n, _ => by simp [cg]
 | p :: r, n, h => by
  simp only [List.length_cons] at h;rw [cg, aK (show n < s.length by omega), List.length_cons, List.take_succ_cons];cases h1 : eq p (gt s n) with
  | false =>
   simp only [Bool.not_false, cond_true, Bool.false_eq_true, List.cons.injEq, false_iff, not_and];intro e; rw [(he _ _).2 e] at h1; cases h1
  | true =>
   simp only [Bool.not_true, cond_false, List.cons.injEq, (he _ _).1 h1, true_and];exact yF eq he s r (n + 1) (by omega)
theorem tA (eq : Mail → Mail → Bool) (he : ∀ a b, eq a b = true ↔ a = b) (a b : List Mail) : dZ a b eq = true ↔ a = b := by
 unfold dZ;cases h1 : ((a.length : Int) != (b.length : Int)) with
 | true =>
  simp only [cond_true, Bool.false_eq_true, false_iff];intro e; subst e; simp at h1
 | false =>
  have h1 : a.length = b.length := by have := ag h1; omega
  rw [cond_false, yF eq he b a 0 (by omega), List.drop_zero, h1, List.take_length]
theorem vT (a b : List Mail) : qm a b = true ↔ a = b := tA gE gP a b
def TL (f : Int → Int) : Prop := ∀ t, f t = bif f 0 != 0 then f 0 else t
variable {n : Int}
theorem TL.const (h : (n != 0) = true) : TL (fun _ => n) := fun t => by rw [h]; rfl
theorem TL.last (e : Int) : TL (fun t => bif e != 0 then e else t) := fun t => by
 cases h : (e != 0) with
 | true => simp only [cond_true, h]
 | false => rfl
theorem TL.bif {f g : Int → Int} (c : Bool) (hf : TL f) (hg : TL g) : TL (fun t => bif c then f t else g t) := fun t => by
 cases c with
 | true => exact hf t
 | false => exact hg t
theorem ui (m : Mail) (r : List Mail) : bp (m :: r) = bif cr m != 0 then cr m else bp r := by
 have h1 : bp [m] = cr m := rb m;rw [← h1];exact (TL.bif _ (.const rfl) (.bif _ (.const rfl) (.bif _ (.const rfl) (.bif _ (.last _) (.bif _ (.const rfl) (.bif _ (.const rfl) (.bif _ (.const rfl) (.bif _ (.const rfl) (.bif _ (.last _) (.last _))))))))) ) (bp r)
theorem pf : ∀ l : List Mail, bp l = gg l
 | [] => rfl
 | m :: r => by rw [ui, gg, pf r]
theorem wY (l : List Mail) : ci l = cx l := by
 unfold ci cx;rw [pf]
theorem ug (a b : Mail) : eW a b = true ↔ a = b := gP a b
theorem wS (a b : List Mail) : f7 a b = true ↔ a = b := tA eW ug a b
theorem xJ (a b : List Mail) : f7 a b = qm a b := by
 rw [Bool.eq_iff_iff, wS, vT]
def dropN (t : List Place) (n : Int) : List Place := putT t ⟨n, -1, 0⟩
theorem uk : ∀ (m l : List Place), iE m l = m.foldl putT l
 | [], _ => rfl
 | p :: r, l => by rw [iE, lr, uk r]; rfl
theorem ul (here : List Place) : ∀ (g : List Int) (l : List Place), iG here g l = here.foldl putT (g.foldl dropN l)
 | [], l => uk _ _
 | n :: r, l => by rw [iG, lr, ul here r]; rfl
theorem C9 (l : List Place) (g : List Int) (h : List Place) : eh l g h = h.foldl putT (g.foldl dropN l) := ul h g l
theorem rc : ∀ (m tb : List Place), dT m tb = dE (aQ m tb)
 | [], _ => rfl
 | p :: r, tb => by rw [dT, aQ, rc r]
theorem re {here : List Place} (hh : ∀ p ∈ here, (1 ≤ p.node ∧ p.node < 16) ∧ 0 ≤ p.parent) : ∀ (g : List Int) {tb l : List Place}, TabOf tb l → Rising l → (∀ n ∈ g, 1 ≤ n ∧ n < 16) → dt here g tb = here.foldl putT (g.foldl dropN l)
 | [], tb, l, ht, hl, _ => by
  rw [dt, rc];exact (ht.puts here hh).places (Rising.puts _ hl fun p hp => (hh p hp).1)
 | n :: r, tb, l, ht, hl, hg => by
  rw [dt, List.foldl_cons];exact re hh r (ht.drop (p := ⟨n, -1, 0⟩) (hg n (.head _)) (by show (-1 : Int) < 0; decide) (by show (-1 : Int) < 0; decide) rfl) (hl.put (p := ⟨n, -1, 0⟩) (hg n (.head _))) fun m hm => hg m (.tail _ hm)
variable {l : List Place}
theorem sm {g : List Int} {h : List Place} (hl : Rising l) (hh : Half g h) : bc l g h = eh l g h := by
 unfold bc;rw [C9];exact re (fun p hp => by have := jT (hh.ok p hp); omega) g (TabOf.table hl) hl hh.rng
theorem zG (v : View) (d : Delta) : bQ v d = ec v d := by
 unfold bQ ec;rw [jg, nJ];cases h1 : (cn v != 0) with
 | true => rfl
 | false =>
  cases h2 : (dk d != 0) with
  | true => rfl
  | false =>
   have hv := (ef v).1 (ag h1);obtain ⟨d1, d2⟩ := (kj d).1 (ag h2);rw [sm hv.known.rising d1, sm hv.way.rising d2, jg]
theorem nF (c : Client) (m : Mail) (v : View) : ∀ (l acc : List Op), dp c m v.roots v.known v.way l acc = (⟨c.life, (if m.time > c.time then m.time else c.time), c.seq, acc ++ l.filter (fun o => !decide (o.seq ≤ m.seq)), m.version, v⟩, 0)
 | [], acc => by simp [dp]
 | o :: l, acc => by
  rw [dp, nF c m v l, nF c m v l];by_cases h : o.seq ≤ m.seq
  ·have : decide (o.seq > m.seq) = false := by simp; omega
   rw [this, cond_false, List.filter_cons_of_neg (by simp [h])]
  ·have : decide (o.seq > m.seq) = true := by simp; omega
   rw [this, cond_true, List.filter_cons_of_pos (by simp; omega), List.append_assoc]; rfl
theorem q8 (c : Client) (m : Mail) (v : View) : eX c m v.roots v.known v.way = (jv c m v, 0) := by
 unfold eX;rw [nF]; rfl
theorem zE (c : Client) (me : Int) (m : Mail) : aO c me m = bF c me m := by
 rw [Bp];unfold aO;rw [kB, rb, zG, q8, q8];by_cases h1 : bK c me = 0;case neg =>
  have e1 : (bK c me == 0) = false := by simpa using h1
  have e2 : (bK c me != 0) = true := by simpa using h1
  rw [e1, e2]; rfl
 rw [h1];simp only [beq_self_eq_true, bne_self_eq_false, cond_true, cond_false];by_cases h2 : cr m = 0;case neg =>
  have e1 : (cr m == 0) = false := by simpa using h2
  have e2 : (cr m != 0) = true := by simpa using h2
  rw [e1, e2]; rfl
 rw [h2];simp only [beq_self_eq_true, bne_self_eq_false, Bool.true_and, cond_false];cases h3 : (m.kind == 1 || m.who != me) with
 | true => rfl
 | false =>
  rw [cond_false, cond_false];have hs : ((c.life != m.life || decide (c.version ≥ m.version)) || decide (c.seq < m.seq)) = stale c m := by
   rw [show (c.life != m.life) = (m.life != c.life) by rw [bne, bne, Bool.beq_comm]]; rfl
  rw [hs];cases stale c m with
  | true => rfl
  | false =>
   cases m.kind == 3 with
   | false => rfl
   | true => cases m.frm != c.version <;> rfl
theorem vI (a b : Client) : em a b = jN a b := by
 unfold em jN;rw [tR];cases (a.life == b.life) <;> cases (a.time == b.time) <;> cases (a.seq == b.seq) <;> cases (decide (a.pending = b.pending)) <;> cases (a.version == b.version) <;> rfl
theorem Co (c : Client) (me node parent name : Int) : dz c me node parent name = c9 c me node parent name := by
 unfold dz c9;rw [kB, gO, List.nil_append];rfl
theorem Cz (life time : Int) : bk life time = db life time := by
 unfold bk db;refine fN ?_ (fun _ => rfl) fun _ => rfl;rw [Bool.eq_iff_iff];simp only [Bool.not_eq_true', oU, Bq]; omega
theorem o4 (a : List Place) (gone : List Int) : ∀ (l here : List Place), fC a gone l here = (gone, here ++ l.filter (fun p => !decide (bq a p.node = p)))
 | [], here => by simp [fC]
 | p :: r, here => by
  rw [fC, o4 a gone r, o4 a gone r, List.filter_cons];cases h : (!decide (bq a p.node = p)) <;> simp
theorem o5 (a b : List Place) : ∀ (l : List Place) (gone : List Int), fD a b l gone = (gone ++ (l.filter (fun p => (bq b p.node).node == 0)).map Place.node, b.filter (fun p => !decide (bq a p.node = p)))
 | [], gone => by rw [fD, o4]; simp
 | p :: r, gone => by
  rw [fD, o5 a b r, o5 a b r, List.filter_cons];cases h : ((bq b p.node).node == 0) <;> simp
def mY (a b : List Place) : List Int := (a.filter (fun p => (find b p.node).node == 0)).map Place.node
def qR (a b : List Place) : List Place := b.filter (fun p => !decide (find a p.node = p))
theorem wL (a b : List Place) : fq a b = (mY a b, qR a b) := by
 unfold fq mY qR;rw [o5];simp only [i3, List.nil_append]
variable {a b : List Place}
theorem yq (ha : Rising a) : n ∈ mY a b ↔ (find a n).node ≠ 0 ∧ (find b n).node = 0 := by
 unfold mY;rw [List.mem_map];constructor
 ·rintro ⟨p, h1, rfl⟩;obtain ⟨h2, h3⟩ := List.mem_filter.1 h1;rw [l9 ha.up p h2];have := ha.rng p h2;exact ⟨by omega, by simpa using h3⟩
 ·rintro ⟨h1, h2⟩;obtain ⟨h3, h4⟩ := gA h1;exact ⟨_, List.mem_filter.2 ⟨h4, by rw [h3]; simpa using h2⟩, h3⟩
theorem AM (ha : iw a) (hb : iw b) : Half (mY a b) (qR a b) := by
 have hla := pC ((es _).2 ha);have hlb := pC ((es _).2 hb);refine ⟨?_, ?_, fun n hn => ?_, ?_, fun p hp => hb.ok p (List.mem_filter.1 hp).1, fun p hp hg => ?_, hb.up.filter _⟩
 ·unfold mY;rw [List.length_map];have := List.length_filter_le (fun p : Place => (find b p.node).node == 0) a;omega
 ·unfold qR;have := List.length_filter_le (fun p : Place => !decide (find a p.node = p)) b;omega
 ·unfold mY at hn;obtain ⟨p, hp, rfl⟩ := List.mem_map.1 hn;exact ha.rising.rng p (List.mem_filter.1 hp).1
 ·unfold mY;exact List.pairwise_map.2 (ha.up.filter _)
 ·have h1 := (yq ha.rising).1 hg;have h2 := l9 hb.up p (List.mem_filter.1 hp).1;have h3 := hb.rising.rng p (List.mem_filter.1 hp).1;rw [h2] at h1;omega
def xD (v w : View) : Delta := ⟨mY v.known w.known, qR v.known w.known, mY v.way w.way, qR v.way w.way⟩
theorem tE (v w : View) : fK v w = bif cn v != 0 then (⟨[], [], [], []⟩, cn v) else bif cn w != 0 then (⟨[], [], [], []⟩, cn w) else bif !(decide (v.roots = w.roots)) then (⟨[], [], [], []⟩, 4) else (xD v w, 0) := by
 unfold fK ki kh kg xD;rw [wL, wL]
theorem xC {v w : View} (hv : pb v) (hw : pb w) (hr : v.roots = w.roots) : fK v w = (xD v w, 0) := by
 rw [tE, (ef v).2 hv, (ef w).2 hw];simp [hr]
theorem xB {α : Type} (f : α → Int) : ∀ {l l' : List α}, l.Pairwise (fun a b => f a < f b) → l'.Pairwise (fun a b => f a < f b) → (∀ x, x ∈ l ↔ x ∈ l') → l = l'
 | [], [], _, _, _ => rfl
 | [], b :: s, _, _, h => absurd ((h b).2 (.head _)) (by simp)
 | a :: r, [], _, _, h => absurd ((h a).1 (.head _)) (by simp)
 | a :: r, b :: s, h1, h2, h => by
  obtain ⟨p1, p2⟩ := List.pairwise_cons.1 h1;obtain ⟨q1, q2⟩ := List.pairwise_cons.1 h2;have hab : a = b := by
   rcases List.mem_cons.1 ((h a).1 (.head _)) with e | e
   ·exact e
   ·rcases List.mem_cons.1 ((h b).2 (.head _)) with e' | e'
    ·exact e'.symm
    ·have := q1 a e; have := p1 b e'; omega
  subst hab;rw [xB f p2 q2 fun x => ?_];constructor
  ·intro hx;rcases List.mem_cons.1 ((h x).1 (.tail _ hx)) with e | e
   ·subst e; have := p1 _ hx; omega
   ·exact e
  ·intro hx;rcases List.mem_cons.1 ((h x).2 (.tail _ hx)) with e | e
   ·subst e; have := q1 _ hx; omega
   ·exact e
theorem rK (l : List Place) : ∀ (f k : Nat) (tb : List Place), k + f = 16 → tb.length = 16 → (∀ n, n < 16 → (gt tb n).node = 0 ∧ (gt tb n).name = 0) → ∃ tb', cd l f k tb = aQ l tb' ∧ tb'.length = 16 ∧
  (∀ n, n < 16 → k ≤ n → gt tb' n = ⟨0, -1, 0⟩) ∧ (∀ n, n < k → gt tb' n = gt tb n)
 | 0, k, tb, hf, ht, _ => ⟨tb, rfl, ht, fun n h1 h2 => by omega, fun n _ => rfl⟩
 | f + 1, k, tb, hf, ht, h0 => by
  rw [cd];obtain ⟨tb', e, hl, ha, hb⟩ := rK l f (k + 1) (tb.set k ⟨(gt tb k).node, -1, (gt tb k).name⟩) (by omega) (by simp [ht]) (fun n hn => by
   rw [oV _ _ _ _ (by omega)];by_cases he : k = n
   ·rw [if_pos he]; exact h0 k (by omega)
   ·rw [if_neg he]; exact h0 n hn)
  refine ⟨tb', e, hl, fun n h1 h2 => ?_, fun n h => ?_⟩
  ·by_cases he : n = k
   ·rw [he, hb k (by omega), oV _ _ _ _ (by omega), if_pos rfl, (h0 k (by omega)).1, (h0 k (by omega)).2]
   ·exact ha n h1 (by omega)
  ·rw [hb n (by omega), oV _ _ _ _ (by omega), if_neg (by omega)]
theorem ri (h : Rising l) {n : Nat} (h1 : 1 ≤ n) (h2 : n < 16) (hz : (find l n).node = 0) : gt (ap l) n = ⟨0, -1, 0⟩ := by
 obtain ⟨tb', e, hl, ha, _⟩ := rK l 16 0 (List.replicate 16 ⟨0, 0, 0⟩) rfl (by simp) (fun n hn => by
  rw [gt_eq (by simpa using hn), List.getElem_replicate]; exact ⟨rfl, rfl⟩)
 have e2 : ap l = aQ l tb' := e;rw [e2, p8 l tb' hl h.up h.rng n h1 h2, if_pos hz];exact ha n h2 (by omega)
def bG (x y : List Place) : Nat → Nat → List Int
 | 0, _ => []
 | f + 1, n => bif decide (gt x n = gt y n) then bG x y f (n + 1) else bif decide ((gt y n).parent < 0) then (n : Int) :: bG x y f (n + 1) else bG x y f (n + 1)
def bH (x y : List Place) : Nat → Nat → List Place
 | 0, _ => []
 | f + 1, n => bif decide (gt x n = gt y n) then bH x y f (n + 1) else bif decide ((gt y n).parent < 0) then bH x y f (n + 1) else gt y n :: bH x y f (n + 1)
theorem lf (a b : List Place) : ∀ (f n : Nat) (g : List Int) (h : List Place), c7 a b f n g h = (g ++ bG (ap a) (ap b) f n, h ++ bH (ap a) (ap b) f n)
 | 0, n, g, h => by simp [c7, bG, bH]
 | f + 1, n, g, h => by
  rw [c7, bG, bH];cases decide (gt (ap a) n = gt (ap b) n) with
  | true => simp only [cond_true]; exact lf a b f (n + 1) g h
  | false =>
   cases decide ((gt (ap b) n).parent < 0) with
   | true => simp only [cond_true, cond_false]; rw [lf a b f (n + 1)]; simp
   | false => simp only [cond_false]; rw [lf a b f (n + 1)]; simp
theorem AB (x y : List Place) (m : Int) : ∀ (f n : Nat), n + f = 16 → (m ∈ bG x y f n ↔ ∃ i : Nat, m = i ∧ n ≤ i ∧ i < 16 ∧ gt x i ≠ gt y i ∧ (gt y i).parent < 0)
 | 0, n, hf => by
  rw [bG];exact ⟨fun h => absurd h (by simp), fun ⟨i, _, h1, h2, _⟩ => by omega⟩
 | f + 1, n, hf => by
  rw [bG];have ih := AB x y m f (n + 1) (by omega);by_cases h1 : gt x n = gt y n
  ·rw [decide_eq_true h1, cond_true, ih];exact ⟨fun ⟨i, a, b, c⟩ => ⟨i, a, by omega, c⟩, fun ⟨i, a, b, c, d, e⟩ => ⟨i, a, by
    by_cases he : i = n
    ·subst he; exact absurd h1 d
    ·omega, c, d, e⟩⟩
  ·rw [decide_eq_false h1, cond_false];by_cases h2 : (gt y n).parent < 0
   ·rw [decide_eq_true h2, cond_true, List.mem_cons, ih];constructor
    ·rintro (h | ⟨i, a, b, c⟩)
     ·exact ⟨n, h, Nr, by omega, h1, h2⟩
     ·exact ⟨i, a, by omega, c⟩
    ·rintro ⟨i, a, b, c⟩;by_cases he : i = n
     ·subst he; exact .inl a
     ·exact .inr ⟨i, a, by omega, c⟩
   ·rw [decide_eq_false h2, cond_false, ih];exact ⟨fun ⟨i, a, b, c⟩ => ⟨i, a, by omega, c⟩, fun ⟨i, a, b, c, d, e⟩ => ⟨i, a, by
     by_cases he : i = n
     ·subst he; exact absurd e h2
     ·omega, c, d, e⟩⟩
theorem bG_up (x y : List Place) : ∀ (f n : Nat), n + f = 16 → (bG x y f n).Pairwise (fun a b => a < b)
 | 0, n, _ => by simp [bG]
 | f + 1, n, hf => by
  rw [bG];have ih := bG_up x y f (n + 1) (by omega);cases decide (gt x n = gt y n) with
  | true => exact ih
  | false =>
   cases decide ((gt y n).parent < 0) with
   | true => exact List.pairwise_cons.2 ⟨fun m hm => by obtain ⟨i, a, b, _⟩ := (AB x y m f (n + 1) (by omega)).1 hm; omega, ih⟩
   | false => exact ih
theorem AA (x y : List Place) (p : Place) : ∀ (f n : Nat), n + f = 16 → (p ∈ bH x y f n ↔ ∃ i : Nat, p = gt y i ∧ n ≤ i ∧ i < 16 ∧ gt x i ≠ gt y i ∧ ¬ (gt y i).parent < 0)
 | 0, n, hf => by
  rw [bH];exact ⟨fun h => absurd h (by simp), fun ⟨i, _, h1, h2, _⟩ => by omega⟩
 | f + 1, n, hf => by
  rw [bH];have ih := AA x y p f (n + 1) (by omega);by_cases h1 : gt x n = gt y n
  ·rw [decide_eq_true h1, cond_true, ih];exact ⟨fun ⟨i, a, b, c⟩ => ⟨i, a, by omega, c⟩, fun ⟨i, a, b, c, d, e⟩ => ⟨i, a, by
    by_cases he : i = n
    ·subst he; exact absurd h1 d
    ·omega, c, d, e⟩⟩
  ·rw [decide_eq_false h1, cond_false];by_cases h2 : (gt y n).parent < 0
   ·rw [decide_eq_true h2, cond_true, ih];exact ⟨fun ⟨i, a, b, c⟩ => ⟨i, a, by omega, c⟩, fun ⟨i, a, b, c, d, e⟩ => ⟨i, a, by
     by_cases he : i = n
     ·subst he; exact absurd h2 e
     ·omega, c, d, e⟩⟩
   ·rw [decide_eq_false h2, cond_false, List.mem_cons, ih];constructor
    ·rintro (h | ⟨i, a, b, c⟩)
     ·exact ⟨n, h, Nr, by omega, h1, h2⟩
     ·exact ⟨i, a, by omega, c⟩
    ·rintro ⟨i, a, b, c⟩;by_cases he : i = n
     ·subst he; exact .inl a
     ·exact .inr ⟨i, a, by omega, c⟩
theorem bH_up (x y : List Place) (hy : Tbl y) : ∀ (f n : Nat), n + f = 16 → 1 ≤ n → (bH x y f n).Pairwise (fun a b => a.node < b.node)
 | 0, n, _, _ => by simp [bH]
 | f + 1, n, hf, h1 => by
  rw [bH];have ih := bH_up x y hy f (n + 1) (by omega) (by omega);cases decide (gt x n = gt y n) with
  | true => exact ih
  | false =>
   cases hb : decide ((gt y n).parent < 0) with
   | true => exact ih
   | false =>
    refine List.pairwise_cons.2 ⟨fun p hp => ?_, ih⟩;obtain ⟨i, rfl, b, c, d, e⟩ := (AA x y p f (n + 1) (by omega)).1 hp;simp at hb;have e1 := hy n h1 (by omega) (by omega);have e2 := hy i (by omega) c (by omega);omega
theorem TabOf.tbl {tb : List Place} (ht : TabOf tb l) : Tbl tb := fun n h1 h2 hpar => by
 by_cases hz : (find l n).node = 0
 ·have := ht.no n h1 h2 hz; omega
 ·rw [ht.yes n h1 h2 hz]; exact (gA hz).1
theorem jJ (h : Rising l) {n : Nat} (h1 : 1 ≤ n) (h2 : n < 16) :
  ((find l n).node = 0 ∧ find l n = ⟨0, 0, 0⟩ ∧ gt (ap l) n = ⟨0, -1, 0⟩) ∨ ((find l n).node = n ∧ find l n ∈ l ∧ 0 ≤ (find l n).parent ∧ gt (ap l) n = find l n) := by
 by_cases hz : (find l n).node = 0
 ·exact .inl ⟨hz, h.none hz, ri h h1 h2 hz⟩
 ·exact .inr ⟨(gA hz).1, (gA hz).2, h.par _ (gA hz).2, (TabOf.table h).yes n h1 h2 hz⟩
theorem uM (ha : Rising a) (hb : Rising b) : c8 a b = (mY a b, qR a b) := by
 unfold c8;rw [lf, List.nil_append, List.nil_append];have e1 : bG (ap a) (ap b) (16 - 1) 1 = mY a b := by
  refine xB id (bG_up _ _ _ _ (by omega)) ?_ fun m => ?_
  ·unfold mY; exact List.pairwise_map.2 (ha.up.filter _)
  ·rw [AB _ _ _ _ _ (by omega), yq ha];constructor
   ·rintro ⟨i, rfl, h1, h2, h3, h4⟩;rcases jJ hb h1 h2 with ⟨b1, b2, b3⟩ | ⟨b1, b2, b3, b4⟩
    ·rcases jJ ha h1 h2 with ⟨a1, a2, a3⟩ | ⟨a1, a2, a3, a4⟩
     ·exact absurd (a3.trans b3.symm) h3
     ·exact ⟨by omega, b1⟩
    ·rw [b4] at h4; omega
   ·rintro ⟨h1, h2⟩;obtain ⟨h3, h4⟩ := gA h1;have h5 := ha.rng _ h4;rw [h3] at h5;obtain ⟨i, rfl⟩ := Int.eq_ofNat_of_zero_le (by omega : 0 ≤ m);refine ⟨i, rfl, by omega, by omega, ?_, ?_⟩
    ·rcases jJ ha (by omega : 1 ≤ i) (by omega) with ⟨a1, a2, a3⟩ | ⟨a1, a2, a3, a4⟩
     ·exact absurd a1 h1
     ·rw [a4, ri hb (by omega) (by omega) h2];intro e; rw [e] at a1; simp at a1; omega
    ·rw [ri hb (by omega) (by omega) h2]; decide
 have e2 : bH (ap a) (ap b) (16 - 1) 1 = qR a b := by
  refine xB Place.node (bH_up _ _ (TabOf.table hb).tbl _ _ (by omega) (by omega)) (hb.up.filter _) fun p => ?_;rw [AA _ _ _ _ _ (by omega)];unfold qR;rw [List.mem_filter];constructor
  ·rintro ⟨i, rfl, h1, h2, h3, h4⟩;rcases jJ hb h1 h2 with ⟨b1, b2, b3⟩ | ⟨b1, b2, b3, b4⟩
   ·rw [b3] at h4; exact absurd (by decide) h4
   ·rw [b4] at h3 ⊢;refine ⟨b2, ?_⟩;rw [b1];rcases jJ ha h1 h2 with ⟨a1, a2, a3⟩ | ⟨a1, a2, a3, a4⟩
    ·have : find a (i : Int) ≠ find b (i : Int) := fun e => by rw [e] at a1; omega
     simpa using this
    ·rw [a4] at h3;simpa using h3
  ·rintro ⟨h1, h2⟩;have hp := hb.rng p h1;obtain ⟨i, hi⟩ := Int.eq_ofNat_of_zero_le (by omega : 0 ≤ p.node);have hf := l9 hb.up p h1;rw [hi] at hf h2;have hpar := hb.par p h1;rcases jJ hb (by omega : 1 ≤ i) (by omega) with ⟨b1, b2, b3⟩ | ⟨b1, b2, b3, b4⟩
   ·rw [hf] at b1; omega
   ·rw [hf] at b4;refine ⟨i, b4.symm, by omega, by omega, ?_, by rw [b4]; omega⟩;rw [b4];rcases jJ ha (by omega : 1 ≤ i) (by omega) with ⟨a1, a2, a3⟩ | ⟨a1, a2, a3, a4⟩
    ·rw [a3]; intro e; rw [← e] at hpar; exact absurd hpar (by decide)
    ·rw [a4]; simpa using h2
 rw [e1, e2]
theorem zF (v w : View) : di v w = fK v w := by
 rw [tE];unfold di;rw [jg, jg];cases h1 : (cn v != 0) with
 | true => rfl
 | false =>
  cases h2 : (cn w != 0) with
  | true => rfl
  | false =>
   have hv := (ef v).1 (ag h1);have hw := (ef w).1 (ag h2);rw [uM hv.known.rising hw.known.rising, uM hv.way.rising hw.way.rising];rfl
theorem AK {h : History} (hc : bz h = 0) : ed h.t = 0 := by
 have hh := (lN h).1 hc;have := pm (h.l.map (·.o)) e0 rfl hh.ok;rw [← hh.eq] at this;exact this
theorem De (hh : IsHub h) {k : Nat} (hk : k < 3) {roots : List Int} (hr : cm roots = 0) (he : (gt h.peers k).roots = roots) : bZ h (k : Int) = (j6 h.h.t roots, 0) := by
 unfold bZ;have e2 : (decide ((k : Int) < 0) || decide ((k : Int) ≥ 3)) = false := by simp only [Bo]; omega
 rw [(eo h).2 hh, e2];simp only [bne_self_eq_false, cond_false, Int.toNat_natCast, he];rw [Of_of (AK hh.hist) hr]
end Go.Proofs.YtkjccbdeaflekaaGreatDoor
namespace Go.Proofs.YtkjccbdeaflekaaGreatDoor.Fw
open Go Go.RowKit
section
open Go.ChangeShapes Go.Deep Go.WideShapes
section
variable {P : Program} {H : Type} {enc : TypeId × Value → H} {w : World}
theorem xG {n : Int} (h : (Lit.int .u8 n).wf = true) : ∃ b : UInt8, yV b = .int .u8 n := by
 have hn : 0 ≤ n ∧ n < 256 := by
  simp [Lit.wf] at h;have h1 : IntKind.u8.min = 0 := rfl;have h2 : IntKind.u8.max = 255 := rfl;omega
 refine ⟨UInt8.ofNat n.toNat, ?_⟩;have : ((UInt8.ofNat n.toNat).toNat : Int) = n := by simp [UInt8.toNat_ofNat']; omega
 simp only [yV, this]
variable {e t : TypeId}
theorem zj {fuel : Nat} {cs : List Value} {x : DataW H × List MemPlace} (ht : P.underlying t = some (.slice e)) (he : P.underlying e = some (.int .u8)) (hc : P.cellsOf e = 1) (hby : P.bytesOf e = 1)
  (h : DataW.trod enc P w 0 (fun _ => true) true fuel t cs = some x) (hsz : (x.1.weights P t).all (· ≤ reachBytes) = true) :
  ∃ (X : SlV) (l : List UInt8), cs = [X.val l.length] ∧ RdL EByte X l (fun _ => False) w := by
 rcases open_slice ht h with ⟨rfl, _⟩ | ⟨a, len, cap, m, n, D, Pl, rfl, _, hlc, hcm, hm, hx, hi⟩
 ·exact ⟨⟨none, 0⟩, [], rfl, RdL.nil EByte none 0 (by omega) _ _⟩
 ·simp only [if_true] at hm;have hrow : ∀ i, i < len → ∃ a0 : UInt8, ∀ (j : Nat) (v : Value), (EByte.enc a0)[j]? = some v → w.cell? (a.add (i * 1 + j)) = some v := by
   intro i hil;obtain ⟨cs', hcs, htr⟩ := hi i (by omega);obtain ⟨n0, rfl, _, hwf⟩ := DataW.trod_int he htr;obtain ⟨b, hb⟩ := xG hwf;obtain ⟨_, hl, hat⟩ := World.cells?_some hcs;refine ⟨b, fun j v hv => ?_⟩;obtain ⟨hlt, _⟩ := List.getElem?_eq_some_iff.1 hv;have hv' : ([yV b] : List Value)[j]? = some v := hv;have hlt' : j < 1 := hlt;have := hat j (by rw [hc]; exact hlt');rw [hc, jd] at this;rw [this, ← hv', hb]
  obtain ⟨l, hl, hp⟩ := qd hrow;have hbound : l.length * 1 ≤ 140737488355328 := by
   subst hx;rw [List.all_eq_true] at hsz;have := hsz ((len + (m - len)) * 1) (by simp [DataW.weights, ht, hby]);have h3 : reachBytes ≤ 140737488355328 := by decide
   simp at this;omega
  refine ⟨⟨some a, cap⟩, l, by rw [hl]; rfl, ⟨by rw [hl]; exact hlc, by simpa [maxLen] using hcm, hbound, fun hpl => ⟨a, rfl, ?_, fun h => h, fun i hi j v hv => hp i hi j v hv⟩⟩⟩;have h0 := hp 0 hpl;have := h0 0 _ (List.getElem?_eq_getElem (show 0 < (EByte.enc l[0]).length from Nat.one_pos));have hcell := this;unfold World.cell? at hcell;rw [lp] at hcell;cases hh : w.heap[a.block]? with
  | none => simp [hh] at hcell
  | some ob => exact ke hh
theorem xo (ht : P.underlying t = some (.slice e)) (he : P.underlying e = some (.int .u8)) (hc : P.cellsOf e = 1) (hby : P.bytesOf e = 1) :
  Opens P t (fun (l : List UInt8) (X : SlV) => [X.val l.length]) (fun l X => [RdL EByte X l]) := .mk fun enc w fuel cs x hx hs => by
 obtain ⟨X, l, h1, h2⟩ := zj ht he hc hby hx hs;exact ⟨l, X, h1, fun F hF => by rw [List.mem_singleton] at hF; subst hF; exact h2⟩
end
end
section
open Go.ChangeShapes Go.Deep Go.WideShapes
section
variable {P : Program} {H : Type}
theorem pL {e : TypeId} : ∀ {ds : List (DataW H)} {d : DataW H}, d ∈ ds → ∀ {n : Nat}, n ∈ d.weights P e → n ∈ DataW.weightsAll P e ds
 | a :: r, d, h, n, hn => by
  rw [DataW.weightsAll, List.mem_append];rcases List.mem_cons.1 h with rfl | h
  ·exact .inl hn
  ·exact .inr (pL h hn)
theorem l3 {α : Type} [Inhabited α] (EN : En α) {t e : TypeId} (ht : P.underlying t = some (.slice e)) (hO : Opens P e (fun (a : α) (g : EN.G) => EN.E.enc (g, a)) (fun a g => EN.facts (g, a))) (hc : P.cellsOf e = EN.E.esz) (hpos : Nat.blt 0 EN.E.esz = true) (hby : P.bytesOf e = EN.E.by_) :
  Opens P t (fun (l : List α) (X : SlV) => [X.val l.length]) (fun l X => [RdN EN X l]) := .mk fun {H} enc w fuel cs x hx hsz => by
 have hpos := Nat.le_of_ble_eq_true hpos;rcases open_slice ht hx with ⟨rfl, _⟩ | ⟨a, len, cap, m, n, D, Pl, rfl, _, hlc, hcm, hm, hx, hi⟩
 ·exact ⟨[], ⟨none, 0⟩, rfl, fun F hF => by rw [List.mem_singleton] at hF; subst hF; exact RdN.nil EN _ _⟩
 ·simp only [if_true] at hm;subst hx;rw [List.all_eq_true] at hsz;have hrow : ∀ i, i < len → ∃ p : EN.G × α, (∀ (j : Nat) (v : Value), (EN.E.enc p)[j]? = some v → w.cell? (a.add (i * EN.E.esz + j)) = some v) ∧ ∀ F ∈ EN.facts p, F (fun _ => False) w := by
   intro i hil;obtain ⟨cs', hcs, htr⟩ := hi i (by omega);have hw : ((D i).weights P e).all (· ≤ reachBytes) = true := by
    rw [List.all_eq_true];intro k hk;refine hsz k ?_;simp only [DataW.weights, ht, List.mem_cons, List.mem_append];exact .inr (.inl (pL (List.mem_map.2 ⟨i, List.mem_range.2 hil, rfl⟩) hk))
   obtain ⟨a0, g0, rfl, hf⟩ := hO.op enc w n cs' (D i, Pl i) htr hw;obtain ⟨_, hl, hat⟩ := World.cells?_some hcs;refine ⟨(g0, a0), fun j v hv => ?_, hf⟩;obtain ⟨hlt, _⟩ := List.getElem?_eq_some_iff.1 hv;have := hat j (by omega);rw [hc, jd] at this;rw [this, hv]
  obtain ⟨hs, hl, hp⟩ := qd hrow;have hbound : hs.length * EN.E.by_ ≤ 140737488355328 := by
   have := hsz ((len + (m - len)) * EN.E.by_) (by simp [DataW.weights, ht, hby]);have h2 : hs.length * EN.E.by_ ≤ (len + (m - len)) * EN.E.by_ := Nat.mul_le_mul_right _ (by omega);have h3 : reachBytes ≤ 140737488355328 := by decide
   simp at this;omega
  have hrd : RdL EN.E ⟨some a, cap⟩ hs (fun _ => False) w := ⟨by rw [hl]; exact hlc, by simpa [maxLen] using hcm, hbound, fun hpl => ⟨a, rfl, by
   have h0 := (hp 0 hpl).1;have hle : (EN.E.enc hs[0]).length = EN.E.esz := EN.E.len _;have hcell := h0 0 _ (List.getElem?_eq_getElem (by omega));unfold World.cell? at hcell;rw [lp] at hcell;cases hh : w.heap[a.block]? with
   | none => simp [hh] at hcell
   | some ob => exact ke hh, fun h => h, fun i hi j v hv => (hp i hi).1 j v hv⟩⟩
  refine ⟨hs.map (·.2), ⟨some a, cap⟩, by rw [List.length_map, hl]; rfl, fun F hF => ?_⟩;rw [List.mem_singleton] at hF;subst hF;exact RdN.of EN rfl hrd fun p hp' => by
   obtain ⟨i, hi', rfl⟩ := List.getElem_of_mem hp';exact (hp i hi').2
end
end
end Go.Proofs.YtkjccbdeaflekaaGreatDoor.Fw
