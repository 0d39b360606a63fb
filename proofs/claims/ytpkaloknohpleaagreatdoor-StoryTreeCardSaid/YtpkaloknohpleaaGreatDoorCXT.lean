/- Part of this claim. No condition. -/
import Derived.Test.YtpkaloknohpleaaGreatDoorC13
import Derived.Test.YtpkaloknohpleaaGreatDoorCXTO
set_option linter.unusedVariables false
set_option linter.unusedSimpArgs false
set_option maxHeartbeats 2000000
namespace Go.Proofs.YtpkaloknohpleaaGreatDoor
open Go Go.Proofs.YtpkaloknohpleaaGreatDoor.Fw Go.Proofs
attribute [local irreducible] RdL RdN VarP LibP RW CW
def bX (w1 : Wld) (was1 : List Op) : Bool × (List Op) :=
 (bif ((((aw w1).2 != 0) || decide (((aw w1).1.length : Int) < (was1.length : Int))) || (!(decide (((aw w1).1.take was1.length) = was1)))) then (false, was1) else (((((aQ (aw w1).1).2 == 0) && ((!w1.up) || (dS (aQ (aw w1).1).1 w1.h.h))) && ((bx (aQ (aw w1).1).1.t) == 0)), (aw w1).1))
theorem ik (y1 : SlV) (y2 : SlV) (y3 : SlV) (y4 : SlV) (y5 : SlV) (y6 : SlV) (y7 : SlV) (w1 : Wld) (c1 : Nat) (y8 : SlV) (was1 : List Op) : DoesG Tryz.prog 7 [.agg ⟨[y1.val w1.h.h.l.length, y2.val w1.h.h.t.length, .int .i64 w1.h.version, y3.val w1.h.peers.length, y4.val w1.d.safe.length, y5.val w1.d.wait.length, .bool w1.up, y6.val w1.c.length, y7.val w1.mail.length]⟩, .pointer (some ⟨c1, 0, none⟩)] [RdL EStep y1 w1.h.h.l, RdL EPlace y2 w1.h.h.t, RdN NPeer y3 w1.h.peers, RdL EByte y4 w1.d.safe, RdL EByte y5 w1.d.wait, RdN NClient y6 w1.c, RdN NMail y7 w1.mail, RdL EOp y8 was1, LibP Tryz.prog] ⟨[⟨c1, 23, [y8.val was1.length]⟩], []⟩ (fun (X : SlV) => .bool (bX w1 was1).1) (fun X => [RdL EOp X (bX w1 was1).2]) (fun X => ⟨[⟨c1, 23, [X.val (bX w1 was1).2.length]⟩], []⟩) := by
 refine co aZ Tryz.func7 rfl Tryz.ntmps7 Tryz.results7 rfl inferInstance (fun _ => inferInstance) fun C => ?_
 refine Pc EStep y1 w1.h.h.l 88 fun hlen1 => ?_
 refine Pc EPlace y2 w1.h.h.t 24 fun hlen2 => ?_
 refine Pn NPeer y3 w1.h.peers 40 fun hlen3 => ?_
 refine Pc EByte y4 w1.d.safe 1 fun hlen4 => ?_
 refine Pc EByte y5 w1.d.wait 1 fun hlen5 => ?_
 refine Pn NClient y6 w1.c 128 fun hlen6 => ?_
 refine Pn NMail y7 w1.mail 280 fun hlen7 => ?_
 refine Tx ?_
 refine Bx fun g1 => ?_
 refine Tx ?_
 refine Cl (fU y1 y2 y3 y4 y5 y6 y7 w1) fun x1 => ?_
 refine Tx ?_
 (repeat refine ao ?_); refine au (fun _ => some []) ?_
 refine Rb 0 rfl Qp ?_
 refine Rb 1 rfl Qp ?_
 refine Rb 2 rfl Qp ?_
 refine Gb 3 rfl (aB rfl rfl rfl) (q_pev rfl Bt) ?_
 refine Gb 4 rfl (aB rfl rfl rfl) (q_pev rfl Bt) ?_
 refine Gb 5 rfl (aB rfl rfl rfl) (q_ld1 rfl rfl Bt rfl Mm rfl) ?_
 refine Gb 6 rfl (aB rfl rfl rfl) (q_pev rfl Bt) ?_
 refine Gb 7 rfl (aB rfl rfl rfl) (q_pev rfl Bt) ?_
 refine Rb 8 rfl (q_pev rfl Bt) ?_
 refine Ra 9 rfl Qp ?_
 refine Gb 10 rfl (aB rfl rfl rfl) (q_pev rfl Bt) ?_
 refine Gb 11 rfl (aB rfl rfl rfl) (q_ld1 rfl rfl Bt rfl Mm rfl) ?_
 refine Gb 12 rfl (aB rfl rfl rfl) (q_pev rfl Bt) ?_
 refine Gb 13 rfl (aB rfl rfl rfl) (th EOp was1.length rfl rfl Bt rfl Bt rfl rfl Mm (by intro h; first | omega | (simp at h; omega)) (by intro h; first | omega | (simp at h; omega))) ?_
 refine aI (F := RdL EOp x1 ((aw w1).1.take was1.length)) [RdL EOp x1 (aw w1).1] Sm (fun M w h => (allF1 h).take _) ?_
 refine Gb 14 rfl (aB rfl rfl rfl) (q_ld1 rfl rfl Bt rfl Mm rfl) ?_
 refine ap 15 Kr ?_
 refine dv (fun hG_ => (fun y1 a y2 b => kD y1 y2 a b) x1 ((aw w1).1.take was1.length) y8 was1) Zf (.an rfl rfl) (aB rfl rfl rfl) rfl rfl rfl Kr rfl Bt Sm ?_
 refine Ga 16 rfl (aB rfl rfl rfl) (q_pev rfl Bt) ?_
 refine Ra 17 rfl (q_pev rfl Bt) ?_
 refine bn Kr ?_
 (repeat refine ao ?_)
 refine Cd (b := ((((aw w1).2 != 0) || decide (((aw w1).1.length : Int) < (was1.length : Int))) || (!(decide (((aw w1).1.take was1.length) = was1))))) (fun hc1 => ?_) fun hc1 => ?_
 ·refine Tx ?_
  refine ai ?_; simp only [bX, hc1, Cf]; exact Re y8 (Vt Vn)
 ·refine Tx ?_
  refine Cl (jx x1 (aw w1).1) fun x2 => ?_
  generalize hS1 : (aQ (aw w1).1) = S1
  refine Tx ?_
  refine Al fun g2 => ?_
  refine Tx ?_
  refine dv (fun hG_ => gv x2.1 x2.2 S1.1 y1 y2 w1.h.h) Zf .sq (l7 rfl rfl rfl) rfl rfl rfl Kr rfl Bt Sm ?_
  refine Tx ?_
  refine dv (fun hG_ => ec x2.2 S1.1.t) Zf .sq (aG rfl rfl rfl) rfl rfl rfl Kr rfl Bt Sm ?_
  refine Tx ?_
  refine ai ?_; simp only [bX, hc1, hS1, Cf]; exact Re x1 (Vt Vn)
def bM  : List Happening → Wld → (List Op) → (Wld × Bool × (List Op))
 | [], w1, l2 => (w1, true, l2)
 | pn1 :: rn1, w1, l2 => (bif ((cE w1 pn1).2 == 0) then (bif (!(bX (cE w1 pn1).1 l2).1) then ((cE w1 pn1).1, false, (bX (cE w1 pn1).1 l2).2) else (bM rn1 (cE w1 pn1).1 (bX (cE w1 pn1).1 l2).2)) else (bM rn1 w1 l2))
def aK (l1 : List Happening) (was1 : List Op) : Wld × Bool × (List Op) :=
 (bM (l1.take (if 80 < (l1.length : Int) then 80 else (l1.length : Int)).toNat) bV was1)
theorem jv (y1 : SlV) (l1 : List Happening) (c1 : Nat) (y2 : SlV) (was1 : List Op) : DoesG Tryz.prog 6 [y1.val l1.length, .func (.func 7) #[] ⟨[.pointer (some ⟨c1, 0, none⟩)]⟩] [RdN NHap y1 l1, RdL EOp y2 was1, LibP Tryz.prog] ⟨[⟨c1, 23, [y2.val was1.length]⟩], []⟩ (fun (X : SlV × SlV × SlV × SlV × SlV × SlV × SlV × SlV) => .tuple #[.agg ⟨[X.1.val (aK l1 was1).1.h.h.l.length, X.2.1.val (aK l1 was1).1.h.h.t.length, .int .i64 (aK l1 was1).1.h.version, X.2.2.1.val (aK l1 was1).1.h.peers.length, X.2.2.2.1.val (aK l1 was1).1.d.safe.length, X.2.2.2.2.1.val (aK l1 was1).1.d.wait.length, .bool (aK l1 was1).1.up, X.2.2.2.2.2.1.val (aK l1 was1).1.c.length, X.2.2.2.2.2.2.1.val (aK l1 was1).1.mail.length]⟩, .bool (aK l1 was1).2.1]) (fun X => [RdL EStep X.1 (aK l1 was1).1.h.h.l, RdL EPlace X.2.1 (aK l1 was1).1.h.h.t, RdN NPeer X.2.2.1 (aK l1 was1).1.h.peers, RdL EByte X.2.2.2.1 (aK l1 was1).1.d.safe, RdL EByte X.2.2.2.2.1 (aK l1 was1).1.d.wait, RdN NClient X.2.2.2.2.2.1 (aK l1 was1).1.c, RdN NMail X.2.2.2.2.2.2.1 (aK l1 was1).1.mail, RdL EOp X.2.2.2.2.2.2.2 (aK l1 was1).2.2]) (fun X => ⟨[⟨c1, 23, [X.2.2.2.2.2.2.2.val (aK l1 was1).2.2.length]⟩], []⟩) := by
 refine co aZ Tryz.func6 rfl Tryz.ntmps6 Tryz.results6 rfl inferInstance (fun _ => inferInstance) fun C => ?_
 refine Pn NHap y1 l1 72 fun hlen1 => ?_
 refine Tx ?_
 refine Al fun g1 => ?_
 refine Tx ?_
 refine Cl (i8 ) fun x1 => ?_
 refine Al fun g2 => ?_
 refine Tx ?_
 refine rw_q rfl rfl rfl (q_min rfl rfl Zf rfl Zf) ?_
 refine rw_q rfl rfl rfl (pm NHap (if 80 < (l1.length : Int) then 80 else (l1.length : Int)).toNat rfl rfl Zf rfl Zf rfl rfl Mm Zo Zo) ?_
 refine aI (F := RdN NHap y1 (l1.take (if 80 < (l1.length : Int) then 80 else (l1.length : Int)).toNat)) [RdN NHap y1 l1] Sm (fun M w h => (allF1 h).take _) ?_
 refine Tx ?_
 refine Pn NHap y1 (l1.take (if 80 < (l1.length : Int) then 80 else (l1.length : Int)).toNat) 72 fun hlen2 => ?_
 (repeat refine ao ?_); refine Lp [1,4,5,6,16,17] [false, true, false] (fun (i_ : Nat × Wld × SlV × SlV × SlV × SlV × SlV × SlV × SlV × List Op × SlV) => match i_ with | ⟨n1, w1, x2, x3, x4, x5, x6, x7, x8, l2, x9⟩ => (⟨[(18, .v (.int .i64 (n1 : Int)))], [⟨g2, 39, [x2.val w1.h.h.l.length, x3.val w1.h.h.t.length, .int .i64 w1.h.version, x4.val w1.h.peers.length, x5.val w1.d.safe.length, x6.val w1.d.wait.length, .bool w1.up, x7.val w1.c.length, x8.val w1.mail.length]⟩, ⟨c1, 23, [x9.val l2.length]⟩], [], [RdL EStep x2 w1.h.h.l, RdL EPlace x3 w1.h.h.t, RdN NPeer x4 w1.h.peers, RdL EByte x5 w1.d.safe, RdL EByte x6 w1.d.wait, RdN NClient x7 w1.c, RdN NMail x8 w1.mail, RdL EOp x9 l2], (n1 ≤ (l1.take (if 80 < (l1.length : Int) then 80 else (l1.length : Int)).toNat).length) ∧ (bM ((l1.take (if 80 < (l1.length : Int) then 80 else (l1.length : Int)).toNat).drop n1) w1 l2) = (aK l1 was1), (l1.take (if 80 < (l1.length : Int) then 80 else (l1.length : Int)).toNat).length - n1⟩ : Ls)) ⟨0, bV, x1.1, x1.2.1, x1.2.2.1, x1.2.2.2.1, x1.2.2.2.2.1, x1.2.2.2.2.2.1, x1.2.2.2.2.2.2, was1, y2⟩ (Sc (Sc (Sc (Sc (Sc (Sc Sn)))))) (.drop (.keep (.drop (.nil)))) ⟨Nat.zero_le _, (by simp only [aK, Cf] : (aK l1 was1) = (bM (l1.take (if 80 < (l1.length : Int) then 80 else (l1.length : Int)).toNat) bV was1)).symm⟩ Le4 ?_
 rintro ⟨n1, w1, x2, x3, x4, x5, x6, x7, x8, l2, x9⟩ ⟨hkn1, hf1⟩
 simp only [List.cons_append, List.nil_append]
 refine Tx ?_
 refine Cd (b := decide ((n1 : Int) < ((l1.take (if 80 < (l1.length : Int) then 80 else (l1.length : Int)).toNat).length : Int))) (fun hc1 => ?_) fun hc1 => ?_
 ·have hlt0 : n1 < (l1.take (if 80 < (l1.length : Int) then 80 else (l1.length : Int)).toNat).length := Int.ofNat_lt.1 (of_decide_eq_true hc1)
  refine Tx ?_
  refine fj NHap (X := y1) (l := (l1.take (if 80 < (l1.length : Int) then 80 else (l1.length : Int)).toNat)) Mm fun (γ1 : Nat → SlV) => ?_
  refine rw_q rfl rfl rfl (dw NHap γ1 n1 rfl rfl Zf rfl Zf rfl rfl rfl Mm rfl Zf (fun _ => by first | assumption | omega)) ?_
  refine rw_q rfl rfl rfl (q_is (v' := .agg ⟨[.int .i64 (gt (l1.take (if 80 < (l1.length : Int) then 80 else (l1.length : Int)).toNat) n1).kind, .int .i64 (gt (l1.take (if 80 < (l1.length : Int) then 80 else (l1.length : Int)).toNat) n1).who, .int .i64 (gt (l1.take (if 80 < (l1.length : Int) then 80 else (l1.length : Int)).toNat) n1).n, .int .i64 (gt (l1.take (if 80 < (l1.length : Int) then 80 else (l1.length : Int)).toNat) n1).node, .int .i64 (gt (l1.take (if 80 < (l1.length : Int) then 80 else (l1.length : Int)).toNat) n1).parent, .int .i64 (gt (l1.take (if 80 < (l1.length : Int) then 80 else (l1.length : Int)).toNat) n1).name, (γ1 n1).val (gt (l1.take (if 80 < (l1.length : Int) then 80 else (l1.length : Int)).toNat) n1).roots.length]⟩) (fP NHap γ1 rfl rfl Zf rfl rfl Mm (fun _ => by first | assumption | omega)) rfl) ?_
  refine aI (F := RdL EInt (γ1 n1) (gt (l1.take (if 80 < (l1.length : Int) then 80 else (l1.length : Int)).toNat) n1).roots) [am NHap γ1 (l1.take (if 80 < (l1.length : Int) then 80 else (l1.length : Int)).toNat)] Sm (fun M w h => (allF1 h) n1 Zc _ (.head _)) ?_
  refine Al fun g3 => ?_
  refine Tx ?_
  refine Cl (lL x2 x3 x4 x5 x6 x7 x8 w1 (γ1 n1) (gt (l1.take (if 80 < (l1.length : Int) then 80 else (l1.length : Int)).toNat) n1)) fun x10 => ?_
  generalize hS1 : (cE w1 (gt (l1.take (if 80 < (l1.length : Int) then 80 else (l1.length : Int)).toNat) n1)) = S1
  refine Tx ?_
  refine Al fun g4 => ?_
  refine Tx ?_
  refine Cd (b := (S1.2 == 0)) (fun hc2 => ?_) fun hc2 => ?_
  ·have hc2p := eq_of_beq hc2
   refine Tx ?_
   refine sY (ik x10.1 x10.2.1 x10.2.2.1 x10.2.2.2.1 x10.2.2.2.2.1 x10.2.2.2.2.2.1 x10.2.2.2.2.2.2 S1.1 c1 x9 l2) .sq (.inl ⟨_, rfl⟩) (ac rfl) rfl rfl rfl rfl rfl Kr rfl rfl rfl Sm Tk (.nil _) ?_
   intro x11
   generalize hS2 : (bX S1.1 l2) = S2
   refine Tx ?_
   refine Cd (b := (!S2.1)) (fun hc3 => ?_) fun hc3 => ?_
   ·refine Tx ?_
    refine ai ?_; rw [show (aK l1 was1) = (S1.1, false, S2.2) by rw [← hf1, aE hlt0]; simp only [bM, hS1, hc2, hS2, hc3, Cf]]; exact Re ⟨x10.1, x10.2.1, x10.2.2.1, x10.2.2.2.1, x10.2.2.2.2.1, x10.2.2.2.2.2.1, x10.2.2.2.2.2.2, x11⟩ (Va (Vt Vn))
   ·refine Tx ?_
    refine rw_q rfl rfl rfl (q_add rfl rfl Zf rfl Zf Zo) ?_
    refine Tx ?_
    refine ⟨⟨(n1 + 1), S1.1, x10.1, x10.2.1, x10.2.2.1, x10.2.2.2.1, x10.2.2.2.2.1, x10.2.2.2.2.2.1, x10.2.2.2.2.2.2, S2.2, x11⟩, ⟨hlt0, (by rw [← hf1, aE hlt0]; simp only [bM, hS1, hc2, hS2, hc3, Cf] : (aK l1 was1) = (bM ((l1.take (if 80 < (l1.length : Int) then 80 else (l1.length : Int)).toNat).drop (n1 + 1)) S1.1 S2.2)).symm⟩, (by simp only []; omega), Le4⟩
  ·have hc2p := ne_of_beq_false hc2
   refine Tx ?_
   refine rw_q rfl rfl rfl (q_add rfl rfl Zf rfl Zf Zo) ?_
   refine Tx ?_
   refine ⟨⟨(n1 + 1), w1, x2, x3, x4, x5, x6, x7, x8, l2, x9⟩, ⟨hlt0, (by rw [← hf1, aE hlt0]; simp only [bM, hS1, hc2, Cf] : (aK l1 was1) = (bM ((l1.take (if 80 < (l1.length : Int) then 80 else (l1.length : Int)).toNat).drop (n1 + 1)) w1 l2)).symm⟩, (by simp only []; omega), Le4⟩
 ·have hge0 : (l1.take (if 80 < (l1.length : Int) then 80 else (l1.length : Int)).toNat).length ≤ n1 := by have := of_decide_eq_false hc1; omega
  refine Tx ?_
  refine ai ?_; rw [show (aK l1 was1) = (w1, true, l2) by rw [← hf1, List.drop_of_length_le hge0]; simp only [bM, Cf]]; exact Re ⟨x2, x3, x4, x5, x6, x7, x8, x9⟩ (Va (Vt Vn))
def eF (l1 : List Happening) : Bool :=
 (eA && (aK l1 ([] : List Op)).2.1)
theorem ov (y1 : SlV) (l1 : List Happening) : Does Tryz.prog 3 [y1.val l1.length] [RdN NHap y1 l1, LibP Tryz.prog] (fun (_ : Unit) => .bool (eF l1)) (fun _ => []) := by
 refine bj aZ Tryz.func3 rfl Tryz.ntmps3 Tryz.results3 rfl inferInstance (fun _ => inferInstance) fun C => ?_
 refine Pn NHap y1 l1 72 fun hlen1 => ?_
 refine Tx ?_
 refine Al fun g1 => ?_
 refine Tx ?_
 refine Fr EOp ?_
 refine aV (jv y1 l1 g1 (⟨none, 0⟩ : SlV) ([] : List Op)) .sq (.inl ⟨_, rfl⟩) (ac rfl) rfl rfl rfl Kr rfl rfl Sm Tk (.nil _) ?_
 intro x1
 generalize hS1 : (aK l1 ([] : List Op)) = S1
 refine Tx ?_
 refine Al fun g2 => ?_
 refine Tx ?_
 refine Cl (fv ) fun _ => ?_
 refine Tx ?_
 refine ai ?_; simp only [eF, hS1, Cb, Cf]; exact Re () (Vt Vn)
end Go.Proofs.YtpkaloknohpleaaGreatDoor

namespace Go.Proofs.YtpkaloknohpleaaGreatDoor
open Go Go.Proofs.YtpkaloknohpleaaGreatDoor.Fw Go.Proofs
def lx (l : List Rec) : Prop := LogOk l ∧ ∃ S, i7 (aq l).1.h S ∧ S.Perm (opsOf l)
theorem lx.grow {l : List Rec} (hi : lx l) (h60 : l.length < 60) {r : Rec} (h0 : (aJ (aq l).1 r).2 = 0) : lx (l ++ [r]) := by
 obtain ⟨hok, S, hS, hp⟩ := hi
 have hR : aq l = ((aq l).1, 0) := Prod.ext rfl hok
 have hs := iP hR h0 h60
 refine ⟨by unfold LogOk; rw [hs], ?_⟩
 rw [hs]
 rcases lS h0 with ⟨hk, _, _, a3, a4⟩ | ⟨hk, _, a4⟩ | ⟨hk, a4⟩
 ·obtain ⟨p1, p2⟩ := sb hS (vQ (k6 h0) hk) a3
  rw [a4]
  refine ⟨_, p1, p2.trans ?_⟩
  rw [fh, hk]
  exact hp.append_right _
 ·rw [a4]
  refine ⟨S, hS, ?_⟩
  rw [fh, hk]
  simpa using hp
 ·rw [a4]
  refine ⟨S, hS, ?_⟩
  rw [fh, hk]
  simpa using hp
theorem lx.fold {l : List Rec} (hi : lx l) : aQ (opsOf l) = ((aq l).1.h, 0) ∧ bx (aq l).1.h.t = 0 := by
 obtain ⟨_, S, hS, hp⟩ := hi
 have hl : (opsOf l).length ≤ 30 := by rw [← hp.length_eq]; exact hS.len
 have hf := rl hl (fun o ho => hS.ok o (hp.mem_iff.2 ho)) ((Dist.perm hp).1 hS.rise.dist)
 rw [mL hl hS.rise hp, ← hS.eq] at hf
 refine ⟨hf, ?_⟩
 rw [fB, hS.eq]
 exact ne S e0 rfl hS.ok
theorem lx.step {w w' : Wld} {l l' : List Rec} {x : Happening} (h : IsW w l) (hi : lx l) (hp : Hap w l x w' l') : lx l' := by
 rcases hp.grows with rfl | ⟨r, rfl, hu, h0, _⟩
 ·exact hi
 ·obtain ⟨g1, g2, _⟩ := pv h hu h0
  exact hi.grow g2 g1
theorem tY {w : Wld} {l : List Rec} (h : IsW w l) (hi : lx l) {was : List Op} (hw : ∃ t, opsOf l = was ++ t) : bX w was = (true, opsOf l) := by
 obtain ⟨t, ht⟩ := hw
 unfold bX
 rw [lF h]
 have e1 : decide (((opsOf l).length : Int) < (was.length : Int)) = false := by rw [ht]; simp only [List.length_append, decide_eq_false_iff_not]; omega
 have e2 : (opsOf l).take was.length = was := by rw [ht, List.take_left]
 simp only [e1, e2, bne_self_eq_false, Bool.or_self, decide_true, Bool.not_true, cond_false]
 rw [hi.fold.1]
 simp only [hi.fold.2, beq_self_eq_true, Bool.true_and, Bool.and_true]
 cases hu : w.up with
 | false => rfl
 | true =>
  rw [(h.up hu).2]
  simp only [Bool.not_true, Bool.false_or]
  rw [(kK _ _).2 rfl]
theorem iE : ∀ (r : List Happening) (w : Wld) (l : List Rec) (was : List Op), IsW w l → lx l → (∃ t, opsOf l = was ++ t) → (bM r w was).2.1 = true
 | [], w, l, was, _, _, _ => rfl
 | x :: r, w, l, was, h, hi, hw => by
  rw [bM]
  cases h1 : ((cE w x).2 == 0) with
  | false => exact iE r w l was h hi hw
  | true =>
   obtain ⟨b1, b2, b3⟩ := vw (eq_of_beq h1)
   obtain ⟨l', hp⟩ := mv h b2
   have hw' := hp.keeps h
   have hi' := hi.step h hp
   have hwas : ∃ t, opsOf l' = was ++ t := by
    obtain ⟨t, ht⟩ := hw
    rcases hp.grows with rfl | ⟨q, rfl, _, _, _⟩
    ·exact ⟨t, ht⟩
    ·rw [fh, ht, List.append_assoc]; exact ⟨_, rfl⟩
   rw [b3]
   simp only [tY hw' hi' hwas, Bool.not_true, cond_true, cond_false]
   exact iE r _ l' (opsOf l') hw' hi' ⟨[], by simp⟩
theorem ul (l : List Happening) : eF l = true := by
 unfold eF aK
 rw [nz, Bool.true_and]
 exact iE _ bV [] [] New_W ⟨rfl, [], (ot _).1 k9.hist, .refl _⟩ ⟨[], rfl⟩
end Go.Proofs.YtpkaloknohpleaaGreatDoor
