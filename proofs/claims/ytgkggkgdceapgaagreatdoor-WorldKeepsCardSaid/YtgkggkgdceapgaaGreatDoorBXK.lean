/- Part of this claim. No condition. -/
import Derived.Test.YtgkggkgdceapgaaGreatDoorB13
import Derived.Test.YtgkggkgdceapgaaGreatDoorB5
import Derived.Test.YtgkggkgdceapgaaGreatDoorBXTAK
set_option linter.unusedVariables false
set_option linter.unusedSimpArgs false
set_option maxHeartbeats 2000000
namespace Go.Proofs.YtgkggkgdceapgaaGreatDoor
open Go Go.Proofs.YtgkggkgdceapgaaGreatDoor.Fw Go.Proofs
attribute [local irreducible] RdL RdN VarP LibP RW CW
def bv (w1 : Wld) (x1 : Happening) : List Client → Nat → Nat → Bool
 | [], n2, n1 => (bif ((x1.kind == 7) || (x1.kind == 9)) then (((decide ((n1 : Int) ≤ 1) && decide (((aK w1 x1).1.mail.length : Int) ≤ (((w1.mail.take x1.n.toNat ++ w1.mail.drop (x1.n + 1).toNat).length : Int) + 1))) && decide (((aK w1 x1).1.mail.length : Int) ≥ ((w1.mail.take x1.n.toNat ++ w1.mail.drop (x1.n + 1).toNat).length : Int))) && (gY ((aK w1 x1).1.mail.take (w1.mail.take x1.n.toNat ++ w1.mail.drop (x1.n + 1).toNat).length) (w1.mail.take x1.n.toNat ++ w1.mail.drop (x1.n + 1).toNat))) else (((decide ((n1 : Int) ≤ 1) && decide (((aK w1 x1).1.mail.length : Int) ≤ ((w1.mail.length : Int) + 1))) && decide (((aK w1 x1).1.mail.length : Int) ≥ (w1.mail.length : Int))) && (gY ((aK w1 x1).1.mail.take w1.mail.length) w1.mail)))
 | pn2 :: rn2, n2, n1 => (bif (!(eW pn2 (gt (aK w1 x1).1.c n2))) then (bv w1 x1 rn2 (n2 + 1) (n1 + 1)) else (bv w1 x1 rn2 (n2 + 1) n1))
def bX (w1 : Wld) (x1 : Happening) : Bool :=
 (bif ((!bD) || ((aK w1 x1).2 != 0)) then bD else (bif ((aF (aK w1 x1).1) != 0) then false else (bv w1 x1 w1.c 0 0)))
theorem nY (y1 : SlV) (y2 : SlV) (y3 : SlV) (y4 : SlV) (y5 : SlV) (y6 : SlV) (y7 : SlV) (w1 : Wld) (y8 : SlV) (x1 : Happening) : Does Tryz.prog 4 [.agg ⟨[y1.val w1.h.h.l.length, y2.val w1.h.h.t.length, .int .i64 w1.h.version, y3.val w1.h.peers.length, y4.val w1.d.safe.length, y5.val w1.d.wait.length, .bool w1.up, y6.val w1.c.length, y7.val w1.mail.length]⟩, .agg ⟨[.int .i64 x1.kind, .int .i64 x1.who, .int .i64 x1.n, .int .i64 x1.node, .int .i64 x1.parent, .int .i64 x1.name, y8.val x1.roots.length]⟩] [RdL EStep y1 w1.h.h.l, RdL EPlace y2 w1.h.h.t, RdN NPeer y3 w1.h.peers, RdL EByte y4 w1.d.safe, RdL EByte y5 w1.d.wait, RdN NClient y6 w1.c, RdN NMail y7 w1.mail, RdL EInt y8 x1.roots, LibP Tryz.prog] (fun (_ : Unit) => .bool (bX w1 x1)) (fun _ => []) := by
 refine bd aV Tryz.func4 rfl Tryz.ntmps4 Tryz.results4 rfl inferInstance (fun _ => inferInstance) fun C => ?_
 refine Pc EStep y1 w1.h.h.l 88 fun hlen1 => ?_
 refine Pc EPlace y2 w1.h.h.t 24 fun hlen2 => ?_
 refine Pn NPeer y3 w1.h.peers 40 fun hlen3 => ?_
 refine Pc EByte y4 w1.d.safe 1 fun hlen4 => ?_
 refine Pc EByte y5 w1.d.wait 1 fun hlen5 => ?_
 refine Pn NClient y6 w1.c 128 fun hlen6 => ?_
 refine Pn NMail y7 w1.mail 280 fun hlen7 => ?_
 refine Pc EInt y8 x1.roots 8 fun hlen8 => ?_
 refine Tx ?_
 refine Bx fun g1 => ?_
 refine Bx fun g2 => ?_
 refine Tx ?_
 refine Cl (fT y1 y2 y3 y4 y5 y6 y7 w1 y8 x1) fun x2 => ?_
 refine Tx ?_
 refine Al fun g3 => ?_
 refine Tx ?_
 refine Cl (cv ) fun _ => ?_
 refine Tx ?_
 refine Cd (b := ((!bD) || ((aK w1 x1).2 != 0))) (fun hc1 => ?_) fun hc1 => ?_
 ·refine Tx ?_
  refine Cl (cv ) fun _ => ?_
  refine Tx ?_
  refine ak ?_; simp only [bX, hc1, Cb, Cf]; exact Re () (Vt Vn)
 ·have hd0 := ag (Bool.or_eq_false_iff.1 hc1).2
  have hd := Do_ok hd0
  have hd3 := iL hd.1
  have hd3s := iL hd.2
  have hml := ((eh w1.mail).1 (sN hd.1)).1
  refine Tx ?_
  refine Cl (fA x2.1 x2.2.1 x2.2.2.1 x2.2.2.2.1 x2.2.2.2.2.1 x2.2.2.2.2.2.1 x2.2.2.2.2.2.2 (aK w1 x1).1) fun _ => ?_
  generalize hS1 : (aF (aK w1 x1).1) = S1
  refine Tx ?_
  refine Cd (b := (S1 != 0)) (fun hc2 => ?_) fun hc2 => ?_
  ·have hc2p := bne_iff_ne.1 hc2
   refine Tx ?_
   refine ak ?_; simp only [bX, hc1, hS1, hc2, Cb, Cf]; exact Re () (Vt Vn)
  ·have hc2p := ag hc2
   refine Tx ?_
   (repeat refine ar ?_); refine Lp [2,3,4,5,28] [true, true, true] (fun (i_ : Nat × Nat) => match i_ with | ⟨n1, n2⟩ => (⟨[(7, .v (.int .i64 (n1 : Int))), (29, .v (.int .i64 (n2 : Int)))], [], [], [], (n2 ≤ w1.c.length) ∧ (n1 ≤ n2) ∧ (bv w1 x1 (w1.c.drop n2) n2 n1) = (bX w1 x1), w1.c.length - n2⟩ : Ls)) ⟨0, 0⟩ (Sc (Sc (Sc (Sc (Sc Sn))))) (.keep (.keep (.keep (.nil)))) ⟨Nat.zero_le _, (by omega), (by simp only [bX, hc1, hS1, hc2, Cb, Cf] : (bX w1 x1) = (bv w1 x1 w1.c 0 0)).symm⟩ Le4 ?_
   rintro ⟨n1, n2⟩ ⟨hkn2, hnk, hf1⟩
   simp only [List.cons_append, List.nil_append]
   refine Tx ?_
   refine Cd (b := decide ((n2 : Int) < (w1.c.length : Int))) (fun hc3 => ?_) fun hc3 => ?_
   ·have hlt0 : n2 < w1.c.length := Int.ofNat_lt.1 (of_decide_eq_true hc3)
    refine Tx ?_
    (repeat refine ar ?_); refine aw (fun _ => some []) ?_
    refine Rb 0 rfl Qp ?_
    refine Rb 1 rfl Q1 ?_
    refine Rb 2 rfl Qp ?_
    refine eY NClient (X := y6) (l := w1.c) Mm fun (γ1 : Nat → SlV × SlV × SlV × SlV) => ?_
    refine Rb 3 rfl (dv NClient γ1 n2 rfl rfl Zf rfl Zf rfl rfl rfl Mm rfl Zf (fun _ => by first | assumption | omega)) ?_
    refine Rb 4 rfl (q_is (v' := .agg ⟨[.int .i64 (gt w1.c n2).life, .int .i64 (gt w1.c n2).time, .int .i64 (gt w1.c n2).seq, (γ1 n2).1.val (gt w1.c n2).pending.length, .int .i64 (gt w1.c n2).version, (γ1 n2).2.1.val (gt w1.c n2).v.roots.length, (γ1 n2).2.2.1.val (gt w1.c n2).v.known.length, (γ1 n2).2.2.2.val (gt w1.c n2).v.way.length]⟩) (fK NClient γ1 rfl rfl Zf rfl rfl Mm (fun _ => by first | assumption | omega)) rfl) ?_
    refine ay (F := RdL EOp (γ1 n2).1 (gt w1.c n2).pending) [ao NClient γ1 w1.c] Sm (fun M w h => (allF1 h) n2 Zc _ (.head _)) ?_
    refine ay (F := RdL EInt (γ1 n2).2.1 (gt w1.c n2).v.roots) [ao NClient γ1 w1.c] Sm (fun M w h => (allF1 h) n2 Zc _ (.tail _ (.head _))) ?_
    refine ay (F := RdL EPlace (γ1 n2).2.2.1 (gt w1.c n2).v.known) [ao NClient γ1 w1.c] Sm (fun M w h => (allF1 h) n2 Zc _ (.tail _ (.tail _ (.head _)))) ?_
    refine ay (F := RdL EPlace (γ1 n2).2.2.2 (gt w1.c n2).v.way) [ao NClient γ1 w1.c] Sm (fun M w h => (allF1 h) n2 Zc _ (.tail _ (.tail _ (.tail _ (.head _))))) ?_
    refine Rb 5 rfl Qp ?_
    refine Rb 6 rfl Q1 ?_
    refine Rb 7 rfl Qp ?_
    refine eY NClient (X := x2.2.2.2.2.2.1) (l := (aK w1 x1).1.c) Mm fun (γ2 : Nat → SlV × SlV × SlV × SlV) => ?_
    refine Rb 8 rfl (dv NClient γ2 n2 rfl rfl Zf rfl Zf rfl rfl rfl Mm rfl Zf (fun _ => by first | assumption | omega)) ?_
    refine Rb 9 rfl (q_is (v' := .agg ⟨[.int .i64 (gt (aK w1 x1).1.c n2).life, .int .i64 (gt (aK w1 x1).1.c n2).time, .int .i64 (gt (aK w1 x1).1.c n2).seq, (γ2 n2).1.val (gt (aK w1 x1).1.c n2).pending.length, .int .i64 (gt (aK w1 x1).1.c n2).version, (γ2 n2).2.1.val (gt (aK w1 x1).1.c n2).v.roots.length, (γ2 n2).2.2.1.val (gt (aK w1 x1).1.c n2).v.known.length, (γ2 n2).2.2.2.val (gt (aK w1 x1).1.c n2).v.way.length]⟩) (fK NClient γ2 rfl rfl Zf rfl rfl Mm (fun _ => by first | assumption | omega)) rfl) ?_
    refine ay (F := RdL EOp (γ2 n2).1 (gt (aK w1 x1).1.c n2).pending) [ao NClient γ2 (aK w1 x1).1.c] Sm (fun M w h => (allF1 h) n2 Zc _ (.head _)) ?_
    refine ay (F := RdL EInt (γ2 n2).2.1 (gt (aK w1 x1).1.c n2).v.roots) [ao NClient γ2 (aK w1 x1).1.c] Sm (fun M w h => (allF1 h) n2 Zc _ (.tail _ (.head _))) ?_
    refine ay (F := RdL EPlace (γ2 n2).2.2.1 (gt (aK w1 x1).1.c n2).v.known) [ao NClient γ2 (aK w1 x1).1.c] Sm (fun M w h => (allF1 h) n2 Zc _ (.tail _ (.tail _ (.head _)))) ?_
    refine ay (F := RdL EPlace (γ2 n2).2.2.2 (gt (aK w1 x1).1.c n2).v.way) [ao NClient γ2 (aK w1 x1).1.c] Sm (fun M w h => (allF1 h) n2 Zc _ (.tail _ (.tail _ (.tail _ (.head _))))) ?_
    refine av 10 Kr ?_
    refine cR (kF (γ1 n2).1 (γ1 n2).2.1 (γ1 n2).2.2.1 (γ1 n2).2.2.2 (gt w1.c n2) (γ2 n2).1 (γ2 n2).2.1 (γ2 n2).2.2.1 (γ2 n2).2.2.2 (gt (aK w1 x1).1.c n2)) (.an rfl rfl) (ae rfl) rfl rfl rfl Kr rfl rfl Sm ?_
    intro _
    generalize hS2 : (eW (gt w1.c n2) (gt (aK w1 x1).1.c n2)) = S2
    refine Ra 11 rfl Qp ?_
    refine bj Kr ?_
    (repeat refine ar ?_)
    refine Cd (b := (!S2)) (fun hc4 => ?_) fun hc4 => ?_
    ·refine Tx ?_
     refine rw_q rfl rfl rfl (q_add rfl rfl Zf rfl Zf Zo) ?_
     refine Tx ?_
     refine rw_q rfl rfl rfl (q_add rfl rfl Zf rfl Zf Zo) ?_
     refine Tx ?_
     refine ⟨⟨(n1 + 1), (n2 + 1)⟩, ⟨hlt0, (by omega), (by rw [← hf1, aI hlt0]; simp only [bv, hS2, hc4, Cb, Cf] : (bX w1 x1) = (bv w1 x1 (w1.c.drop (n2 + 1)) (n2 + 1) (n1 + 1))).symm⟩, (by simp only []; omega), Le4⟩
    ·refine Tx ?_
     refine rw_q rfl rfl rfl (q_add rfl rfl Zf rfl Zf Zo) ?_
     refine Tx ?_
     refine ⟨⟨n1, (n2 + 1)⟩, ⟨hlt0, (by omega), (by rw [← hf1, aI hlt0]; simp only [bv, hS2, hc4, Cb, Cf] : (bX w1 x1) = (bv w1 x1 (w1.c.drop (n2 + 1)) (n2 + 1) n1)).symm⟩, (by simp only []; omega), Le4⟩
   ·have hge0 : w1.c.length ≤ n2 := by have := of_decide_eq_false hc3; omega
    refine Tx ?_
    refine eY NMail (X := y7) (l := w1.mail) Mm fun (γ3 : Nat → SlV × SlV × SlV × SlV × SlV × SlV × SlV) => ?_
    refine Cg (gR y7 γ3 w1.mail) fun x3 => ?_
    refine Tx ?_
    refine Cd (b := ((x1.kind == 7) || (x1.kind == 9))) (fun hc5 => ?_) fun hc5 => ?_
    ·have htk := xt hd0 hc5
     have hcl2 : (w1.mail.take x1.n.toNat ++ w1.mail.drop (x1.n + 1).toNat).length + 1 = w1.mail.length := (by simp only [List.length_append, List.length_take, List.length_drop]; omega)
     refine Tx ?_
     refine rw_q rfl rfl rfl (q_add rfl rfl Zf rfl Zf Zo) ?_
     refine aX (gQ x3.1 x3.2 γ3 w1.mail x1.n (x1.n + 1) (by omega) (by omega) (by omega)) .sq (.inl ⟨_, rfl⟩) (ae rfl) rfl rfl rfl Kr rfl rfl Sm (.nil _) Tk ?_
     intro _
     refine ay (F := ao NMail (appG γ3 x1.n.toNat (dropG γ3 (x1.n + 1).toNat)) (w1.mail.take x1.n.toNat ++ w1.mail.drop (x1.n + 1).toNat)) [ao NMail γ3 w1.mail] Sm (fun M w h => ao.del NMail _ _ (by omega) (allF1 h)) ?_
     refine Tx ?_
     refine rw_qg (au rfl rfl rfl) rfl rfl (q_add rfl rfl Bt rfl Bt (by intro h; first | omega | (simp at h; omega))) ?_
     refine Tx ?_
     refine rw_qg (au rfl rfl rfl) rfl rfl (pI NMail (w1.mail.take x1.n.toNat ++ w1.mail.drop (x1.n + 1).toNat).length rfl rfl Bt rfl Bt rfl rfl Mm (by intro h; first | omega | (simp at h; omega)) (by intro h; first | omega | (simp at h; omega))) ?_
     refine ay (F := RdN NMail x2.2.2.2.2.2.2 ((aK w1 x1).1.mail.take (w1.mail.take x1.n.toNat ++ w1.mail.drop (x1.n + 1).toNat).length)) [RdN NMail x2.2.2.2.2.2.2 (aK w1 x1).1.mail] Sm (fun M w h => (allF1 h).take _) ?_
     refine Tx ?_
     refine rw_le (aA NMail.E 69 x3.1 x3.2 (zipG (appG γ3 x1.n.toNat (dropG γ3 (x1.n + 1).toNat)) 0 (w1.mail.take x1.n.toNat ++ w1.mail.drop (x1.n + 1).toNat)) Uo) ?_
     refine ay (F := RdN NMail x3.1 (w1.mail.take x1.n.toNat ++ w1.mail.drop (x1.n + 1).toNat)) [RdG NMail x3.1 (appG γ3 x1.n.toNat (dropG γ3 (x1.n + 1).toNat)) (w1.mail.take x1.n.toNat ++ w1.mail.drop (x1.n + 1).toNat), ao NMail (appG γ3 x1.n.toNat (dropG γ3 (x1.n + 1).toNat)) (w1.mail.take x1.n.toNat ++ w1.mail.drop (x1.n + 1).toNat)] Sm (fun M w h => RdN.ofG NMail (h _ (.head _)) (h _ (.tail _ (.head _)))) ?_
     refine c6 (fun hG_ => jX x2.2.2.2.2.2.2 ((aK w1 x1).1.mail.take (w1.mail.take x1.n.toNat ++ w1.mail.drop (x1.n + 1).toNat).length) x3.1 (w1.mail.take x1.n.toNat ++ w1.mail.drop (x1.n + 1).toNat)) Zf .sq (au rfl rfl rfl) rfl rfl rfl Kr rfl Bt Sm ?_
     refine Tx ?_
     refine ak ?_; rw [show (bX w1 x1) = (((decide ((n1 : Int) ≤ 1) && decide (((aK w1 x1).1.mail.length : Int) ≤ (((w1.mail.take x1.n.toNat ++ w1.mail.drop (x1.n + 1).toNat).length : Int) + 1))) && decide (((aK w1 x1).1.mail.length : Int) ≥ ((w1.mail.take x1.n.toNat ++ w1.mail.drop (x1.n + 1).toNat).length : Int))) && (gY ((aK w1 x1).1.mail.take (w1.mail.take x1.n.toNat ++ w1.mail.drop (x1.n + 1).toNat).length) (w1.mail.take x1.n.toNat ++ w1.mail.drop (x1.n + 1).toNat))) by rw [← hf1, List.drop_of_length_le hge0]; simp only [bv, hc5, Cb, Cf]]; exact Re () (Vt Vn)
    ·refine Tx ?_
     refine rw_qg (au rfl rfl rfl) rfl rfl (q_add rfl rfl Bt rfl Bt (by intro h; first | omega | (simp at h; omega))) ?_
     refine Tx ?_
     refine rw_qg (au rfl rfl rfl) rfl rfl (pI NMail w1.mail.length rfl rfl Bt rfl Bt rfl rfl Mm (by intro h; first | omega | (simp at h; omega)) (by intro h; first | omega | (simp at h; omega))) ?_
     refine ay (F := RdN NMail x2.2.2.2.2.2.2 ((aK w1 x1).1.mail.take w1.mail.length)) [RdN NMail x2.2.2.2.2.2.2 (aK w1 x1).1.mail] Sm (fun M w h => (allF1 h).take _) ?_
     refine Tx ?_
     refine rw_le (aA NMail.E 69 x3.1 x3.2 (zipG γ3 0 w1.mail) Uo) ?_
     refine ay (F := RdN NMail x3.1 w1.mail) [RdG NMail x3.1 γ3 w1.mail, ao NMail γ3 w1.mail] Sm (fun M w h => RdN.ofG NMail (h _ (.head _)) (h _ (.tail _ (.head _)))) ?_
     refine c6 (fun hG_ => jX x2.2.2.2.2.2.2 ((aK w1 x1).1.mail.take w1.mail.length) x3.1 w1.mail) Zf .sq (au rfl rfl rfl) rfl rfl rfl Kr rfl Bt Sm ?_
     refine Tx ?_
     refine ak ?_; rw [show (bX w1 x1) = (((decide ((n1 : Int) ≤ 1) && decide (((aK w1 x1).1.mail.length : Int) ≤ ((w1.mail.length : Int) + 1))) && decide (((aK w1 x1).1.mail.length : Int) ≥ (w1.mail.length : Int))) && (gY ((aK w1 x1).1.mail.take w1.mail.length) w1.mail)) by rw [← hf1, List.drop_of_length_le hge0]; simp only [bv, hc5, Cb, Cf]]; exact Re () (Vt Vn)
end Go.Proofs.YtgkggkgdceapgaaGreatDoor

namespace Go.Proofs.YtgkggkgdceapgaaGreatDoor
open Go Go.Proofs.YtgkggkgdceapgaaGreatDoor.Fw Go.Proofs
theorem Hap.client {w w' : Wld} {l l' : List Rec} {x : Happening} (h : Hap w l x w' l') : ∃ k : Nat, ∀ i, i ≠ k → gt w'.c i = gt w.c i := by
 have hset : ∀ (k : Nat) (c : Client) (i : Nat), i ≠ k → gt (w.c.set k c) i = gt w.c i := fun k c i hi => by
  simp [gt, List.getD_eq_getElem?_getD, List.getElem?_set_ne (Ne.symm hi)]
 cases h with
 | hear _ _ m _ _ _ => exact ⟨m.who.toNat, hset _ _⟩
 | move _ _ _ => exact ⟨x.who.toNat, hset _ _⟩
 | began _ _ _ _ _ => exact ⟨x.who.toNat, hset _ _⟩
 | got _ _ _ _ _ _ _ => exact ⟨0, fun _ _ => rfl⟩
 | late _ _ _ _ _ _ _ => exact ⟨0, fun _ _ => rfl⟩
 | lose _ _ => exact ⟨0, fun _ _ => rfl⟩
 | crash _ _ => exact ⟨0, fun _ _ => rfl⟩
 | boot _ _ _ => exact ⟨0, fun _ _ => rfl⟩
 | again _ _ _ => exact ⟨0, fun _ _ => rfl⟩
 | roots _ _ _ _ => exact ⟨0, fun _ _ => rfl⟩
 | shown _ _ _ _ _ => exact ⟨0, fun _ _ => rfl⟩
theorem Hap.mails {w w' : Wld} {l l' : List Rec} {x : Happening} (h : Hap w l x w' l') : ∃ m, w'.mail = (bif (x.kind == 7) || (x.kind == 9) then w.mail.take x.n.toNat ++ w.mail.drop (x.n + 1).toNat else w.mail) ∨
  w'.mail = (bif (x.kind == 7) || (x.kind == 9) then w.mail.take x.n.toNat ++ w.mail.drop (x.n + 1).toNat else w.mail) ++ [m] := by
 have hleft : ∀ (_ : x.kind = 7 ∨ x.kind = 8), oe w.mail x = (bif (x.kind == 7) || (x.kind == 9) then w.mail.take x.n.toNat ++ w.mail.drop (x.n + 1).toNat else w.mail) := fun hx => by
  unfold oe
  rcases hx with hx | hx <;> rw [hx] <;> rfl
 have hno : ∀ (_ : x.kind ≠ 7 ∧ x.kind ≠ 9), (bif (x.kind == 7) || (x.kind == 9) then w.mail.take x.n.toNat ++ w.mail.drop (x.n + 1).toNat else w.mail) = w.mail := fun hx => by
  rw [beq_eq_false_iff_ne.2 hx.1, beq_eq_false_iff_ne.2 hx.2]; rfl
 have hpost : ∀ (m : Mail), posted w.mail m = w.mail ∨ posted w.mail m = w.mail ++ [m] := fun m => by
  unfold posted; split
  ·exact .inr rfl
  ·exact .inl rfl
 cases h with
 | hear hx _ m _ _ _ => exact ⟨m, .inl (hleft hx)⟩
 | got hx _ m _ _ _ _ => exact ⟨m, .inl (hleft hx)⟩
 | late hx _ m _ _ _ _ => exact ⟨m, .inl (hleft hx)⟩
 | lose hx _ => exact ⟨default, .inl (by rw [hx]; rfl)⟩
 | crash hx _ => exact ⟨default, .inl (hno (by omega)).symm⟩
 | boot hx _ _ => exact ⟨default, .inl (hno (by omega)).symm⟩
 | began hx _ _ _ _ => exact ⟨default, .inl (hno (by omega)).symm⟩
 | roots hx _ _ _ => exact ⟨default, .inl (hno (by omega)).symm⟩
 | move hx _ _ => rw [hno (by omega)]; exact ⟨_, hpost _⟩
 | again hx _ _ => rw [hno (by omega)]; exact ⟨_, hpost _⟩
 | shown hx _ _ m _ => rw [hno (by omega)]; exact ⟨_, hpost _⟩
theorem qX {q left : List Mail} {m : Mail} (h : q = left ∨ q = left ++ [m]) {n : Nat} (hn : n ≤ 1) :
  (((decide ((n : Int) ≤ 1) && decide ((q.length : Int) ≤ ((left.length : Int) + 1))) && decide ((q.length : Int) ≥ (left.length : Int))) && (gY (q.take left.length) left)) = true := by
 have e1 : decide ((n : Int) ≤ 1) = true := by simp only [decide_eq_true_eq]; omega
 rcases h with rfl | rfl
 ·have e2 : decide ((q.length : Int) ≤ (q.length : Int) + 1) = true := by simp only [decide_eq_true_eq]; omega
  rw [e1, e2, List.take_length, jY]; simp
 ·have e2 : decide (((left ++ [m]).length : Int) ≤ (left.length : Int) + 1) = true := by simp only [List.length_append, List.length_cons, List.length_nil, decide_eq_true_eq]; omega
  have e3 : decide (((left ++ [m]).length : Int) ≥ (left.length : Int)) = true := by simp only [List.length_append, List.length_cons, List.length_nil, decide_eq_true_eq]; omega
  rw [e1, e2, e3, List.take_left, jY]; rfl
theorem mz {w : Wld} {x : Happening} {y : Wld} (hy : (aK w x).1 = y) {k : Nat} (hk : ∀ i, i ≠ k → gt y.c i = gt w.c i) {m : Mail}
  (hm : y.mail = (bif (x.kind == 7) || (x.kind == 9) then w.mail.take x.n.toNat ++ w.mail.drop (x.n + 1).toNat else w.mail) ∨ y.mail = (bif (x.kind == 7) || (x.kind == 9) then w.mail.take x.n.toNat ++ w.mail.drop (x.n + 1).toNat else w.mail) ++ [m]) :
  ∀ (r : List Client) (i n : Nat), r = w.c.drop i → (n = 0 ∨ n = 1 ∧ k < i) → bv w x r i n = true
 | [], i, n, _, hn => by
  rw [bv, hy]
  cases hb : ((x.kind == 7) || (x.kind == 9)) with
  | true => rw [hb] at hm; exact qX hm (by omega)
  | false => rw [hb] at hm; exact qX hm (by omega)
 | c :: r, i, n, hr, hn => by
  have hlt : i < w.c.length := by
   rcases Nat.lt_or_ge i w.c.length with h' | h'
   ·exact h'
   ·rw [List.drop_of_length_le h'] at hr; cases hr
  rw [aI hlt] at hr
  obtain ⟨rfl, hr'⟩ := List.cons.inj hr
  rw [bv, hy]
  by_cases hi : i = k
  ·cases (!(eW (gt w.c i) (gt y.c i))) with
   | true => exact mz hy hk hm r (i + 1) (n + 1) hr' (by omega)
   | false => exact mz hy hk hm r (i + 1) n hr' (by omega)
  ·have : eW (gt w.c i) (gt y.c i) = true := (ld _ _).2 (hk i hi).symm
   rw [this]
   exact mz hy hk hm r (i + 1) n hr' (by omega)
theorem uR (w : Wld) (x : Happening) : bX w x = true := by
 unfold bX
 rw [iV]
 cases h1 : ((!true) || ((aK w x).2 != 0)) with
 | true => rfl
 | false =>
 have h0 := ag (Bool.or_eq_false_iff.1 h1).2
 rw [cond_false]
 obtain ⟨b1, b2, b3⟩ := qY h0
 obtain ⟨l, h⟩ := (dV w).1 b1
 obtain ⟨l', hp⟩ := mU h b2
 obtain ⟨k, hk⟩ := hp.client
 obtain ⟨m, hm⟩ := hp.mails
 have e1 : (aF (aK w x).1 != 0) = false := by rw [(Do_ok h0).2]; rfl
 rw [e1, cond_false]
 exact mz (by rw [b3]) hk hm w.c 0 0 rfl (.inl rfl)
end Go.Proofs.YtgkggkgdceapgaaGreatDoor
