/- Part of this claim. No condition. -/
import Derived.Test.YtgkggkgdceapgaaGreatDoorB13
import Derived.Test.YtgkggkgdceapgaaGreatDoorB4
import Derived.Test.YtgkggkgdceapgaaGreatDoorBXTAK
set_option linter.unusedVariables false
set_option linter.unusedSimpArgs false
set_option maxHeartbeats 2000000
namespace Go.Proofs.YtgkggkgdceapgaaGreatDoor
open Go Go.Proofs.YtgkggkgdceapgaaGreatDoor.Fw Go.Proofs
attribute [local irreducible] RdL RdN VarP LibP RW CW
def dF (w1 : Wld) (who1 : Int) (node1 : Int) (parent1 : Int) (name1 : Int) : Bool :=
 (bif ((!bD) || ((aK w1 (⟨1, (ai who1 3), 0, node1, parent1, name1, ([] : List Int)⟩ : Happening)).2 != 0)) then bD else (bif ((!(fv w1.h (aK w1 (⟨1, (ai who1 3), 0, node1, parent1, name1, ([] : List Int)⟩ : Happening)).1.h)) || (((gt (aK w1 (⟨1, (ai who1 3), 0, node1, parent1, name1, ([] : List Int)⟩ : Happening)).1.c (ai who1 3).toNat).pending.length : Int) != (((gt w1.c (ai who1 3).toNat).pending.length : Int) + 1))) then false else (bif (((cK (gt w1.c (ai who1 3).toNat) (ai who1 3)).2 != 0) || ((cK (gt (aK w1 (⟨1, (ai who1 3), 0, node1, parent1, name1, ([] : List Int)⟩ : Happening)).1.c (ai who1 3).toNat) (ai who1 3)).2 != 0)) then false else (((fi (cK (gt w1.c (ai who1 3).toNat) (ai who1 3)).1 parent1 node1).2 == 0) && (((fi (cK (gt w1.c (ai who1 3).toNat) (ai who1 3)).1 parent1 node1).1 && (decide ((cK (gt w1.c (ai who1 3).toNat) (ai who1 3)).1 = (cK (gt (aK w1 (⟨1, (ai who1 3), 0, node1, parent1, name1, ([] : List Int)⟩ : Happening)).1.c (ai who1 3).toNat) (ai who1 3)).1))) || ((!(fi (cK (gt w1.c (ai who1 3).toNat) (ai who1 3)).1 parent1 node1).1) && decide ((cH (cK (gt (aK w1 (⟨1, (ai who1 3), 0, node1, parent1, name1, ([] : List Int)⟩ : Happening)).1.c (ai who1 3).toNat) (ai who1 3)).1 node1) = (⟨node1, parent1, name1⟩ : Place))))))))
theorem nZ (y1 : SlV) (y2 : SlV) (y3 : SlV) (y4 : SlV) (y5 : SlV) (y6 : SlV) (y7 : SlV) (w1 : Wld) (who1 : Int) (node1 : Int) (parent1 : Int) (name1 : Int) : Does Tryz.prog 7 [.agg ⟨[y1.val w1.h.h.l.length, y2.val w1.h.h.t.length, .int .i64 w1.h.version, y3.val w1.h.peers.length, y4.val w1.d.safe.length, y5.val w1.d.wait.length, .bool w1.up, y6.val w1.c.length, y7.val w1.mail.length]⟩, .int .i64 who1, .int .i64 node1, .int .i64 parent1, .int .i64 name1] [RdL EStep y1 w1.h.h.l, RdL EPlace y2 w1.h.h.t, RdN NPeer y3 w1.h.peers, RdL EByte y4 w1.d.safe, RdL EByte y5 w1.d.wait, RdN NClient y6 w1.c, RdN NMail y7 w1.mail, LibP Tryz.prog] (fun (_ : Unit) => .bool (dF w1 who1 node1 parent1 name1)) (fun _ => []) := by
 refine bd aV Tryz.func7 rfl Tryz.ntmps7 Tryz.results7 rfl inferInstance (fun _ => inferInstance) fun C => ?_
 refine Pc EStep y1 w1.h.h.l 88 fun hlen1 => ?_
 refine Pc EPlace y2 w1.h.h.t 24 fun hlen2 => ?_
 refine Pn NPeer y3 w1.h.peers 40 fun hlen3 => ?_
 refine Pc EByte y4 w1.d.safe 1 fun hlen4 => ?_
 refine Pc EByte y5 w1.d.wait 1 fun hlen5 => ?_
 refine Pn NClient y6 w1.c 128 fun hlen6 => ?_
 refine Pn NMail y7 w1.mail 280 fun hlen7 => ?_
 refine Tx ?_
 refine Bx fun g1 => ?_
 refine Tx ?_
 refine Cl (gu who1 3 (by omega)) fun _ => ?_
 have hat := at_in (k := who1) (n := 3) (by decide)
 refine Tx ?_
 refine Fr EInt ?_
 refine Cl (fT y1 y2 y3 y4 y5 y6 y7 w1 (⟨none, 0⟩ : SlV) (⟨1, (ai who1 3), 0, node1, parent1, name1, ([] : List Int)⟩ : Happening)) fun x1 => ?_
 generalize hS1 : (aK w1 (⟨1, (ai who1 3), 0, node1, parent1, name1, ([] : List Int)⟩ : Happening)) = S1
 refine Tx ?_
 refine Al fun g2 => ?_
 refine Tx ?_
 refine Cl (cv ) fun _ => ?_
 refine Tx ?_
 refine Cd (b := ((!bD) || (S1.2 != 0))) (fun hc1 => ?_) fun hc1 => ?_
 ·refine Tx ?_
  refine Cl (cv ) fun _ => ?_
  refine Tx ?_
  refine ak ?_; simp only [dF, hS1, hc1, Cb, Cf]; exact Re () (Vt Vn)
 ·have hd := Do_okS hS1 (ag (Bool.or_eq_false_iff.1 hc1).2)
  have hd3 := iL hd.1
  have hd3s := iL hd.2
  have hpb := tv hd.1 (k := (ai who1 3).toNat) (by omega)
  refine Tx ?_
  (repeat refine ar ?_); refine aw (fun _ => some []) ?_
  refine Rb 0 rfl Qp ?_
  refine Rb 1 rfl (q_ldP rfl rfl Zf rfl Mm rfl) ?_
  refine Rb 2 rfl Qp ?_
  refine Rb 3 rfl (q_ldP rfl rfl Zf rfl Mm rfl) ?_
  refine av 4 Kr ?_
  refine cR (iI y1 y2 y3 w1.h x1.1 x1.2.1 x1.2.2.1 S1.1.h) (.an rfl rfl) (ae rfl) rfl rfl rfl Kr rfl rfl Sm ?_
  intro _
  refine Rb 5 rfl Qp ?_
  refine Ra 6 rfl Qp ?_
  refine Gb 7 rfl (aD rfl rfl rfl) (q_pev rfl Bt) ?_
  refine Gb 8 rfl (aD rfl rfl rfl) (q_ld1 rfl rfl Bt rfl Mm rfl) ?_
  refine Gb 9 rfl (aD rfl rfl rfl) (q_pev rfl Bt) ?_
  refine eY NClient (X := x1.2.2.2.2.2.1) (l := S1.1.c) Mm fun (γ1 : Nat → SlV × SlV × SlV × SlV) => ?_
  refine Gb 10 rfl (aD rfl rfl rfl) (dv NClient γ1 (ai who1 3).toNat rfl rfl Bt rfl Bt rfl rfl rfl Mm rfl (by intro h; first | omega | rfl | (simp at h; omega)) (by first | (intro _; first | assumption | omega) | (intro h; simp at h; omega))) ?_
  refine Gb 11 rfl (aD rfl rfl rfl) (q_fae rfl rfl Bt rfl rfl) ?_
  refine Gb 12 rfl (aD rfl rfl rfl) (iw NClient γ1 (v := (γ1 (ai who1 3).toNat).1.val (gt S1.1.c (ai who1 3).toNat).pending.length) rfl rfl Bt rfl rfl Mm (by first | (intro _; first | assumption | omega) | (intro h; simp at h; omega)) rfl) ?_
  refine Gb 13 rfl (aD rfl rfl rfl) (q_pev rfl Bt) ?_
  refine Gb 14 rfl (aD rfl rfl rfl) (q_pev rfl Bt) ?_
  refine Gb 15 rfl (aD rfl rfl rfl) (q_ld1 rfl rfl Bt rfl Mm rfl) ?_
  refine Gb 16 rfl (aD rfl rfl rfl) (q_pev rfl Bt) ?_
  refine eY NClient (X := y6) (l := w1.c) Mm fun (γ2 : Nat → SlV × SlV × SlV × SlV) => ?_
  refine Gb 17 rfl (aD rfl rfl rfl) (dv NClient γ2 (ai who1 3).toNat rfl rfl Bt rfl Bt rfl rfl rfl Mm rfl (by intro h; first | omega | rfl | (simp at h; omega)) (by first | (intro _; first | assumption | omega) | (intro h; simp at h; omega))) ?_
  refine Gb 18 rfl (aD rfl rfl rfl) (q_fae rfl rfl Bt rfl rfl) ?_
  refine Gb 19 rfl (aD rfl rfl rfl) (iw NClient γ2 (v := (γ2 (ai who1 3).toNat).1.val (gt w1.c (ai who1 3).toNat).pending.length) rfl rfl Bt rfl rfl Mm (by first | (intro _; first | assumption | omega) | (intro h; simp at h; omega)) rfl) ?_
  refine Gb 20 rfl (aD rfl rfl rfl) (q_pev rfl Bt) ?_
  refine Gb 21 rfl (aD rfl rfl rfl) (q_add rfl rfl Bt rfl Bt (by intro h; first | omega | (simp at h; omega))) ?_
  refine Ga 22 rfl (aD rfl rfl rfl) (q_pev rfl Bt) ?_
  refine Ra 23 rfl (q_pev rfl Bt) ?_
  refine bj Kr ?_
  (repeat refine ar ?_)
  refine Cd (b := ((!(fv w1.h S1.1.h)) || (((gt S1.1.c (ai who1 3).toNat).pending.length : Int) != (((gt w1.c (ai who1 3).toNat).pending.length : Int) + 1)))) (fun hc2 => ?_) fun hc2 => ?_
  ·refine Tx ?_
   refine ak ?_; simp only [dF, hS1, hc1, hc2, Cb, Cf]; exact Re () (Vt Vn)
  ·refine Tx ?_
   refine rw_q rfl rfl rfl (dv NClient γ2 (ai who1 3).toNat rfl rfl Zf rfl Zf rfl rfl rfl Mm rfl Zo (fun _ => by first | assumption | omega)) ?_
   refine rw_q rfl rfl rfl (q_is (v' := .agg ⟨[.int .i64 (gt w1.c (ai who1 3).toNat).life, .int .i64 (gt w1.c (ai who1 3).toNat).time, .int .i64 (gt w1.c (ai who1 3).toNat).seq, (γ2 (ai who1 3).toNat).1.val (gt w1.c (ai who1 3).toNat).pending.length, .int .i64 (gt w1.c (ai who1 3).toNat).version, (γ2 (ai who1 3).toNat).2.1.val (gt w1.c (ai who1 3).toNat).v.roots.length, (γ2 (ai who1 3).toNat).2.2.1.val (gt w1.c (ai who1 3).toNat).v.known.length, (γ2 (ai who1 3).toNat).2.2.2.val (gt w1.c (ai who1 3).toNat).v.way.length]⟩) (fK NClient γ2 rfl rfl Zf rfl rfl Mm (fun _ => by first | assumption | omega)) rfl) ?_
   refine ay (F := RdL EOp (γ2 (ai who1 3).toNat).1 (gt w1.c (ai who1 3).toNat).pending) [ao NClient γ2 w1.c] Sm (fun M w h => (allF1 h) (ai who1 3).toNat Zc _ (.head _)) ?_
   refine ay (F := RdL EInt (γ2 (ai who1 3).toNat).2.1 (gt w1.c (ai who1 3).toNat).v.roots) [ao NClient γ2 w1.c] Sm (fun M w h => (allF1 h) (ai who1 3).toNat Zc _ (.tail _ (.head _))) ?_
   refine ay (F := RdL EPlace (γ2 (ai who1 3).toNat).2.2.1 (gt w1.c (ai who1 3).toNat).v.known) [ao NClient γ2 w1.c] Sm (fun M w h => (allF1 h) (ai who1 3).toNat Zc _ (.tail _ (.tail _ (.head _)))) ?_
   refine ay (F := RdL EPlace (γ2 (ai who1 3).toNat).2.2.2 (gt w1.c (ai who1 3).toNat).v.way) [ao NClient γ2 w1.c] Sm (fun M w h => (allF1 h) (ai who1 3).toNat Zc _ (.tail _ (.tail _ (.tail _ (.head _))))) ?_
   refine Rp rfl rfl rfl rfl ?_
   refine Cl (jV (γ2 (ai who1 3).toNat).1 (γ2 (ai who1 3).toNat).2.1 (γ2 (ai who1 3).toNat).2.2.1 (γ2 (ai who1 3).toNat).2.2.2 (gt w1.c (ai who1 3).toNat) (ai who1 3)) fun x2 => ?_
   generalize hS2 : (cK (gt w1.c (ai who1 3).toNat) (ai who1 3)) = S2
   refine Tx ?_
   refine Al fun g3 => ?_
   refine Tx ?_
   refine rw_q rfl rfl rfl (dv NClient γ1 (ai who1 3).toNat rfl rfl Zf rfl Zf rfl rfl rfl Mm rfl Zo (fun _ => by first | assumption | omega)) ?_
   refine rw_q rfl rfl rfl (q_is (v' := .agg ⟨[.int .i64 (gt S1.1.c (ai who1 3).toNat).life, .int .i64 (gt S1.1.c (ai who1 3).toNat).time, .int .i64 (gt S1.1.c (ai who1 3).toNat).seq, (γ1 (ai who1 3).toNat).1.val (gt S1.1.c (ai who1 3).toNat).pending.length, .int .i64 (gt S1.1.c (ai who1 3).toNat).version, (γ1 (ai who1 3).toNat).2.1.val (gt S1.1.c (ai who1 3).toNat).v.roots.length, (γ1 (ai who1 3).toNat).2.2.1.val (gt S1.1.c (ai who1 3).toNat).v.known.length, (γ1 (ai who1 3).toNat).2.2.2.val (gt S1.1.c (ai who1 3).toNat).v.way.length]⟩) (fK NClient γ1 rfl rfl Zf rfl rfl Mm (fun _ => by first | assumption | omega)) rfl) ?_
   refine ay (F := RdL EOp (γ1 (ai who1 3).toNat).1 (gt S1.1.c (ai who1 3).toNat).pending) [ao NClient γ1 S1.1.c] Sm (fun M w h => (allF1 h) (ai who1 3).toNat Zc _ (.head _)) ?_
   refine ay (F := RdL EInt (γ1 (ai who1 3).toNat).2.1 (gt S1.1.c (ai who1 3).toNat).v.roots) [ao NClient γ1 S1.1.c] Sm (fun M w h => (allF1 h) (ai who1 3).toNat Zc _ (.tail _ (.head _))) ?_
   refine ay (F := RdL EPlace (γ1 (ai who1 3).toNat).2.2.1 (gt S1.1.c (ai who1 3).toNat).v.known) [ao NClient γ1 S1.1.c] Sm (fun M w h => (allF1 h) (ai who1 3).toNat Zc _ (.tail _ (.tail _ (.head _)))) ?_
   refine ay (F := RdL EPlace (γ1 (ai who1 3).toNat).2.2.2 (gt S1.1.c (ai who1 3).toNat).v.way) [ao NClient γ1 S1.1.c] Sm (fun M w h => (allF1 h) (ai who1 3).toNat Zc _ (.tail _ (.tail _ (.tail _ (.head _))))) ?_
   refine Rp rfl rfl rfl rfl ?_
   refine Cl (jV (γ1 (ai who1 3).toNat).1 (γ1 (ai who1 3).toNat).2.1 (γ1 (ai who1 3).toNat).2.2.1 (γ1 (ai who1 3).toNat).2.2.2 (gt S1.1.c (ai who1 3).toNat) (ai who1 3)) fun x3 => ?_
   generalize hS3 : (cK (gt S1.1.c (ai who1 3).toNat) (ai who1 3)) = S3
   refine Tx ?_
   refine Al fun g4 => ?_
   refine Tx ?_
   refine Cd (b := ((S2.2 != 0) || (S3.2 != 0))) (fun hc3 => ?_) fun hc3 => ?_
   ·refine Tx ?_
    refine ak ?_; simp only [dF, hS1, hc1, hc2, hS2, hS3, hc3, Cb, Cf]; exact Re () (Vt Vn)
   ·refine Tx ?_
    refine Cl (nI x2 S2.1 parent1 node1) fun _ => ?_
    generalize hS4 : (fi S2.1 parent1 node1) = S4
    refine Tx ?_
    refine c6 (fun hG_ => (fun y1 a y2 b => dm y1 y2 a b) x2 S2.1 x3 S3.1) Zf .sq (eJ rfl rfl rfl) rfl rfl rfl Kr rfl Bt Sm ?_
    refine Tx ?_
    refine c6 (fun hG_ => eK x3 S3.1 node1) Zf .sq (eJ rfl rfl rfl) rfl rfl rfl Kr rfl Bt Sm ?_
    refine Tx ?_
    refine rw_qg (eJ rfl rfl rfl) rfl rfl (q_eqE lb (ie (cH S3.1 node1) (⟨node1, parent1, name1⟩ : Place)) rfl rfl Bt rfl Bt rfl rfl) ?_
    refine Tx ?_
    refine ak ?_; simp only [dF, hS1, hc1, hc2, hS2, hS3, hc3, hS4, Cb, Cf]; exact Re () (Vt Vn)
end Go.Proofs.YtgkggkgdceapgaaGreatDoor

namespace Go.Proofs.YtgkggkgdceapgaaGreatDoor
open Go Go.Proofs.YtgkggkgdceapgaaGreatDoor.Fw Go.Proofs
theorem Hap.moved {w w' : Wld} {l l' : List Rec} {x : Happening} (h : Hap w l x w' l') (hx : x.kind = 1) : (0 ≤ x.who ∧ x.who < 3) ∧ (bs (gt w.c x.who.toNat) x.who x.node x.parent x.name).2.2 = 0 ∧
  w' = ⟨w.h, w.d, w.up, w.c.set x.who.toNat (bs (gt w.c x.who.toNat) x.who x.node x.parent x.name).1, posted w.mail (uh x.who (bs (gt w.c x.who.toNat) x.who x.node x.parent x.name).2.1)⟩ := by
 cases h with
 | move _ hw h0 => exact ⟨hw, h0, rfl⟩
 | hear h _ _ _ _ _ => omega
 | got h _ _ _ _ _ _ => omega
 | late h _ _ _ _ _ _ => omega
 | lose h _ => omega
 | crash h _ => omega
 | boot h _ _ => omega
 | again h _ _ => omega
 | began h _ _ _ _ => omega
 | roots h _ _ _ => omega
 | shown h _ _ _ _ => omega
theorem uT (w : Wld) (who node parent name : Int) : dF w who node parent name = true := by
 unfold dF
 rw [iV]
 generalize ai who 3 = me
 cases h1 : ((!true) || ((aK w ⟨1, me, 0, node, parent, name, []⟩).2 != 0)) with
 | true => rfl
 | false =>
 rw [cond_false]
 obtain ⟨b1, b2, b3⟩ := qY (ag (Bool.or_eq_false_iff.1 h1).2)
 obtain ⟨l, h⟩ := (dV w).1 b1
 obtain ⟨l', hp⟩ := mU h b2
 obtain ⟨hw, h0, hy⟩ := hp.moved rfl
 simp only at hw h0 hy
 obtain ⟨hc, h4, h5, h6, h7, h8, h9⟩ := qc h0
 have hd := n9 hc h4 h5 h6 h7 h8
 rw [b3, hy, h9]
 have hlt : me.toNat < w.c.length := by rw [h.three]; omega
 have eg : ∀ c, gt (w.c.set me.toNat c) me.toNat = c := fun c => by rw [oo hlt, if_pos rfl]
 simp only [eg, iJ, sB hc, sB hd]
 have hT := qO (gt w.c me.toNat).pending _ hc.view.all hc.ops
 simp only [gv, qP, pz, hQ]
 have hm := hC (mM hT h8)
 have hu := hm.under
 simp only at hu
 rw [hu]
 have e2 : (((gt w.c me.toNat).pending.length : Int) + ((0 + 1 : Nat) : Int) != ((gt w.c me.toNat).pending.length : Int) + 1) = false := by simp
 simp only [bne_self_eq_false, List.length_append, List.length_cons, List.length_nil, Int.natCast_add, e2, Bool.not_true, Bool.or_self, cond_false]
 cases h10 : stands (does (bZ (gt w.c me.toNat).v) (gt w.c me.toNat).pending) parent node with
 | true =>
  have e3 := oa hT h8
  simp only at e3
  rw [h10, cond_true] at e3
  rw [e3]; simp
 | false =>
  have h11 := hm.did
  simp only at h11
  rw [h10] at h11
  have h12 := hm.node h11
  simp only at h12
  simp [h12, ei]
end Go.Proofs.YtgkggkgdceapgaaGreatDoor
