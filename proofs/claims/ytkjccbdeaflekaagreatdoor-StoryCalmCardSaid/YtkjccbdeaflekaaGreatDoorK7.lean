/- Part of this claim. No condition. -/
import Derived.Test.YtkjccbdeaflekaaGreatDoorK6
import Derived.Test.YtkjccbdeaflekaaGreatDoorK4
import Derived.Test.YtkjccbdeaflekaaGreatDoorK3
import Derived.Lib.SplitLaws
import Derived.Lib.ItoaMem
import Derived.Lib.AtoiAllCases
import Derived.Lib.ParseIntBTie
import Derived.Lib.LaidTab
import Derived.Test.YtkjccbdeaflekaaGreatDoorK5
set_option linter.unusedVariables false
set_option linter.unusedSimpArgs false
set_option maxHeartbeats 2000000
namespace Go.Proofs.YtkjccbdeaflekaaGreatDoor
open Go Go.Proofs.YtkjccbdeaflekaaGreatDoor.Fw Go.Proofs
attribute [local irreducible] RdL RdN VarP RW CW
theorem jV (x : SlV) (l : List (NPeer.G × Peer)) : DoesG Tryz.prog 129 [x.val l.length] [RdL NPeer.E x l] ⟨[], []⟩ (fun (X : SlV × Option Nat) => X.1.val l.length) (fun _ => []) (fun X => ⟨[], [ownL NPeer.E 84 X.1 X.2 l]⟩) := by
 refine Dq aK Tryz.func129 Tryz.ntmps129 Tryz.results129 fun C => ?_
 refine dx (φ := l.length * NPeer.E.by_ ≤ 140737488355328) [RdL NPeer.E x l] Sm (fun M w h => (allF1 h).len) fun hlen => ?_
 refine Sy Tz (jZ rfl rfl Zf rfl) ?_
 refine dD ?_
 (repeat refine aD ?_); refine ij rfl rfl (fun hc0 => ?_) (fun hc0 => ?_)
 ·refine dx [RdL NPeer.E x l] Sm (fun M w h => (allF1 h).nil_of hc0) fun hnil => ?_
  subst hnil
  refine cw_le (eH NPeer.E 84) ?_
  refine Tx ?_
  (repeat refine aD ?_); refine di ?_
  exact ⟨(⟨none, 0⟩, none), _, (.cons (.tmp rfl) .nil), rfl, .nil _, .nil _, Sp⟩
 ·refine Bl NPeer.E [] fun x1 x1b => ?_
  refine Rp rfl rfl rfl rfl ?_
  refine iC NPeer.E [] l (b := x1b) .sq (fun _ _ => .inl ⟨_, rfl⟩) (al rfl) rfl rfl rfl rfl rfl rfl rfl (fun _ _ => Uo) rfl rfl rfl rfl rfl rfl rfl (kP Mm) (by simpa using hlen) fun x2 x2b => ?_
  refine Tx ?_
  (repeat refine aD ?_); refine di ?_
  exact ⟨(x2, x2b), _, (.cons (.tmp rfl) .nil), rfl, .nil _, .nil _, Sp⟩
theorem kF (x : SlV) (γ : Nat → NPeer.G) (l : List Peer) : DoesG Tryz.prog 129 [x.val l.length] [RdG NPeer x γ l] ⟨[], []⟩ (fun (X : SlV × Option Nat) => X.1.val l.length) (fun _ => []) (fun X => ⟨[], [ownL NPeer.E 84 X.1 X.2 (zipG γ 0 l)]⟩) := by
 have := jV x (zipG γ 0 l)
 rw [cv] at this
 exact this
def es  : List Peer → Int
 | [] => 0
 | pn1 :: rn1 => (bif (((decide (pn1.life < 0) || decide (pn1.life > 50)) || decide (pn1.seq < 0)) || decide (pn1.seq > 30)) then 3 else (bif ((pn1.life == 0) && (decide (pn1.seq > 0) || decide ((pn1.roots.length : Int) > 0))) then 4 else (bif ((bF pn1.roots) != 0) then (bF pn1.roots) else (es rn1))))
def c8 (h1 : Hub) : Int :=
 (bif ((bk h1.h) != 0) then (bk h1.h) else (bif (decide (h1.version < 0) || decide (h1.version > 60)) then 3 else (bif ((h1.peers.length : Int) != 3) then 4 else (es h1.peers))))
theorem lJ (y1 : SlV) (y2 : SlV) (y3 : SlV) (h1 : Hub) : Does Tryz.prog 205 [.agg ⟨cB y1 y2 y3 h1⟩] [RdL EStep y1 h1.h.l, RdL EPlace y2 h1.h.t, RdN NPeer y3 h1.peers] (fun (_ : Unit) => .int .i64 (c8 h1)) (fun _ => []) := by
 refine Dp aK Tryz.func205 Tryz.ntmps205 Tryz.results205 fun C => ?_
 refine Pc EStep y1 h1.h.l 88 fun hlen1 => ?_
 refine Pc EPlace y2 h1.h.t 24 fun hlen2 => ?_
 refine Pn NPeer y3 h1.peers 40 fun hlen3 => ?_
 refine BxT fun g1 => ?_
 refine Ck (ml y1 y2 h1.h) fun _ => ?_
 have hf := Ri (c8.eq_1 h1)
 refine Cn hf (fun hc1 hc1p hf => ?_) fun hc1 hc1p hf => ?_
 ·exact Ru
 ·refine Ch hf (fun hc2 hf => ?_) fun hc2 hf => ?_
  ·exact Ru
  ·refine Cn hf (fun hc3 hc3p hf => ?_) fun hc3 hc3p hf => ?_
   ·exact Ru
   ·refine Lq Nat [2,26,27] [true] (fun n1 => ⟨[(28, .v (.int .i64 (n1 : Int)))], [], [], [], (n1 ≤ h1.peers.length) ∧ (es (h1.peers.drop n1)) = (c8 h1), h1.peers.length - n1⟩) 0 ⟨Nat.zero_le _, hf.symm⟩ ?_
    rintro n1 ⟨hkn1, hf1⟩
    simp only [Lc]
    refine Cu (fun hlt0 => ?_) fun hge0 => ?_
    ·refine Tx ?_
     refine fl NPeer (X := y3) (l := h1.peers) Mm fun (γ1 : Nat → SlV) => ?_
     refine Sq (Xn NPeer n1) ?_
     refine Sq (q_is (v' := .agg ⟨cE (γ1 n1) (gt h1.peers n1)⟩) (fY NPeer γ1 rfl rfl Zf rfl rfl Mm (fun _ => by first | assumption | omega)) rfl) ?_
     refine Fg NPeer γ1 h1.peers n1 0 ?_
     refine AlT fun g2 => ?_
     have hf := Ri hf1.symm
     rw [bd hlt0, es] at hf
     refine Ch hf (fun hc5 hf => ?_) fun hc5 hf => ?_
     ·exact Ru
     ·refine Ch hf (fun hc6 hf => ?_) fun hc6 hf => ?_
      ·exact Ru
      ·refine Ck (gr (γ1 n1) (gt h1.peers n1).roots) fun _ => ?_
       refine Cn hf (fun hc7 hc7p hf => ?_) fun hc7 hc7p hf => ?_
       ·exact Ru
       ·refine Tt ?_
        refine ⟨(n1 + 1), ⟨hlt0, hf.symm⟩, Oo, Le4⟩
    ·have hf := Ri hf1.symm
     rw [List.drop_of_length_le hge0, es] at hf
     exact Ru
theorem eT {h : Hub} (hc : c8 h = 0) : bk h.h = 0 ∧ 0 ≤ h.version ∧ h.version ≤ 60 ∧ h.peers.length = 3 := by
 unfold c8 at hc
 cases h1 : (bk h.h != 0) with
 | true => rw [h1, cond_true] at hc; rw [hc] at h1; cases h1
 | false =>
 rw [h1, cond_false] at hc
 cases h2 : (decide (h.version < 0) || decide (h.version > 60)) with
 | true => rw [h2, cond_true] at hc; cases hc
 | false =>
 rw [h2, cond_false] at hc
 cases h3 : ((h.peers.length : Int) != 3) with
 | true => rw [h3, cond_true] at hc; cases hc
 | false =>
 simp only [Bool.or_eq_false_iff, decide_eq_false_iff_not] at h2
 exact ⟨ai h1, by omega, by omega, by have := ai h3; omega⟩
def eS (h1 : Hub) : List Peer → Nat → (List Peer) → Hub
 | [], n1, l1 => (⟨h1.h, h1.version, l1⟩ : Hub)
 | pn1 :: rn1, n1, l1 => (eS h1 rn1 (n1 + 1) (l1.set n1 (gt l1 n1)))
def gL (h1 : Hub) : Hub :=
 (eS h1 h1.peers 0 h1.peers)
theorem pQ (y1 : SlV) (y2 : SlV) (y3 : SlV) (h1 : Hub) : DoesG Tryz.prog 80 [.agg ⟨cB y1 y2 y3 h1⟩] [RdL EStep y1 h1.h.l, RdL EPlace y2 h1.h.t, RdN NPeer y3 h1.peers] ⟨[], []⟩ (fun (X : SlV × SlV × SlV × Option Nat × (Nat → SlV)) => .agg ⟨cB X.1 X.2.1 X.2.2.1 (gL h1)⟩) (fun X => [RdL EStep X.1 (gL h1).h.l, RdL EPlace X.2.1 (gL h1).h.t, FactsG NPeer X.2.2.2.2 (gL h1).peers]) (fun X => ⟨[], [ownL NPeer.E 84 X.2.2.1 X.2.2.2.1 (zipG X.2.2.2.2 0 (gL h1).peers)]⟩) := by
 refine Dq aK Tryz.func80 Tryz.ntmps80 Tryz.results80 fun C => ?_
 refine Pc EStep y1 h1.h.l 88 fun hlen1 => ?_
 refine Pc EPlace y2 h1.h.t 24 fun hlen2 => ?_
 refine Pn NPeer y3 h1.peers 40 fun hlen3 => ?_
 refine BxT fun g1 => ?_
 refine AlT fun g2 => ?_
 refine dD ?_
 (repeat refine aD ?_); refine ap (fun j => match j with | 7 => some [g1] | 9 => some [g1] | _ => some []) ?_
 refine Dx [0,1,3,4] ?_
 refine Rn 2 ?_
 refine Cm (jG y1 y2 h1.h) fun x1 => ?_
 refine Pr EPlace x1.2.2 h1.h.t 24 fun hlen4 => ?_
 refine Ra 6 rfl Qp ?_
 refine Rn 5 ?_
 refine fl NPeer (X := y3) (l := h1.peers) Mm fun (γ1 : Nat → SlV) => ?_
 refine Cm (kF y3 γ1 h1.peers) fun x2 => ?_
 refine Rn 7 ?_
 refine Wp ?_
 refine Ra 8 rfl Qp ?_
 refine Rn 9 ?_
 refine W1 ?_
 refine Re0 ?_
 refine Lq (List Peer × (Nat → SlV) × Nat) [1,2,15] [true, false] (fun ⟨l1, γ2, n1⟩ => ⟨[(14, .v (x2.1.val l1.length)), (16, .v (.int .i64 (n1 : Int)))], [⟨g1, 30, [x1.1.val h1.h.l.length, x1.2.2.val h1.h.t.length, .int .i64 h1.version, x2.1.val l1.length]⟩], [ownL NPeer.E 84 x2.1 x2.2 (zipG γ2 0 l1), ownL EStep 157 x1.1 x1.2.1 h1.h.l], [FactsG NPeer γ2 l1], (n1 ≤ h1.peers.length) ∧ (l1.length = h1.peers.length) ∧ (eS h1 (h1.peers.drop n1) n1 l1) = (gL h1), h1.peers.length - n1⟩) ⟨h1.peers, γ1, 0⟩ ⟨Nat.zero_le _, rfl, (by simp only [gL, Cf] : (gL h1) = (eS h1 h1.peers 0 h1.peers)).symm⟩ ?_
 rintro ⟨l1, γ2, n1⟩ ⟨hkn1, hll, hf1⟩
 simp only [Lc]
 refine Cu (fun hlt0 => ?_) fun hge0 => ?_
 ·refine Tx ?_
  refine Oq NPeer.E x2.1 (zipG γ2 0 l1) .sq (fm NPeer γ2 n1 rfl rfl Zf rfl Zf rfl rfl rfl (.head _) rfl Zf Za) ?_
  refine Oq NPeer.E x2.1 (zipG γ2 0 l1) .sq (q_is (v' := .agg ⟨cE (γ2 n1) (gt l1 n1)⟩) (fY NPeer γ2 rfl rfl Zf rfl rfl (.head _) Za) rfl) ?_
  refine Fg NPeer γ2 l1 n1 0 ?_
  refine AlT fun g3 => ?_
  refine Tx ?_
  (repeat refine aD ?_); refine ap (fun j => match j with | 8 => some x2.2.toList | _ => some []) ?_
  refine Dx [0,1,2,3,4] ?_
  refine Rn 5 ?_
  refine Cm (bX (γ2 n1) (gt l1 n1).roots) fun x5 => ?_
  refine Oq NPeer.E x2.1 (zipG γ2 0 l1) (Fb 6 []) (fm NPeer γ2 n1 rfl rfl Zf rfl Zf rfl rfl rfl (.head _) rfl Zf Za) ?_
  refine Ra 7 rfl Xf ?_
  refine Rn 8 ?_
  refine rw_le (ar EInt 3 x5.1 x5.2 (gt l1 n1).roots Uo) ?_
  refine Wn NPeer γ2 l1 n1 2 x5.1 (gt l1 n1) x2.2 ?_
  refine Fu NPeer γ2 l1 n1 x5.1 (gt l1 n1) ?_
  have hv1 : x2.1.val l1.length = x2.1.val (l1.set n1 (gt l1 n1)).length := congrArg (SlV.val x2.1) List.length_set.symm
  try rw [hv1]
  refine Re0 ?_
  refine Tt ?_
  refine ⟨⟨(l1.set n1 (gt l1 n1)), (updG γ2 n1 x5.1), (n1 + 1)⟩, ⟨hlt0, (by (try simp only [List.length_set]); omega), (by rw [← hf1, bd hlt0]; simp only [eS, Cf] : (gL h1) = (eS h1 (h1.peers.drop (n1 + 1)) (n1 + 1) (l1.set n1 (gt l1 n1)))).symm⟩, Oo, Le4⟩
 ·refine Tx ?_
  refine cw_le (ar EStep 157 x1.1 x1.2.1 h1.h.l Uo) ?_
  have hf := Ri hf1.symm
  rw [List.drop_of_length_le hge0, eS] at hf
  refine Rx ?_; exact Re ⟨x1.1, x1.2.2, x2.1, x2.2, γ2⟩ Rv
theorem lI (h : Hub) : ∀ (r : List Peer) (n : Nat) (l : List Peer), eS h r n l = ⟨h.h, h.version, l⟩
 | [], _, _ => rfl
 | _ :: r, n, l => by
  have : l.set n (gt l n) = l := by
   by_cases h : n < l.length
   ·rw [gt_eq h]; exact List.set_getElem_self h
   ·exact List.set_eq_of_length_le (Nat.le_of_not_lt h)
  rw [eS, this]; exact lI h r (n + 1) l
theorem rD (h : Hub) : gL h = h := lI h _ 0 h.peers
theorem lH (y1 : SlV) (y2 : SlV) (y3 : SlV) (h1 : Hub) : DoesG Tryz.prog 80 [.agg ⟨cB y1 y2 y3 h1⟩] [RdL EStep y1 h1.h.l, RdL EPlace y2 h1.h.t, RdN NPeer y3 h1.peers] ⟨[], []⟩ (fun (X : SlV × SlV × SlV × Option Nat × (Nat → SlV)) => .agg ⟨cB X.1 X.2.1 X.2.2.1 h1⟩) (fun X => [RdL EStep X.1 h1.h.l, RdL EPlace X.2.1 h1.h.t, FactsG NPeer X.2.2.2.2 h1.peers]) (fun X => ⟨[], [ownL NPeer.E 84 X.2.2.1 X.2.2.2.1 (zipG X.2.2.2.2 0 h1.peers)]⟩) := by
 have := pQ y1 y2 y3 h1
 rw [rD] at this
 exact this
def aH (r1 : Rec) : Int :=
 (bif (decide (r1.kind < 1) || decide (r1.kind > 3)) then 4 else (bif (r1.kind == 1) then (bif (((r1.who != 0) || (r1.life != 0)) || decide ((r1.roots.length : Int) > 0)) then 4 else (co r1.o)) else (bif (((!(decide (r1.o = (⟨0, 0, 0, 0, 0, 0, 0⟩ : Op)))) || ((r1.kind == 3) && (r1.life != 0))) || ((r1.kind == 2) && decide ((r1.roots.length : Int) > 0))) then 4 else (bif ((decide (r1.who < 0) || decide (r1.who ≥ 3)) || ((r1.kind == 2) && (decide (r1.life < 1) || decide (r1.life > 50)))) then 3 else (bF r1.roots)))))
theorem fB (y1 : SlV) (r1 : Rec) : Does Tryz.prog 155 [.agg ⟨cR y1 r1⟩] [RdL EInt y1 r1.roots] (fun (_ : Unit) => .int .i64 (aH r1)) (fun _ => []) := by
 refine Dp aK Tryz.func155 Tryz.ntmps155 Tryz.results155 fun C => ?_
 refine Pc EInt y1 r1.roots 8 fun hlen1 => ?_
 refine BxT fun g1 => ?_
 have hf := Ri (aH.eq_1 r1)
 refine Ch hf (fun hc1 hf => ?_) fun hc1 hf => ?_
 ·exact Ru
 ·refine Ce hf (fun hc2 hc2p hf => ?_) fun hc2 hc2p hf => ?_
  ·refine Ch hf (fun hc3 hf => ?_) fun hc3 hf => ?_
   ·exact Ru
   ·refine Ck (dN r1.o) fun _ => ?_
    exact Ru
  ·refine Sy Tz (q_neE wm (qT r1.o (⟨0, 0, 0, 0, 0, 0, 0⟩ : Op)) rfl rfl Zf rfl Zf rfl rfl) ?_
   refine Ch hf (fun hc4 hf => ?_) fun hc4 hf => ?_
   ·exact Ru
   ·refine Ch hf (fun hc5 hf => ?_) fun hc5 hf => ?_
    ·exact Ru
    ·refine Ck (gr y1 r1.roots) fun _ => ?_
     exact Ru
def fK (x1 : Peer) (y1 : Peer) : Bool :=
 (((x1.life == y1.life) && (x1.seq == y1.seq)) && (decide (x1.roots = y1.roots)))
theorem oh (y2 : SlV) (x1 : Peer) (y3 : SlV) (y1 : Peer) : Does Tryz.prog 111 [.agg ⟨cE y2 x1⟩, .agg ⟨cE y3 y1⟩] [RdL EInt y2 x1.roots, RdL EInt y3 y1.roots] (fun (_ : Unit) => .bool (fK x1 y1)) (fun _ => []) := by
 refine Dp aK Tryz.func111 Tryz.ntmps111 Tryz.results111 fun C => ?_
 refine Pc EInt y2 x1.roots 8 fun hlen1 => ?_
 refine Pc EInt y3 y1.roots 8 fun hlen2 => ?_
 refine BxT fun g1 => ?_
 refine BxT fun g2 => ?_
 refine Cy (fun hG_ => (fun y1 a y2 b => dc y1 y2 a b) y2 x1.roots y3 y1.roots) ?_
 have hf := Ri (fK.eq_1 x1 y1)
 exact Ru
def bw (s2 : List Peer) (eq1 : Peer → Peer → Bool) : List Peer → Nat → Bool
 | [], n1 => true
 | pn1 :: rn1, n1 => (bif (!(eq1 pn1 (gt s2 n1))) then false else (bw s2 eq1 rn1 (n1 + 1)))
def c7 (s1 : List Peer) (s2 : List Peer) (eq1 : Peer → Peer → Bool) : Bool :=
 (bif ((s1.length : Int) != (s2.length : Int)) then false else (bw s2 eq1 s1 0))
theorem i7 (y1 : SlV) (s1 : List Peer) (y2 : SlV) (s2 : List Peer) (f1 : Nat) (caps1 : List Value) (pre1 : List Pred) [StabL pre1] (eq1 : Peer → Peer → Bool) (hfb1 : tab.fnb f1 = true) (hfn1 : ∀ (z0a_ : SlV) (a0_ : Peer) (z1a_ : SlV) (a1_ : Peer), Does Tryz.prog f1 ([.agg ⟨cE z0a_ a0_⟩, .agg ⟨cE z1a_ a1_⟩] ++ caps1) (RdL EInt z0a_ a0_.roots :: RdL EInt z1a_ a1_.roots :: pre1) (fun (_ : Unit) => .bool (eq1 a0_ a1_)) (fun _ => [])) : Does Tryz.prog 93 [y1.val s1.length, y2.val s2.length, .func (.func f1) #[] ⟨caps1⟩] (RdN NPeer y1 s1 :: RdN NPeer y2 s2 :: pre1) (fun (_ : Unit) => .bool (c7 s1 s2 eq1)) (fun _ => []) := by
 refine Dp aK Tryz.func93 Tryz.ntmps93 Tryz.results93 fun C => ?_
 refine dx (φ := s1.length * 40 ≤ 140737488355328) [RdN NPeer y1 s1] Sf (fun M w h => (allF1 h).len) fun hlen1 => ?_
 refine dx (φ := s2.length * 40 ≤ 140737488355328) [RdN NPeer y2 s2] Sf (fun M w h => (allF1 h).len) fun hlen2 => ?_
 have hf := Ri (c7.eq_1 s1 s2 eq1)
 refine Cn hf (fun hc1 hc1p hf => ?_) fun hc1 hc1p hf => ?_
 ·refine Tx ?_
  refine di ?_
  rw [hf.to]
  exact ⟨(), _, (.cons (.tmp rfl) .nil), rfl, Sf, .nil _, .nil _⟩
 ·refine Lq Nat [1,2,6,15,16] [] (fun n1 => ⟨[(17, .v (.int .i64 (n1 : Int)))], [], [], [], (n1 ≤ s1.length) ∧ (bw s2 eq1 (s1.drop n1) n1) = (c7 s1 s2 eq1), s1.length - n1⟩) 0 ⟨Nat.zero_le _, hf.symm⟩ ?_
  rintro n1 ⟨hkn1, hf1⟩
  simp only [Lc]
  refine Cu (fun hlt0 => ?_) fun hge0 => ?_
  ·refine Tx ?_
   refine fl NPeer (X := y1) (l := s1) Mm fun (γ1 : Nat → SlV) => ?_
   refine Sq (Xn NPeer n1) ?_
   refine Sq (q_is (v' := .agg ⟨cE (γ1 n1) (gt s1 n1)⟩) (fY NPeer γ1 rfl rfl Zf rfl rfl Mm (fun _ => by first | assumption | omega)) rfl) ?_
   refine Fg NPeer γ1 s1 n1 0 ?_
   refine AlT fun g1 => ?_
   refine Tx ?_
   refine fl NPeer (X := y2) (l := s2) Mm fun (γ2 : Nat → SlV) => ?_
   refine Sq (Xn NPeer n1) ?_
   refine Sq (q_is (v' := .agg ⟨cE (γ2 n1) (gt s2 n1)⟩) (fY NPeer γ2 rfl rfl Zf rfl rfl Mm (fun _ => by first | assumption | omega)) rfl) ?_
   refine Fg NPeer γ2 s2 n1 0 ?_
   refine AlT fun g2 => ?_
   refine Tx ?_
   refine gv (hfn1 (γ1 n1) (gt s1 n1) (γ2 n1) (gt s2 n1)) .sq (al rfl) rfl rfl rfl rfl rfl (by assumption) rfl rfl rfl Sf ?_
   intro _
   have hf := Ri hf1.symm
   rw [bd hlt0, bw] at hf
   refine Ch hf (fun hc3 hf => ?_) fun hc3 hf => ?_
   ·refine Tx ?_
    refine di ?_
    rw [hf.to]
    exact ⟨(), _, (.cons (.tmp rfl) .nil), rfl, Sf, .nil _, .nil _⟩
   ·refine Tt ?_
    refine ⟨(n1 + 1), ⟨hlt0, hf.symm⟩, Oo, Le5⟩
  ·refine Tx ?_
   have hf := Ri hf1.symm
   rw [List.drop_of_length_le hge0, bw] at hf
   refine di ?_
   rw [hf.to]
   exact ⟨(), _, (.cons (.tmp rfl) .nil), rfl, Sf, .nil _, .nil _⟩
def gA (a1 : Hub) (b1 : Hub) : Bool :=
 (((d8 a1.h b1.h) && (a1.version == b1.version)) && (c7 a1.peers b1.peers fK))
theorem mg (y1 : SlV) (y2 : SlV) (y3 : SlV) (a1 : Hub) (y4 : SlV) (y5 : SlV) (y6 : SlV) (b1 : Hub) : Does Tryz.prog 65 [.agg ⟨cB y1 y2 y3 a1⟩, .agg ⟨cB y4 y5 y6 b1⟩] [RdL EStep y1 a1.h.l, RdL EPlace y2 a1.h.t, RdN NPeer y3 a1.peers, RdL EStep y4 b1.h.l, RdL EPlace y5 b1.h.t, RdN NPeer y6 b1.peers] (fun (_ : Unit) => .bool (gA a1 b1)) (fun _ => []) := by
 refine Dp aK Tryz.func65 Tryz.ntmps65 Tryz.results65 fun C => ?_
 refine Pc EStep y1 a1.h.l 88 fun hlen1 => ?_
 refine Pc EPlace y2 a1.h.t 24 fun hlen2 => ?_
 refine Pn NPeer y3 a1.peers 40 fun hlen3 => ?_
 refine Pc EStep y4 b1.h.l 88 fun hlen4 => ?_
 refine Pc EPlace y5 b1.h.t 24 fun hlen5 => ?_
 refine Pn NPeer y6 b1.peers 40 fun hlen6 => ?_
 refine BxT fun g1 => ?_
 refine BxT fun g2 => ?_
 refine Ck (jF y1 y2 a1.h y4 y5 b1.h) fun _ => ?_
 refine Cy (fun hG_ => i7 y3 a1.peers y6 b1.peers _ _ _ fK Kr (fun z0a_ a0_ z1a_ a1_ => oh z0a_ a0_ z1a_ a1_)) ?_
 have hf := Ri (gA.eq_1 a1 b1)
 exact Ru
def aV (h1 : Hub) (who1 : Int) : View × Int :=
 (bif ((c8 h1) != 0) then ((⟨[], [], []⟩ : View), (c8 h1)) else (bif (decide (who1 < 0) || decide (who1 ≥ 3)) then ((⟨[], [], []⟩ : View), 5) else ((bR h1.h.t (gt h1.peers who1.toNat).roots).1, (bR h1.h.t (gt h1.peers who1.toNat).roots).2)))
theorem kg (y1 : SlV) (y2 : SlV) (y3 : SlV) (h1 : Hub) (who1 : Int) : Does Tryz.prog 182 [.agg ⟨cB y1 y2 y3 h1⟩, .int .i64 who1] [RdL EStep y1 h1.h.l, RdL EPlace y2 h1.h.t, RdN NPeer y3 h1.peers] (fun (X : SlV × SlV × SlV) => .tuple #[.agg ⟨cV X.1 X.2.1 X.2.2 (aV h1 who1).1⟩, .int .i64 (aV h1 who1).2]) (fun X => [RdL EInt X.1 (aV h1 who1).1.roots, RdL EPlace X.2.1 (aV h1 who1).1.known, RdL EPlace X.2.2 (aV h1 who1).1.way]) := by
 refine Dp aK Tryz.func182 Tryz.ntmps182 Tryz.results182 fun C => ?_
 refine Pc EStep y1 h1.h.l 88 fun hlen1 => ?_
 refine Pc EPlace y2 h1.h.t 24 fun hlen2 => ?_
 refine Pn NPeer y3 h1.peers 40 fun hlen3 => ?_
 refine BxT fun g1 => ?_
 refine AlT fun g2 => ?_
 refine Ck (lJ y1 y2 y3 h1) fun _ => ?_
 have hf := Ri (aV.eq_1 h1 who1)
 refine Cn hf (fun hc1 hc1p hf => ?_) fun hc1 hc1p hf => ?_
 ·refine Tx ?_
  refine Fc EInt ?_
  refine Fc EPlace ?_
  refine Rx ?_; exact Re ⟨Z0, Z0, Z0⟩ Rv
 ·have hpl := eT (ai hc1)
  refine Ch hf (fun hc2 hf => ?_) fun hc2 hf => ?_
  ·refine Tx ?_
   refine Fc EInt ?_
   refine Fc EPlace ?_
   refine Rx ?_; exact Re ⟨Z0, Z0, Z0⟩ Rv
  ·have hwr := hc2
   simp only [Bool.or_eq_false_iff, decide_eq_false_iff_not] at hwr
   refine Tx ?_
   (repeat refine aD ?_); refine ap (fun j => match j with | 12 => some [g2] | _ => some []) ?_
   refine Dx (.range 6) ?_
   refine fl NPeer (X := y3) (l := h1.peers) Mm fun (γ1 : Nat → SlV) => ?_
   refine Rb 6 rfl (Xn NPeer who1.toNat) ?_
   refine Rb 7 rfl Xf ?_
   refine Rb 8 rfl (kQ NPeer γ1 (v := (γ1 who1.toNat).val (gt h1.peers who1.toNat).roots.length) rfl rfl Zf rfl rfl Mm (fun _ => by first | assumption | omega) rfl) ?_
   refine Fg NPeer γ1 h1.peers who1.toNat 0 ?_
   refine Rn 9 ?_
   refine Ck (gQ y2 h1.h.t (γ1 who1.toNat) (gt h1.peers who1.toNat).roots) fun x1 => ?_
   refine Pr EInt x1.1 (bR h1.h.t (gt h1.peers who1.toNat).roots).1.roots 8 fun hlen4 => ?_
   refine Pr EPlace x1.2.1 (bR h1.h.t (gt h1.peers who1.toNat).roots).1.known 24 fun hlen5 => ?_
   refine Pr EPlace x1.2.2 (bR h1.h.t (gt h1.peers who1.toNat).roots).1.way 24 fun hlen6 => ?_
   refine Dx [10,11] ?_
   refine Rn 12 ?_
   refine Wa ?_
   refine Ra 13 rfl Qp ?_
   refine Re0 ?_
   refine Rx ?_; exact Re ⟨x1.1, x1.2.1, x1.2.2⟩ Rv
def bH  : Hub :=
 (⟨(⟨[], []⟩ : History), 0, [(⟨0, 0, ([] : List Int)⟩ : Peer), (⟨0, 0, ([] : List Int)⟩ : Peer), (⟨0, 0, ([] : List Int)⟩ : Peer)]⟩ : Hub)
theorem jc  : Does Tryz.prog 70 [] [] (fun (X : SlV × SlV × SlV) => .agg ⟨cB X.1 X.2.1 X.2.2 bH⟩) (fun X => [RdL EStep X.1 bH.h.l, RdL EPlace X.2.1 bH.h.t, RdN NPeer X.2.2 bH.peers]) := by
 refine Dp aK Tryz.func70 Tryz.ntmps70 Tryz.results70 fun C => ?_
 refine AlT fun g1 => ?_
 refine Tx ?_
 refine lP NPeer.E (zipG (fun _ => Z0) 0 [(⟨0, 0, ([] : List Int)⟩ : Peer), (⟨0, 0, ([] : List Int)⟩ : Peer), (⟨0, 0, ([] : List Int)⟩ : Peer)]) .sq (al rfl) rfl rfl rfl rfl rfl rfl rfl rfl rfl rfl rfl rfl rfl rfl rfl rfl rfl fun x1 x1b => ?_
 refine Fr EInt ?_
 refine dU (F := FactsG NPeer (fun _ => Z0) [(⟨0, 0, ([] : List Int)⟩ : Peer), (⟨0, 0, ([] : List Int)⟩ : Peer), (⟨0, 0, ([] : List Int)⟩ : Peer)]) [RdL EInt Z0 ([] : List Int)] Sm (fun M w h => FactsG.const NPeer (by intro a ha; simp only [List.mem_cons, List.not_mem_nil, or_false, or_self] at ha; subst ha; exact eC Sm h)) ?_
 refine Tx ?_
 refine Fc EStep ?_
 refine Fc EPlace ?_
 refine cw_le (ar NPeer.E 84 x1 x1b (zipG (fun _ => Z0) 0 [(⟨0, 0, ([] : List Int)⟩ : Peer), (⟨0, 0, ([] : List Int)⟩ : Peer), (⟨0, 0, ([] : List Int)⟩ : Peer)]) Uo) ?_
 refine Fj NPeer x1 (fun _ => Z0) [(⟨0, 0, ([] : List Int)⟩ : Peer), (⟨0, 0, ([] : List Int)⟩ : Peer), (⟨0, 0, ([] : List Int)⟩ : Peer)] ?_
 have hf := Ri bH.eq_1
 refine Rx ?_; exact Re ⟨Z0, Z0, x1⟩ Rv
end Go.Proofs.YtkjccbdeaflekaaGreatDoor

namespace Go.Proofs.YtkjccbdeaflekaaGreatDoor.Fw
open Go
def spl (c : UInt8) : Str → List Str
 | [] => [[]]
 | b :: r => bif b == c then [] :: spl c r else match spl c r with | [] => [[b]] | h :: t => (b :: h) :: t
def cutc (c : UInt8) : Str → Str × Str × Bool
 | [] => ([], [], false)
 | b :: r => bif b == c then ([], r, true) else (b :: (cutc c r).1, (cutc c r).2.1, (cutc c r).2.2)
theorem idx1 (c : UInt8) : ∀ s : Str, (Lib.index s [c] = -1 ∧ c ∉ s) ∨ ∃ p r, s = p ++ c :: r ∧ c ∉ p ∧ Lib.index s [c] = (p.length : Int)
 | [] => .inl ⟨rfl, by simp⟩
 | b :: l => by
  by_cases h : b = c
  ·subst h
   exact .inr ⟨[], l, rfl, by simp, by simp [Lib.index]⟩
  ·have hp : ([c] : Str).isPrefixOf (b :: l) = false := by simp [List.isPrefixOf, Ne.symm h]
   rcases idx1 c l with ⟨h1, h2⟩ | ⟨p, r, h1, h2, h3⟩
   ·exact .inl ⟨by rw [Lib.index, hp, h1]; rfl, by simp [Ne.symm h, h2]⟩
   ·refine .inr ⟨b :: p, r, by rw [h1]; rfl, by simp [Ne.symm h, h2], ?_⟩
    rw [Lib.index, hp, h3]
    have : ((p.length : Int) == -1) = false := by rw [beq_eq_false_iff_ne]; omega
    simp [this]
theorem sd {c : UInt8} : ∀ {s : Str}, c ∉ s → spl c s = [s]
 | [], _ => rfl
 | b :: r, h => by
  have h1 : (b == c) = false := by simp only [List.mem_cons, not_or] at h; simpa using Ne.symm h.1
  rw [spl, h1, cond_false, sd (by simp only [List.mem_cons, not_or] at h; exact h.2)]
theorem pA {c : UInt8} (r : Str) : ∀ {p : Str}, c ∉ p → spl c (p ++ c :: r) = p :: spl c r
 | [], _ => by simp [spl]
 | b :: p, h => by
  have h1 : (b == c) = false := by simp only [List.mem_cons, not_or] at h; simpa using Ne.symm h.1
  rw [List.cons_append, spl, h1, cond_false, pA r (by simp only [List.mem_cons, not_or] at h; exact h.2)]
theorem rN {c : UInt8} : ∀ {s : Str}, c ∉ s → cutc c s = (s, [], false)
 | [], _ => rfl
 | b :: r, h => by
  have h1 : (b == c) = false := by simp only [List.mem_cons, not_or] at h; simpa using Ne.symm h.1
  rw [cutc, h1, cond_false, rN (by simp only [List.mem_cons, not_or] at h; exact h.2)]
theorem pY {c : UInt8} (r : Str) : ∀ {p : Str}, c ∉ p → cutc c (p ++ c :: r) = (p, r, true)
 | [], _ => by simp [cutc]
 | b :: p, h => by
  have h1 : (b == c) = false := by simp only [List.mem_cons, not_or] at h; simpa using Ne.symm h.1
  rw [List.cons_append, cutc, h1, cond_false, pY r (by simp only [List.mem_cons, not_or] at h; exact h.2)]
theorem at_c (c : UInt8) (s : Str) : c ∉ s ∨ ∃ p r, s = p ++ c :: r ∧ c ∉ p := by
 rcases idx1 c s with ⟨_, h⟩ | ⟨p, r, h1, h2, _⟩
 ·exact .inl h
 ·exact .inr ⟨p, r, h1, h2⟩
theorem vL (c : UInt8) (s : Str) : Lib.cut s [c] = cutc c s := by
 unfold Lib.cut
 rcases idx1 c s with ⟨h1, h2⟩ | ⟨p, r, h1, h2, h3⟩
 ·rw [h1, if_neg (by omega), rN h2]
 ·rw [h3, if_pos (by omega), h1, pY r h2]
  simp
theorem o4 (c : UInt8) : ∀ (n : Nat) (s : Str), s.length ≤ n → Lib.splitK [c] 0 (Lib.count s [c]) s = spl c s
 | n, s, hn => by
  rcases idx1 c s with ⟨h1, h2⟩ | ⟨p, r, h1, h2, h3⟩
  ·rw [Lib.count_miss h1, sd h2]; rfl
  ·have hr : s.drop (p.length + ([c] : Str).length) = r := by rw [h1]; simp
   rw [Lib.count_hit (by simp) h3, hr, Nat.add_comm 1, Lib.splitK, h3]
   have : ((p.length : Int) == -1) = false := by rw [beq_eq_false_iff_ne]; omega
   rw [this]
   simp only [Int.toNat_natCast, hr]
   cases n with
   | zero => rw [h1] at hn; simp at hn
   | succ n =>
    rw [o4 c n r (by rw [h1] at hn; simp at hn; omega), h1, pA r h2]
    simp
theorem td (c : UInt8) (s : Str) : (Lib.splitB ⟨#[c]⟩ 0 (Lib.countB ⟨s.toArray⟩ ⟨#[c]⟩) ⟨s.toArray⟩).map Value.string = (spl c s).map sV := by
 have h := Lib.splitB_data ⟨#[c]⟩ 0 (Lib.countB ⟨s.toArray⟩ ⟨#[c]⟩) ⟨s.toArray⟩
 have h2 := o4 c s.length s (Nat.le_refl _)
 rw [show Lib.splitK (ByteArray.mk #[c]).data.toList 0 (Lib.countB ⟨s.toArray⟩ ⟨#[c]⟩) (ByteArray.mk s.toArray).data.toList = spl c s from h2] at h
 rw [← h, List.map_map]
 refine List.map_congr_left fun b _ => ?_
 simp [sV]
theorem rp (c : UInt8) : ∀ s : Str, 0 < (spl c s).length ∧ (spl c s).length ≤ s.length + 1
 | [] => by simp [spl]
 | b :: r => by
  have ih := rp c r
  rw [spl]
  cases b == c with
  | true => simp only [cond_true, List.length_cons]; omega
  | false =>
   simp only [cond_false]
   cases h : spl c r with
   | nil => simp
   | cons a t => rw [h] at ih; simp at ih ⊢; omega
theorem jQ {c : UInt8} : ∀ {s t : Str}, t ∈ spl c s → t.length ≤ s.length
 | [], t, h => by simp [spl] at h; simp [h]
 | b :: r, t, h => by
  rw [spl] at h
  cases hb : b == c with
  | true =>
   rw [hb, cond_true] at h
   rcases List.mem_cons.1 h with rfl | h
   ·simp
   ·have := jQ h; simp; omega
  | false =>
   rw [hb, cond_false] at h
   cases hs : spl c r with
   | nil => rw [hs] at h; simp at h; simp [h]
   | cons a q =>
    rw [hs] at h
    rcases List.mem_cons.1 h with rfl | h
    ·have := jQ (c := c) (s := r) (t := a) (by rw [hs]; exact .head _); simp; omega
    ·have := jQ (c := c) (s := r) (t := t) (by rw [hs]; exact .tail _ h); simp; omega
theorem sM (c : UInt8) : ∀ s : Str, (cutc c s).1.length ≤ s.length ∧ (cutc c s).2.1.length ≤ s.length
 | [] => by simp [cutc]
 | b :: r => by
  have := sM c r
  rw [cutc]
  cases b == c with
  | true => simp
  | false => simp only [cond_false, List.length_cons]; omega
theorem pX (c : UInt8) : ∀ s : Str, (cutc c s).2.2 = true → (cutc c s).1.length + (cutc c s).2.1.length + 1 = s.length
 | [], h => by simp [cutc] at h
 | b :: r, h => by
  have ih := pX c r
  rw [cutc] at h ⊢
  cases hb : b == c with
  | true => simp
  | false => rw [hb] at h; simp only [cond_false, List.length_cons] at h ⊢; have := ih h; omega
def atv (s : Str) : Int := match Lib.atoiAll s with | .ok v => v | .range => Lib.atoiSat s | _ => 0
def ate (s : Str) : Bool := match Lib.atoiAll s with | .ok _ => false | _ => true
theorem tE (s : Str) : -9223372036854775808 ≤ atv s ∧ atv s ≤ 9223372036854775807 := by
 unfold atv
 cases h : Lib.atoiAll s with
 | ok v => exact Lib.atoiAll_bounds h
 | range => simp only [Lib.atoiSat]; split <;> omega
 | _ => simp
end Go.Proofs.YtkjccbdeaflekaaGreatDoor.Fw

namespace Go.Proofs.YtkjccbdeaflekaaGreatDoor.Fw
open Go Go.RowKit
structure LibW (P : Program) (w : World) : Prop where
 len : ∃ g m, P.globalNamed "internal/bytealg.MaxLen" = some g ∧ w.cell? ⟨g, 0, none⟩ = some (.int .i64 m)
 tab : Lib.TabIs P w "internal/strconv.uint64pow10" .u64 Lib.pow10Tab
 syn : ∃ tp p, w.var? P "strconv.ErrSyntax" = some #[.iface tp p]
 rng : ∃ tp p, w.var? P "strconv.ErrRange" = some #[.iface tp p]
def ke : List String := ["internal/bytealg.MaxLen", "internal/strconv.uint64pow10", "strconv.ErrSyntax", "strconv.ErrRange"]
def LibP (P : Program) : Pred := fun M w => (∀ n ∈ ke, ∀ g, P.globalNamed n = some g → g < w.heap.size ∧ ¬ M g) ∧ LibW P w
theorem var_eq {P : Program} {w w' : World} {n : String} (h : ∀ g, P.globalNamed n = some g → w'.heap[g]? = w.heap[g]?) : w'.var? P n = w.var? P n := by
 unfold World.var?
 cases hg : P.globalNamed n with
 | none => rfl
 | some g => simp only [Option.bind_some, h g hg]
instance (P : Program) : Stab (LibP P) where
 st M M' w w' h hx hM := by
  obtain ⟨h1, h2⟩ := h
  have hh : ∀ n ∈ ke, ∀ g, P.globalNamed n = some g → w'.heap[g]? = w.heap[g]? := fun n hn g hg => hx.2 g (h1 n hn g hg).1 (h1 n hn g hg).2
  have hv := fun n hn => var_eq (P := P) (w := w) (w' := w') (n := n) (hh n hn)
  refine ⟨fun n hn g hg => ⟨Nat.lt_of_lt_of_le (h1 n hn g hg).1 hx.1, fun hm => (h1 n hn g hg).2 (hM g (h1 n hn g hg).1 hm)⟩, ?_, ?_, ?_, ?_⟩
  ·obtain ⟨g, m, hg, hc⟩ := h2.len
   exact ⟨g, m, hg, (World.cell?_of_block (hh _ (by simp [ke]) g hg)).trans hc⟩
  ·unfold Lib.TabIs; rw [hv _ (by simp [ke])]; exact h2.tab
  ·rw [hv _ (by simp [ke])]; exact h2.syn
  ·rw [hv _ (by simp [ke])]; exact h2.rng
theorem xe {P : Program} {w : World} (h : LibW P w) : LibP P (fun _ => False) w := by
 refine ⟨fun n hn g hg => ⟨?_, fun h => h⟩, h⟩
 have hv : ∀ {cs}, w.var? P n = some cs → g < w.heap.size := fun {cs} h => by
  unfold World.var? at h
  rw [hg] at h
  rcases Nat.lt_or_ge g w.heap.size with h' | h'
  ·exact h'
  ·simp [Array.getElem?_eq_none h'] at h
 simp only [ke, List.mem_cons, List.not_mem_nil, or_false] at hn
 rcases hn with rfl | rfl | rfl | rfl
 ·obtain ⟨g', m, hg', hc⟩ := h.len
  rw [hg'] at hg
  cases hg
  rcases Nat.lt_or_ge g w.heap.size with h' | h'
  ·exact h'
  ·simp [World.cell?, Array.getElem?_eq_none h'] at hc
 ·exact hv h.tab
 ·obtain ⟨_, _, h1⟩ := h.syn; exact hv h1
 ·obtain ⟨_, _, h1⟩ := h.rng; exact hv h1
theorem nA {P : Program} {f : FuncId} {args : List Value} {pre : List Pred} {X : Type} {val : X → Value} {post : X → List Pred} (hst : ∀ x, StabL (post x))
  (h : ∀ (M : Nat → Prop) (w : World), (∀ b, M b → b < w.heap.size) → AllF pre M w → Calls P f args.toArray w (fun e w' => ∃ x, e = .returned (val x) ∧ Below w.heap.size w w' ∧ AllF (post x) M w')) :
  Does P f args pre val post where
 st := hst
 ok C hB hw := by
  refine (h (Mset C ⟨0, [], [], [], pre⟩) C.w0 (fun b hb => vg hw hb) (fun F hF => (hw.fa F hF).2)).mono fun e w' ⟨x, he, hb, hp⟩ => ⟨x, he, ?_⟩
  have hg := hw.grow hb
  exact ⟨hg.be, hg.bl, hg.ow, hg.nd, fun F hF => ⟨(hst x).st F hF, hp F hF⟩⟩
theorem rR {w : World} (n : Nat) : Below w.heap.size w (w.drewN n) := ⟨rfl, rfl, rfl, Nat.le_refl _, fun _ _ => rfl⟩
theorem rS (w : World) (e : TypeId) (s : ByteArray) : Below w.heap.size w (Lib.bytesWorld w e s) := by
 refine ⟨?_, ?_, ?_, by rw [Lib.bytesWorld_size]; omega, fun k hk => Lib.bytesWorld_at_old w e _ k hk⟩ <;> rfl
theorem rT (w : World) (o : Obj) : Below w.heap.size w (w.alloc o) := ⟨rfl, rfl, rfl, by simp, fun k hk => heap_alloc_old w o k hk⟩
theorem uj {M : Nat → Prop} {w : World} (hM : ∀ b, M b → b < w.heap.size) (l : List Str) (t : TypeId) (hl : l.length * 16 ≤ 140737488355328) :
  RdL EStr ⟨some ⟨w.heap.size, 0, none⟩, l.length⟩ l M (w.alloc (.cells (l.map sV).toArray t)) := by
 refine ⟨Nat.le_refl _, by show l.length ≤ _; omega, hl, fun _ => ⟨_, rfl, by simp, fun hm => Nat.lt_irrefl _ (hM _ hm), fun i hi j v hv => ?_⟩⟩
 have hj : j = 0 := by
  obtain ⟨hlt, _⟩ := List.getElem?_eq_some_iff.1 hv
  simp [EStr] at hlt
  exact hlt
 subst hj
 simp only [EStr, List.getElem?_cons_zero, Option.some.injEq] at hv
 subst hv
 rw [gM]
 have h0 := heap_alloc_new w (.cells (l.map sV).toArray t)
 simp only [EStr, World.cell?, h0]
 simp [hi]
end Go.Proofs.YtkjccbdeaflekaaGreatDoor.Fw

namespace Go.Proofs.YtkjccbdeaflekaaGreatDoor.Fw
open Go Go.RowKit
section
variable {P : Program} {T : Tab} {C : Cx} {ops : Array Oper} {o : Oper} {r r' : RS} {s : St} {Q : Post} {N : Nat} {SL : Slots} {BL : List Blk} {OW : List Own} {FA : List Pred} {c : Code}
theorem qk (l : Str) : Lib.strCells ⟨l.toArray⟩ = l.flatMap EByte.enc := by
 show (l.map fun b => Value.int .u8 b.toNat) = l.flatMap fun b => [yV b]
 induction l with
 | nil => rfl
 | cons a r ih => rw [List.map_cons, List.flatMap_cons, ih]; rfl
theorem ue {t u ty e : TypeId} {i : TypeInfo} (ht : P.underlying t = some (.slice e)) (hu : P.underlying u = some .string) (hi : P.info? e = some i) (w : World) {A : Option Addr} {n cap : Nat} (hn : n ≤ cap) {b : ByteArray} (hb : b.size = 0) :
  (Builtin.append_ #[t, u] ty #[.slice A n cap, .string b]).run P w = .ok (.slice A n cap) w := by
 have hx : b.data = #[] := Array.eq_empty_of_size_eq_zero hb
 cases A <;> simp [Builtin.append_, run_underlying ht, run_underlying hu, sizeOf, typeInfo, hi, Builtin.lenOf, Builtin.firstCells, hb, hn, storeCells, hx]
theorem vy {t u ty : Nat} {q : Own} {z : List Value} (hT : TabOk T P) (ht : T.slc t = some q.e) (hu : P.underlying u = some .string) {agg : Bool} (hz : T.siz q.e = some (q.esz, agg)) (hzz : T.zer q.e = some z) (hzl : z.length = 1) (hby : T.byt q.e = some q.by_) (hes : q.esz = 1) (hb1 : q.by_ = 1)
  {w : World} (hw : WOk C ⟨N, SL, BL, OW, FA⟩ w) (hq : OwnOk C w q) (l : Str) (hb : q.n + l.length ≤ 140737488355328) :
  ∃ A' c' b' w', (Builtin.append_ #[t, u] ty #[q.v, sV l]).run P w = .ok (.slice A' (q.n + l.length) c') w' ∧ OwnOk C w' ⟨.slice A' (q.n + l.length) c', b', q.e, q.esz, q.by_, q.n + l.length, q.xs ++ l.flatMap EByte.enc⟩ ∧ w.grownBy w' q.b ∧ (b' = q.b ∨ b' = none ∨ b' = some w.heap.size) := by
 obtain ⟨qv, qb, qe, qs, qby, qn, qx⟩ := q
 simp only at ht hz hzz hby hes hb1 hb hq ⊢
 subst hes; subst hb1
 have hut := hT.slc _ _ ht
 obtain ⟨ti, d, q1, q2, q3, q4⟩ := hT.siz _ _ _ hz
 obtain ⟨ti', hi', hby'⟩ := hT.byt _ _ hby
 obtain ⟨ti'', zv, hi'', hz'', hzc⟩ := hT.zer _ _ hzz
 rw [q1] at hi' hi''
 cases hi'; cases hi''
 have hzs : zv.cells.size = 1 := by rw [← hzl, ← hzc]; simp
 have hsz := mH l
 have hsc := qk l
 have hfl : (l.flatMap EByte.enc).length = l.length := by rw [← hsc, Lib.strCells_length, hsz]
 obtain ⟨hl', hn', hbb⟩ := hq
 simp only at hl' hn' hbb
 rw [Nat.mul_one] at hl'
 have e1 : (Array.map (fun b => Value.int .u8 b.toNat) (ByteArray.mk l.toArray).data) = (Lib.strCells ⟨l.toArray⟩).toArray := by
  apply Array.ext'
  simp [Lib.strCells]
 have grown : ∀ (old : Nat), OwnOk C (w.drew.alloc (.cells (qx.toArray ++ (l.flatMap EByte.enc).toArray ++ Builtin.zeroCells zv.cells (grownCap w (qn + l.length) old qe - (qn + l.length))) qe)) ⟨.slice (some ⟨w.heap.size, 0, none⟩) (qn + l.length) (grownCap w (qn + l.length) old qe), some w.heap.size, qe, 1, 1, qn + l.length, qx ++ l.flatMap EByte.enc⟩ := by
  intro old
  have hge := grownCap_ge w (qn + l.length) old qe
  have hcm : grownCap w (qn + l.length) old qe ≤ maxLen := grownCap_le_maxLen w (qn + l.length) old qe (by simp only [maxLen]; omega)
  refine ⟨by simp only [List.length_append, hl', hfl, Nat.mul_one], ⟨(by show qn + l.length ≤ _; omega), (by show (qn + l.length) * 1 ≤ _; omega)⟩, .inl hw.be.size, _, _, rfl, heap_alloc_new w.drew _, hge, by simpa [maxLen] using hcm, ?_, ?_⟩
  ·simp only [Array.size_append, List.size_toArray, size_zeroCells, hzs, hl', hfl]
   omega
  ·simp only [Array.toList_append, List.append_assoc, Nat.mul_one]
   rw [← List.append_assoc, show qn + l.length = (qx ++ l.flatMap EByte.enc).length by rw [List.length_append, hl', hfl]]
   exact List.take_left
 have hgr : ∀ (o : Obj) (row : Option Nat), w.grownBy (w.drew.alloc o) row := fun o row => ⟨rfl, rfl, rfl, by simp, fun k hk _ => heap_alloc_old w.drew _ k hk⟩
 have hnil : l.length = 0 → l = [] := fun h => List.eq_nil_of_length_eq_zero h
 cases qb with
 | none =>
  simp only at hbb
  obtain ⟨h0, A, rfl⟩ := hbb
  subst h0
  have hxs : qx = [] := List.eq_nil_of_length_eq_zero hl'
  subst hxs
  by_cases hm : l.length = 0
  ·have := hnil hm
   subst this
   exact ⟨A, 0, none, w, ue hut hu q1 w (Nat.le_refl _) hsz, ⟨rfl, ⟨Nat.zero_le _, Nat.zero_le _⟩, rfl, A, rfl⟩, ⟨rfl, rfl, rfl, Nat.le_refl _, fun _ _ _ => rfl⟩, .inl rfl⟩
  ·have hg := grown 0
   cases A with
   | none =>
    have hr := run_append_nil_string (P := P) w t u ty qe ti zv hut hu q1 hz'' ⟨l.toArray⟩ (by rw [hsz]; omega) (by rw [hsz]; omega) (by rw [hby', hsz]; omega)
    rw [e1, hsc, hsz] at hr
    simp only [Nat.zero_add, List.nil_append, Array.empty_append] at hg ⊢
    exact ⟨_, _, some w.heap.size, _, hr, hg, hgr _ _, .inr (.inr rfl)⟩
   | some a =>
    have hr := Lib.run_append_grow_string (P := P) w t u ty qe ti zv hut hu q1 hz'' a 0 0 [] (by simp) (by simp) ⟨l.toArray⟩ (by rw [hsz]; omega) (by rw [hsz]; omega) (by rw [hby', hsz]; exact growslice_fits (by omega) (by omega))
    rw [hsc, hsz] at hr
    exact ⟨_, _, some w.heap.size, _, hr, hg, hgr _ _, .inr (.inr rfl)⟩
 | some g =>
  simp only at hbb
  obtain ⟨hg, cap, cur, rfl, hh, hnc, hcap, hcs, htake⟩ := hbb
  rw [Nat.mul_one] at hcs htake
  by_cases hroom : qn + l.length ≤ cap
  ·have hr := Lib.run_append_room_string (P := P) w t u ty qe ti hut hu q1 q2 g qn cap cur hh ⟨l.toArray⟩ (by rw [hsz]; exact hroom) (by rw [hsz]; omega)
   rw [hsc, hsz] at hr
   refine ⟨_, _, some g, _, hr, ⟨by simp only [List.length_append, hl', hfl, Nat.mul_one], ⟨(by show qn + l.length ≤ _; omega), (by show (qn + l.length) * 1 ≤ _; omega)⟩, hg, cap, _, rfl, setRow_heap w g cur _ qe _ hh, hroom, hcap, ?_, ?_⟩, ⟨rfl, rfl, rfl, by simp, fun k _ hk => setRow_other w g k _ (fun e => hk (by simp [e]))⟩, .inl rfl⟩
   ·simp only [List.size_toArray, List.length_append, List.length_take, List.length_drop, Array.length_toList, hfl]
    omega
   ·simp only [Nat.mul_one]
    rw [htake, show qn + l.length = (qx ++ l.flatMap EByte.enc).length by rw [List.length_append, hl', hfl]]
    exact List.take_left
  ·have holds : ∀ j u, qx[j]? = some u → w.cell? ((⟨g, 0, none⟩ : Addr).add j) = some u := fun j u hj => by
    rw [gM, Nat.zero_add]
    simp only [World.cell?, hh]
    have hjl := (List.getElem?_eq_some_iff.1 hj).1
    rw [← htake, List.getElem?_take, if_pos (by omega), Array.getElem?_toList] at hj
    exact hj
   have hr := Lib.run_append_grow_string (P := P) w t u ty qe ti zv hut hu q1 hz'' ⟨g, 0, none⟩ qn cap qx (by rw [q2]; omega) holds ⟨l.toArray⟩ (by rw [hsz]; omega) (by rw [hsz]; omega) (by rw [hby', hsz]; exact growslice_fits (by omega) (by omega))
   rw [hsc, hsz] at hr
   exact ⟨_, _, some w.heap.size, _, hr, grown cap, hgr _ _, .inr (.inr rfl)⟩
theorem lj (l m : Str) {e : TypeId} {X : SlV} {b : Option Nat} {d t u : Nat} {x y : Operand} {g0 g1 : Bool} {z : List Value} {agg : Bool} {ow' : SlV → Option Nat → List Own} {D : List Nat} (hf : Front ops r o D r') (hbD : ∀ g, b = some g → (∃ l, r = .sq l) ∨ g ∈ D) (hg : Guard ops SL o true) (hd : o.dst = some d) (hn : Nat.blt d N = true)
  (ho : o.op = .call ⟨.builtin .append, ⟨[x, y]⟩, ⟨[t, u]⟩⟩) (hx : ev SL x = some (g0, X.val l.length)) (hg0 : g0 = true) (hy : ev SL y = some (g1, sV m)) (hg1 : g1 = true)
  (hut : P.underlying u = some .string) (hu : ∀ (X' : SlV) b', UpdO OW (ownL EByte e X b l) [ownL EByte e X' b' (l ++ m)] (ow' X' b'))
  (ht : T.slc t = some e) (hz : T.siz e = some (1, agg)) (hzz : T.zer e = some z) (hzl : z.length = 1) (hby : T.byt e = some 1)
  (hb : l.length + m.length ≤ 140737488355328)
  (h : ∀ (X' : SlV) (b' : Option Nat), RW P T C ops r' ⟨N, (d, .v (X'.val (l ++ m).length)) :: SL, BL, ow' X' b', FA⟩ Q) : RW P T C ops r ⟨N, SL, BL, OW, FA⟩ Q := by
 have key : Loud P T C ⟨N, SL, BL, OW, FA⟩ o b.toList (fun s' => ∃ (X : SlV) (b' : Option Nat), s' = ⟨N, (d, .v (X.val (l ++ m).length)) :: SL, BL, ow' X b', FA⟩) := by
  intro hT a w hrep
  refine Oper.wp_mono ?_ (mb (D := b.toList) hd hn (K := fun u bl ow fa => ∃ (X : SlV) (b' : Option Nat), u = X.val (l ++ m).length ∧ bl = BL ∧ ow = ow' X b' ∧ fa = FA) ?_ hT a w hrep)
  ·rintro a' w' ⟨s', ⟨u, bl, ow, fa, ⟨X, b', e1, e2, e3, e4⟩, e5⟩, h2, h3⟩
   subst e1; subst e2; subst e3; subst e4
   exact ⟨s', ⟨X, b', e5⟩, h2, h3⟩
  ·intro hT a w hrep
   have hm : ownL EByte e X b l ∈ OW := by obtain ⟨l', r, e, _⟩ := (hu ⟨none, 0⟩ none).spec; rw [e]; simp
   have hq := hrep.wo.ow _ hm
   obtain ⟨A', c', b', w', hrun, ho', hgr, hbb⟩ := vy (ty := o.type) hT (q := ownL EByte e X b l) ht hut hz hzz hzl hby rfl rfl hrep.wo hq m hb
   simp only at hrun ho' hgr hbb
   have e1 : (l ++ m).length = l.length + m.length := List.length_append
   have e2 : (l ++ m).flatMap EByte.enc = l.flatMap EByte.enc ++ m.flatMap EByte.enc := List.flatMap_append
   have hu' := hu ⟨A', c'⟩ b'
   rw [ownL, ownL, e1, e2] at hu'
   refine ⟨.slice A' (l.length + m.length) c', w', BL, ow' ⟨A', c'⟩ b', FA, ?_, hrep.wo.swapO hu' ho' hgr hbb, ⟨hgr.size, fun k hk hn => hgr.block k hk fun e => hn (by rw [← e]; simp)⟩, ⟨A', c'⟩, b', by rw [e1]; rfl, rfl, rfl, rfl⟩
   simp only [execOp, ho, resolve, invoke, builtin, Sem.run_bind, Sem.run_pure, Result.andThen_ok, List.map_toArray, List.map_cons, List.map_nil, ev_ok hrep.sl hx hg0, ev_ok hrep.sl hy hg1, hrun]
 cases hf with
 | sq => exact m4 hg key (fun s' ⟨X, b', e⟩ => by subst e; exact h X b')
 | lo _ hi hDD => exact rw_l (.lo b.toList hi hDD) hg key (fun s' ⟨X, b', e⟩ => by subst e; exact h X b')
 | an hi hDD =>
  refine rw_l (.an hi hDD) hg (fun hT a w hrep => Oper.wp_mono (fun a' w' ⟨s', h1, h2, h3⟩ => ⟨s', h1, h2, h3.mono fun k hk => ?_⟩) (key hT a w hrep)) (fun s' ⟨X, b', e⟩ => by subst e; exact h X b')
  rcases hbD k (by simpa using hk) with ⟨_, e⟩ | e
  ·cases e
  ·exact e
end
end Go.Proofs.YtkjccbdeaflekaaGreatDoor.Fw

namespace Go.Proofs.YtkjccbdeaflekaaGreatDoor
open Go Go.Proofs.YtkjccbdeaflekaaGreatDoor.Fw Go.Proofs
def stamp (o : Op) : Stamp := ⟨o.time, o.who⟩
def before (a b : Op) : Bool := ge (stamp a) (stamp b)
theorem jN (a b : Op) : before a b = true ↔ a.time < b.time ∨ (a.time = b.time ∧ a.who < b.who) := by
 unfold before ge stamp
 simp
theorem kk (a b : Op) : before a b = false ↔ ¬ (a.time < b.time ∨ (a.time = b.time ∧ a.who < b.who)) := by
 rw [← jN]; simp
theorem ra (a b c : Op) (h1 : before c b = false) (h2 : before b a = false) : before c a = false := by
 rw [kk] at *; omega
theorem oA (a b : Op) (h : before a b = true) : before b a = false := by
 rw [jN] at h; rw [kk]; omega
theorem nc {a b c : Op} (h1 : before a b = true) (h2 : before b c = true) : before a c = true := by
 rw [jN] at *; omega
theorem oz {a b : Op} (h1 : before a b = false) (h2 : before b a = false) : stamp a = stamp b := by
 rw [kk] at *
 unfold stamp
 congr 1 <;> omega
theorem tD (a : Op) : before a a = false := by rw [kk]; omega
theorem rb {a b : Op} (h : before a b = true) : stamp a ≠ stamp b := fun e => by
 rw [jN] at h
 unfold stamp at e
 injection e with e1 e2
 omega
theorem sG (a b : Op) : decide (aM a b < 0) = before a b := by
 unfold aM
 show decide ((bif before a b then (-1 : Int) else bif before b a then 1 else 0) < 0) = before a b
 cases before a b <;> cases before b a <;> rfl
def eE (l : List Op) : List Op := ak l aM
theorem dz {l : List Op} (h : l.length ≤ 30) : (eE l).Perm l := (ST_Op aM before sG ra oA l h).1
theorem fh {l : List Op} (h : l.length ≤ 30) : Sorted before (eE l) := (ST_Op aM before sG ra oA l h).2
def Dist (l : List Op) : Prop := (l.map stamp).Nodup
def Rise (l : List Op) : Prop := l.Pairwise (fun a b => before a b = true)
theorem Rise.dist {l : List Op} (h : Rise l) : Dist l := by
 unfold Dist
 rw [List.Nodup, List.pairwise_map]
 exact h.imp fun h => rb h
theorem nT {l : List Op} (h1 : Sorted before l) (h2 : Dist l) : Rise l := by
 unfold Dist at h2
 rw [List.Nodup, List.pairwise_map] at h2
 have := List.Pairwise.and h1 h2
 exact this.imp fun {a b} ⟨h, hne⟩ => by
  cases hh : before a b with
  | true => rfl
  | false => exact absurd (oz hh h) hne
theorem Rise.uniq : ∀ {l l' : List Op}, Rise l → Rise l' → l.Perm l' → l = l'
 | [], l', _, _, hp => (List.Perm.nil_eq hp)
 | a :: l, [], _, _, hp => absurd hp.length_eq (by simp)
 | a :: l, b :: l', h, h', hp => by
  have hab : a = b := by
   have h1 : a ∈ b :: l' := hp.mem_iff.1 (.head _)
   have h2 : b ∈ a :: l := hp.mem_iff.2 (.head _)
   rcases List.mem_cons.1 h1 with h1 | h1
   ·exact h1
   ·rcases List.mem_cons.1 h2 with h2 | h2
    ·exact h2.symm
    ·have e1 := (List.pairwise_cons.1 h).1 b h2
     have e2 := (List.pairwise_cons.1 h').1 a h1
     rw [oA _ _ e1] at e2; cases e2
  subst hab
  rw [Rise.uniq (List.pairwise_cons.1 h).2 (List.pairwise_cons.1 h').2 ((List.perm_cons _).1 hp)]
theorem Dist.perm {l l' : List Op} (h : l.Perm l') : Dist l ↔ Dist l' := (h.map stamp).nodup_iff
def run : History → List Op → History
 | h, [] => h
 | h, o :: r => run ⟨h.l ++ [(eL h.t o).2.1], (eL h.t o).1⟩ r
def e0 : History := ⟨[], []⟩
theorem eA {t : List Place} {o : Op} (h1 : db t = 0) (h2 : chkO o = 0) : (eL t o).2.2 = 0 := by
 rw [pc, h1, h2]; rfl
theorem run_app : ∀ (a b : List Op) (h : History), run h (a ++ b) = run (run h a) b
 | [], _, _ => rfl
 | o :: a, b, h => by rw [List.cons_append, run, run, run_app a b]
theorem nv : ∀ (l : List Op) (h : History), db h.t = 0 → (∀ o ∈ l, chkO o = 0) → db (run h l).t = 0
 | [], _, h, _ => h
 | o :: r, h, hc, hl => by
  rw [run]
  exact nv r _ (ka (eA hc (hl o (.head _)))).tree fun q hq => hl q (.tail _ hq)
theorem uz (t : List Place) (o : Op) (h1 : db t = 0) (h2 : chkO o = 0) : (eL t o).2.1.o = o := (ka (eA h1 h2)).op
theorem ru : ∀ (l : List Op) (h : History), db h.t = 0 → (∀ o ∈ l, chkO o = 0) → (run h l).l.map (·.o) = h.l.map (·.o) ++ l
 | [], h, _, _ => by simp [run]
 | o :: r, h, hc, hl => by
  have h0 := hl o (.head _)
  rw [run, ru r _ (ka (eA hc h0)).tree fun q hq => hl q (.tail _ hq)]
  simp [uz h.t o hc h0]
theorem wQ (l : List Op) (h : History) : (run h l).l.length = h.l.length + l.length := by
 induction l generalizing h with
 | nil => rfl
 | cons o r ih => rw [run, ih]; simp; omega
theorem mY (l : List Op) : ∀ r : List Op, (∀ o ∈ r, chkO o = 0) → dr l r = da l (eE l) 0 [] []
 | [], _ => rfl
 | o :: r, h => by
  rw [dr, dI, h o (.head _)]
  exact mY l r fun q hq => h q (.tail _ hq)
theorem xm (o : Op) : chkO o = 0 ∨ chkO o = 3 := by
 unfold chkO
 generalize (decide (o.time < 1) || decide (o.time > 10000) || decide (o.who < 0) || decide (o.who ≥ 3) || decide (o.node < 1) || decide (o.node ≥ 16) || decide (o.parent < 0) || decide (o.parent > 16) || decide (o.name < 0) || decide (o.name > 99) || decide (o.life < 1) || decide (o.life > 50) || decide (o.seq < 1) || decide (o.seq > 30)) = b
 cases b <;> simp
theorem oK (l : List Op) : ∀ r : List Op, (∃ o ∈ r, chkO o ≠ 0) → dr l r = (e0, 3)
 | [], h => by obtain ⟨o, h, _⟩ := h; cases h
 | o :: r, h => by
  rw [dr, dI]
  rcases xm o with h0 | h0
  ·rw [h0]
   refine oK l r ?_
   obtain ⟨q, hq, hne⟩ := h
   rcases List.mem_cons.1 hq with rfl | hq
   ·exact absurd h0 hne
   ·exact ⟨q, hq, hne⟩
  ·rw [h0]; rfl
theorem po (l S : List Op) (hS : eE l = S) (hr : Rise S) (hc : ∀ o ∈ S, chkO o = 0) : ∀ (r : List Op) (n : Nat) (L : List Step) (T : List Place), r = S.drop n → db T = 0 → da l r n L T = (run ⟨L, T⟩ r, 0)
 | [], n, L, T, _, _ => rfl
 | o :: r, n, L, T, hd, hT => by
  have hn : n < S.length := by
   rcases Nat.lt_or_ge n S.length with h | h
   ·exact h
   ·rw [List.drop_of_length_le h] at hd; cases hd
  rw [bd hn] at hd
  obtain ⟨rfl, hd'⟩ := List.cons.inj hd
  have ho := hc _ (eM hn)
  rw [da, show ak l aM = S from hS, mK, eA hT ho]
  have hne : (decide ((n : Int) > 0) && decide ((⟨(gt S (n - 1)).time, (gt S (n - 1)).who⟩ : Stamp) = (⟨(gt S n).time, (gt S n).who⟩ : Stamp))) = false := by
   cases n with
   | zero => rfl
   | succ n =>
    have hb : before (gt S n) (gt S (n + 1)) = true := by
     rw [gt_eq (by omega), gt_eq hn]
     exact List.pairwise_iff_getElem.1 hr n (n + 1) (by omega) hn (by omega)
    have := rb hb
    unfold stamp at this
    simp [this]
  rw [hne]
  simp only [cond_false, bne_self_eq_false]
  rw [po l S hS hr hc r (n + 1) _ _ hd' (ka (eA hT ho)).tree]
  rfl
theorem oJ (l S : List Op) (hS : eE l = S) (hc : ∀ o ∈ S, chkO o = 0) : ∀ (r : List Op) (n : Nat) (L : List Step) (T : List Place), r = S.drop n → db T = 0 → (∃ i, n ≤ i ∧ 0 < i ∧ i < S.length ∧ stamp (gt S (i - 1)) = stamp (gt S i)) → da l r n L T = (e0, 6)
 | [], n, L, T, hd, _, h => by
  obtain ⟨i, h1, _, h3, _⟩ := h
  have := congrArg List.length hd
  simp at this; omega
 | o :: r, n, L, T, hd, hT, h => by
  have hn : n < S.length := by
   rcases Nat.lt_or_ge n S.length with h | h
   ·exact h
   ·rw [List.drop_of_length_le h] at hd; cases hd
  rw [bd hn] at hd
  obtain ⟨rfl, hd'⟩ := List.cons.inj hd
  have ho := hc _ (eM hn)
  rw [da, show ak l aM = S from hS, mK, eA hT ho]
  cases he : (decide ((n : Int) > 0) && decide ((⟨(gt S (n - 1)).time, (gt S (n - 1)).who⟩ : Stamp) = (⟨(gt S n).time, (gt S n).who⟩ : Stamp))) with
  | true => rfl
  | false =>
   simp only [cond_false, bne_self_eq_false]
   refine oJ l S hS hc r (n + 1) _ _ hd' (ka (eA hT ho)).tree ?_
   obtain ⟨i, h1, h2, h3, h4⟩ := h
   rcases Nat.eq_or_lt_of_le h1 with rfl | h1
   ·unfold stamp at h4
    rw [h4] at he
    simp at he; omega
   ·exact ⟨i, h1, h2, h3, h4⟩
theorem neighbours : ∀ {S : List Op}, Sorted before S → ¬ Rise S → ∃ i, 0 < i ∧ i < S.length ∧ stamp (gt S (i - 1)) = stamp (gt S i)
 | [], _, h => absurd List.Pairwise.nil h
 | [a], _, h => absurd (by simp [Rise]) h
 | a :: b :: S, hs, h => by
  have h1 := (List.pairwise_cons.1 hs).1 b (.head _)
  cases hb : before a b with
  | false => exact ⟨1, by omega, by simp, oz (by simpa [gt] using hb) (by simpa [gt] using h1)⟩
  | true =>
   have hn : ¬ Rise (b :: S) := fun hr => h (List.pairwise_cons.2 ⟨fun c hc => by
    rcases List.mem_cons.1 hc with rfl | hc
    ·exact hb
    ·exact nc hb ((List.pairwise_cons.1 hr).1 c hc), hr⟩)
   obtain ⟨i, h2, h3, h4⟩ := neighbours (List.pairwise_cons.1 hs).2 hn
   refine ⟨i + 1, by omega, by simp at h3 ⊢; omega, ?_⟩
   obtain ⟨j, rfl⟩ : ∃ j, i = j + 1 := ⟨i - 1, by omega⟩
   simpa [gt] using h4
theorem vj {l : List Op} (h : 30 < l.length) : bg l = (e0, 2) := by
 unfold bg
 have : decide ((l.length : Int) > 30) = true := by simp; omega
 rw [this]; rfl
theorem v8 {l : List Op} (h : l.length ≤ 30) (hb : ∃ o ∈ l, chkO o ≠ 0) : bg l = (e0, 3) := by
 unfold bg
 have : decide ((l.length : Int) > 30) = false := by simp; omega
 rw [this]; exact oK l l hb
theorem jv {l : List Op} (h : l.length ≤ 30) (hc : ∀ o ∈ l, chkO o = 0) : ∀ o ∈ eE l, chkO o = 0 := fun o ho => hc o ((dz h).mem_iff.1 ho)
theorem vi {l : List Op} (h : l.length ≤ 30) (hc : ∀ o ∈ l, chkO o = 0) (hd : Dist l) : bg l = (run e0 (eE l), 0) := by
 unfold bg
 have : decide ((l.length : Int) > 30) = false := by simp; omega
 rw [this, cond_false, mY l l hc]
 exact po l _ rfl (nT (fh h) ((Dist.perm (dz h)).2 hd)) (jv h hc) _ 0 [] [] rfl rfl
theorem tL {l : List Op} (h : l.length ≤ 30) (hc : ∀ o ∈ l, chkO o = 0) (hd : ¬ Dist l) : bg l = (e0, 6) := by
 unfold bg
 have : decide ((l.length : Int) > 30) = false := by simp; omega
 rw [this, cond_false, mY l l hc]
 have hn : ¬ Rise (eE l) := fun hr => hd ((Dist.perm (dz h)).1 hr.dist)
 obtain ⟨i, h1, h2, h3⟩ := neighbours (fh h) hn
 exact oJ l _ rfl (jv h hc) _ 0 [] [] rfl rfl ⟨i, by omega, h1, h2, h3⟩
theorem v7 {l : List Op} (h : (bg l).2 = 0) : l.length ≤ 30 ∧ (∀ o ∈ l, chkO o = 0) ∧ Dist l ∧ bg l = (run e0 (eE l), 0) := by
 rcases Nat.lt_or_ge 30 l.length with h1 | h1
 ·rw [vj h1] at h; cases h
 by_cases hc : ∃ o ∈ l, chkO o ≠ 0
 ·rw [v8 h1 hc] at h; cases h
 have hc : ∀ o ∈ l, chkO o = 0 := fun o ho => Classical.byContradiction fun hn => hc ⟨o, ho, hn⟩
 by_cases hd : Dist l
 ·exact ⟨h1, hc, hd, vi h1 hc hd⟩
 ·rw [tL h1 hc hd] at h; cases h
theorem qo {S : List Op} (h : S.length ≤ 30) (hr : Rise S) : eE S = S :=
 Rise.uniq (nT (fh h) ((Dist.perm (dz h)).2 hr.dist)) hr (dz h)
theorem qm {l S : List Op} (h : l.length ≤ 30) (hr : Rise S) (hp : S.Perm l) : eE l = S :=
 Rise.uniq (nT (fh h) ((Dist.perm (dz h)).2 ((Dist.perm hp).1 hr.dist))) hr ((dz h).trans hp.symm)
structure fq (h : History) (S : List Op) : Prop where
 len : S.length ≤ 30
 ok : ∀ o ∈ S, chkO o = 0
 rise : Rise S
 eq : h = run e0 S
theorem mm (a b : History) : d8 a b = true ↔ a = b := by
 unfold d8
 obtain ⟨l, t⟩ := a
 obtain ⟨l', t'⟩ := b
 simp
theorem fq.ops {h : History} {S : List Op} (hh : fq h S) : h.l.map (·.o) = S := by
 rw [hh.eq, ru S e0 rfl hh.ok]; rfl
theorem lg (h : History) : bk h = 0 ↔ fq h (h.l.map (·.o)) := by
 constructor
 ·intro hc
  obtain ⟨h1, h2⟩ := je hc
  obtain ⟨g1, g2, g3, g4⟩ := v7 h1
  rw [mm, g4] at h2
  rw [jr] at *
  have e : h.l.map (·.o) = eE (h.l.map (·.o)) := by
   conv => lhs; rw [← h2]
   rw [ru _ e0 rfl (jv g1 g2)]; rfl
  refine ⟨g1, g2, ?_, by rw [e]; exact h2.symm⟩
  rw [e]
  exact nT (fh g1) ((Dist.perm (dz g1)).2 g3)
 ·intro hh
  unfold bk
  rw [jr, vi hh.len hh.ok hh.rise.dist, qo hh.len hh.rise]
  have : d8 (run e0 (h.l.map (·.o))) h = true := by rw [mm]; exact hh.eq.symm
  rw [this]; rfl
theorem oE : ∀ (r : List Op) (L : List Step) (T : List Place), db T = 0 → (∀ o ∈ r, chkO o = 0) → eB r L T = (run ⟨L, T⟩ r, 0)
 | [], _, _, _, _ => rfl
 | o :: r, L, T, hT, hc => by
  have ho := hc o (.head _)
  rw [eB, mK, eA hT ho]
  simp only [bne_self_eq_false, cond_false]
  rw [oE r _ _ (ka (eA hT ho)).tree fun q hq => hc q (.tail _ hq)]
  rfl
theorem pH (A : List Op) (b : Op) : run e0 (A ++ [b]) = ⟨(run e0 A).l ++ [(eL (run e0 A).t b).2.1], (eL (run e0 A).t b).1⟩ := by
 rw [run_app]; rfl
theorem vd (o : Op) (ho : chkO o = 0) : ∀ (n : Nat) (A R : List Op) (f : Nat), A.length = n → n < f → (∀ q ∈ A, chkO q = 0) → (∀ q ∈ R, chkO q = 0) → Rise A →
  ∃ A1 A2, A = A1 ++ A2 ∧ (∀ q ∈ A1, before o q = false) ∧ (∀ q ∈ A2, before o q = true) ∧ dK o f (o :: R) (n : Int) (run e0 A).l (run e0 A).t = (run e0 (A1 ++ o :: (A2 ++ R.reverse)), 0) := by
 intro n
 induction n with
 | zero =>
  intro A R f hA hf hcA hcR hr
  obtain ⟨f, rfl⟩ : ∃ g, f = g + 1 := ⟨f - 1, by omega⟩
  have : A = [] := List.length_eq_zero_iff.1 hA
  subst this
  refine ⟨[], [], rfl, by simp, by simp, ?_⟩
  rw [dK]
  have : decide (((0 : Nat) : Int) > 0) = false := rfl
  rw [this, Bool.false_and, cond_false, RK_Op _ _ (by simp), oE _ _ _ rfl (fun q hq => by
   simp only [List.take_succ_cons, List.take_zero, List.drop_succ_cons, List.drop_zero, List.cons_append, List.nil_append, List.mem_cons, List.mem_reverse] at hq
   rcases hq with rfl | hq
   ·exact ho
   ·exact hcR q hq)]
  rfl
 | succ n ih =>
  intro A R f hA hf hcA hcR hr
  obtain ⟨f, rfl⟩ : ∃ g, f = g + 1 := ⟨f - 1, by omega⟩
  obtain ⟨B, b, rfl⟩ : ∃ B b, A = B ++ [b] := ⟨A.dropLast, A.getLast (by intro e; rw [e] at hA; cases hA), (List.dropLast_concat_getLast _).symm⟩
  simp only [List.length_append, List.length_cons, List.length_nil] at hA
  have hcB : ∀ q ∈ B, chkO q = 0 := fun q hq => hcA q (List.mem_append_left _ hq)
  have hcb : chkO b = 0 := hcA b (by simp)
  have hTB : db (run e0 B).t = 0 := nv B e0 rfl hcB
  have hm := ka (eA hTB hcb)
  have hlB : (run e0 B).l.length = n := by rw [wQ]; simp [e0]; omega
  have hg : gt (run e0 (B ++ [b])).l (((n + 1 : Nat) : Int) - 1).toNat = (eL (run e0 B).t b).2.1 := by
   rw [pH]
   exact jI _ _ [] _ (by omega)
  have ht : (run e0 (B ++ [b])).l.take (((n + 1 : Nat) : Int) - 1).toNat = (run e0 B).l := by
   rw [pH]
   simp only
   rw [show (((n + 1 : Nat) : Int) - 1).toNat = (run e0 B).l.length by omega, List.take_left]
  rw [dK, hg]
  have hop := hm.op
  have h0 : decide (((n + 1 : Nat) : Int) > 0) = true := decide_eq_true (by omega)
  rw [h0, Bool.true_and, hop]
  show ∃ A1 A2, _ ∧ _ ∧ _ ∧ (bif before o b then _ else _) = _
  cases hb : before o b with
  | false =>
   refine ⟨B ++ [b], [], by simp, fun q hq => ?_, by simp, ?_⟩
   ·rcases List.mem_append.1 hq with hq | hq
    ·have h1 := (List.pairwise_append.1 hr).2.2 q hq b (by simp)
     cases hh : before o q with
     | false => rfl
     | true => rw [nc hh h1] at hb; cases hb
    ·rw [List.mem_singleton] at hq; rw [hq]; exact hb
   ·rw [cond_false, RK_Op _ _ (by simp), oE _ _ _ (nv _ e0 rfl hcA) (fun q hq => by
     simp only [List.take_succ_cons, List.take_zero, List.drop_succ_cons, List.drop_zero, List.cons_append, List.nil_append, List.mem_cons, List.mem_reverse] at hq
     rcases hq with rfl | hq
     ·exact ho
     ·exact hcR q hq)]
    show (run (run e0 (B ++ [b])) _, (0 : Int)) = _
    rw [← run_app]
    simp
  | true =>
   have hu : cu (run e0 (B ++ [b])).t (eL (run e0 B).t b).2.1 = ((run e0 B).t, 0) := by
    rw [qK, pH]; exact hm.undo
   rw [cond_true, hu]
   simp only [bne_self_eq_false, cond_false]
   rw [ht, show ((n + 1 : Nat) : Int) - 1 = (n : Int) by omega]
   obtain ⟨A1, A2, h1, h2, h3, h4⟩ := ih B (R ++ [b]) f (by omega) (by omega) hcB (fun q hq => by
    rcases List.mem_append.1 hq with hq | hq
    ·exact hcR q hq
    ·rw [List.mem_singleton] at hq; rw [hq]; exact hcb) (List.pairwise_append.1 hr).1
   refine ⟨A1, A2 ++ [b], by rw [h1]; simp, h2, fun q hq => ?_, ?_⟩
   ·rcases List.mem_append.1 hq with hq | hq
    ·exact h3 q hq
    ·rw [List.mem_singleton] at hq; rw [hq]; exact hb
   ·rw [List.cons_append, h4]; simp
theorem uV (L : List Step) (o : Op) : L.any (fun a0_ => fL a0_ o) = true ↔ ∃ q ∈ L.map (·.o), stamp q = stamp o := by
 rw [List.any_eq_true]
 constructor
 ·rintro ⟨s, hs, h⟩; exact ⟨s.o, List.mem_map.2 ⟨s, hs, rfl⟩, of_decide_eq_true h⟩
 ·rintro ⟨q, hq, h⟩
  obtain ⟨s, hs, rfl⟩ := List.mem_map.1 hq
  exact ⟨s, hs, decide_eq_true h⟩
theorem vb {h : History} {S : List Op} (hh : fq h S) (o : Op) : aZ h o =
  bif chkO o != 0 then (e0, chkO o) else bif S.any (fun q => decide (stamp q = stamp o)) then (e0, 6) else bif S.length == 30 then (e0, 2) else (run e0 (eE (S ++ [o])), 0) := by
 unfold aZ
 rw [dI]
 cases h1 : chkO o != 0 with
 | true => rfl
 | false =>
  have ho := ai h1
  simp only [cond_false]
  have ha : h.l.any (fun a0_ => fL a0_ o) = S.any (fun q => decide (stamp q = stamp o)) := by
   rw [Bool.eq_iff_iff, uV, hh.ops, List.any_eq_true]
   simp
  have hl : h.l.length = S.length := by rw [← hh.ops, List.length_map]
  rw [ha]
  cases h2 : S.any (fun q => decide (stamp q = stamp o)) with
  | true => rfl
  | false =>
   simp only [cond_false]
   have h30 : ((h.l.length : Int) == 30) = (S.length == 30) := by rw [hl, Bool.eq_iff_iff]; simp; omega
   rw [h30]
   cases h3 : S.length == 30 with
   | true => rfl
   | false =>
    have h3 : S.length ≠ 30 := by simpa using h3
    have hlen := hh.len
    simp only [cond_false]
    obtain ⟨A1, A2, e1, e2, e3, e4⟩ := vd o ho S.length S [] (h.l.length + 1) rfl (by omega) hh.ok (by simp) hh.rise
    have hne : ∀ q ∈ S, stamp q ≠ stamp o := fun q hq he => by
     have : S.any (fun q => decide (stamp q = stamp o)) = true := List.any_eq_true.2 ⟨q, hq, decide_eq_true he⟩
     rw [h2] at this; cases this
    have hrise : Rise (A1 ++ o :: A2) := by
     have hr := hh.rise
     rw [e1] at hr
     obtain ⟨r1, r2, r3⟩ := List.pairwise_append.1 hr
     have hA1 : ∀ q ∈ A1, before q o = true := fun q hq => by
      cases hb : before q o with
      | true => rfl
      | false => exact absurd (oz hb (e2 q hq)) (hne q (by rw [e1]; exact List.mem_append_left _ hq))
     refine List.pairwise_append.2 ⟨r1, List.pairwise_cons.2 ⟨e3, r2⟩, fun q hq w hw => ?_⟩
     rcases List.mem_cons.1 hw with rfl | hw
     ·exact hA1 q hq
     ·exact r3 q hq w hw
    have hs : eE (S ++ [o]) = A1 ++ o :: A2 := qm (by simp; omega) hrise (by
     rw [e1]
     refine List.perm_middle.trans ?_
     exact (List.perm_append_comm (l₁ := [o]) (l₂ := A1 ++ A2)))
    rw [hs]
    have := e4
    rw [List.reverse_nil, List.append_nil] at this
    rw [← this, hl, hh.eq]
def dL (h1 : History) (o1 : Op) : History × Int :=
 (bif ((bk h1) != 0) then ((⟨([] : List Step), ([] : List Place)⟩ : History), (bk h1)) else ((aZ h1 o1).1, (aZ h1 o1).2))
theorem vh {h : History} {S : List Op} (hh : fq h S) (o : Op) : dL h o =
  bif chkO o != 0 then (e0, chkO o) else bif S.any (fun q => decide (stamp q = stamp o)) then (e0, 6) else bif S.length == 30 then (e0, 2) else (run e0 (eE (S ++ [o])), 0) := by
 have hS : S = h.l.map (·.o) := hh.ops.symm
 have hc : bk h = 0 := (lg h).2 (hS ▸ hh)
 unfold dL
 rw [hc, vb hh]; rfl
theorem tJ {h : History} (hc : bk h ≠ 0) (o : Op) : dL h o = (e0, bk h) := by
 unfold dL
 have : (bk h != 0) = true := by simpa using hc
 rw [this]; rfl
theorem fq.run {S : List Op} (h1 : S.length ≤ 30) (h2 : ∀ o ∈ S, chkO o = 0) (h3 : Rise S) : fq (run e0 S) S := ⟨h1, h2, h3, rfl⟩
theorem ux {S : List Op} {o : Op} (h : S.any (fun q => decide (stamp q = stamp o)) = false) : ∀ q ∈ S, stamp q ≠ stamp o := fun q hq he => by
 have : S.any (fun q => decide (stamp q = stamp o)) = true := List.any_eq_true.2 ⟨q, hq, decide_eq_true he⟩
 rw [h] at this; cases this
theorem qZ {S : List Op} {o : Op} (h : Dist S) (hne : ∀ q ∈ S, stamp q ≠ stamp o) : Dist (S ++ [o]) := by
 unfold Dist at *
 rw [List.map_append, List.nodup_append]
 refine ⟨h, by simp, fun a ha b hb => ?_⟩
 obtain ⟨q, hq, rfl⟩ := List.mem_map.1 ha
 simp only [List.map_cons, List.map_nil, List.mem_singleton] at hb
 rw [hb]; exact hne q hq
theorem ql {l : List Op} (h : l.length ≤ 30) (hd : Dist l) : Rise (eE l) := nT (fh h) ((Dist.perm (dz h)).2 hd)
theorem tI {h : History} {o : Op} (hi : (dL h o).2 = 0) : ∃ S, fq h S ∧ chkO o = 0 ∧ (∀ q ∈ S, stamp q ≠ stamp o) ∧ S.length < 30 ∧ dL h o = (run e0 (eE (S ++ [o])), 0) ∧ fq (dL h o).1 (eE (S ++ [o])) := by
 by_cases hc : bk h = 0
 ·have hh := (lg h).1 hc
  refine ⟨_, hh, ?_⟩
  rw [vh hh] at hi ⊢
  cases h1 : chkO o != 0 with
  | true => rw [h1, cond_true] at hi; simp only at hi; rw [hi] at h1; simp at h1
  | false =>
   have ho := ai h1
   rw [h1, cond_false] at hi
   cases h2 : (h.l.map (·.o)).any (fun q => decide (stamp q = stamp o)) with
   | true => rw [h2, cond_true] at hi; cases hi
   | false =>
    rw [h2, cond_false] at hi
    cases h3 : (h.l.map (·.o)).length == 30 with
    | true => rw [h3, cond_true] at hi; cases hi
    | false =>
     have h3 : (h.l.map (·.o)).length ≠ 30 := by simpa using h3
     have hl := hh.len
     have hne := ux h2
     have hl2 : (h.l.map (·.o) ++ [o]).length ≤ 30 := by simp only [List.length_append, List.length_cons, List.length_nil]; omega
     refine ⟨ho, hne, by omega, rfl, ?_⟩
     simp only [cond_false]
     refine fq.run (by rw [(dz hl2).length_eq]; exact hl2) (jv hl2 fun q hq => ?_) (ql hl2 (qZ hh.rise.dist hne))
     rcases List.mem_append.1 hq with hq | hq
     ·exact hh.ok q hq
     ·rw [List.mem_singleton] at hq; rw [hq]; exact ho
 ·rw [tJ hc] at hi; exact absurd hi hc
theorem fq.llen {h : History} {S : List Op} (hh : fq h S) : h.l.length = S.length := by rw [← hh.ops, List.length_map]
theorem fq.at_ {h : History} {S : List Op} (hh : fq h S) {i : Nat} (hi : i < h.l.length) : (gt h.l i).o = gt S i := by
 have := hh.llen
 rw [gt_eq hi, gt_eq (by omega)]
 have e := hh.ops
 subst e
 simp
end Go.Proofs.YtkjccbdeaflekaaGreatDoor

set_option maxHeartbeats 2000000
namespace Go.Proofs.YtkjccbdeaflekaaGreatDoor
open Go Go.Proofs.YtkjccbdeaflekaaGreatDoor.Fw Go.Proofs
attribute [local irreducible] RW CW
def fQ  : List Place → (List Place) → (List Place)
 | [], tb2 => tb2
 | pn2 :: rn2, tb2 => (fQ rn2 (tb2.set pn2.node.toNat pn2))
end Go.Proofs.YtkjccbdeaflekaaGreatDoor

namespace Go.Proofs.YtkjccbdeaflekaaGreatDoor
open Go Go.Proofs.YtkjccbdeaflekaaGreatDoor.Fw Go.Proofs
def pl (tb : List Place) : Nat → Nat → List Place
 | 0, _ => []
 | f + 1, k => bif (decide ((k : Int) > 0) && decide ((gt tb k).parent ≥ 0)) then gt tb k :: pl tb f (k + 1) else pl tb f (k + 1)
theorem sC (tb : List Place) (i n : Nat) (p : Place) (hi : i < tb.length) : gt (tb.set i p) n = if i = n then p else gt tb n := by
 simp only [gt, List.getD, List.getElem?_set]
 by_cases h : i = n
 ·subst h; simp [hi]
 ·simp [h]
end Go.Proofs.YtkjccbdeaflekaaGreatDoor

set_option maxHeartbeats 2000000
namespace Go.Proofs.YtkjccbdeaflekaaGreatDoor
open Go Go.Proofs.YtkjccbdeaflekaaGreatDoor.Fw Go.Proofs
attribute [local irreducible] RW CW
def de  : List Int → Int → Int
 | [], last1 => 0
 | pn1 :: rn1, last1 => (bif (!(ez pn1 0 16)) then 5 else (bif decide (pn1 ≤ last1) then 6 else (de rn1 pn1)))
def fi (l1 : List Int) : Int :=
 (bif decide ((l1.length : Int) > 4) then 2 else (de l1 (-1)))
end Go.Proofs.YtkjccbdeaflekaaGreatDoor

namespace Go.Proofs.YtkjccbdeaflekaaGreatDoor.Fw
open Go Go.Lib
theorem j9 {k : Nat} (h : k < 256) : (UInt8.ofNat k).toNat = k := by simp [UInt8.toNat_ofNat']; omega
theorem ov : ∀ (u : Nat), ∀ c ∈ decDigits u, 48 ≤ c.toNat ∧ c.toNat ≤ 57 := by
 intro u
 induction u using Nat.strongRecOn with
 | _ u ih =>
  intro c hc
  rw [decDigits] at hc
  split at hc
  ·rename_i h
   simp only [List.mem_singleton] at hc
   subst hc
   rw [j9 (by omega)]; omega
  ·rename_i h
   rcases List.mem_append.1 hc with hc | hc
   ·exact ih _ (by omega) c hc
   ·simp only [List.mem_singleton] at hc
    subst hc
    rw [j9 (by omega)]; omega
theorem uQ (u : Nat) : decDigits u ≠ [] := by
 rw [decDigits]; split <;> simp
theorem qF : ∀ (l : Str) (acc v : Nat) (r : Str), parseUint10 acc l = .ok v → parseUint10 acc (l ++ r) = parseUint10 v r
 | [], acc, v, r, h => by simp only [parseUint10, NumEnd.ok.injEq] at h; subst h; rfl
 | c :: l, acc, v, r, h => by
  rw [List.cons_append]
  rw [parseUint10] at h ⊢
  split at h
  ·rename_i h1
   rw [if_pos h1]
   split at h
   ·cases h
   ·rename_i h2
    rw [if_neg h2]
    split at h
    ·cases h
    ·rename_i h3
     rw [if_neg h3]
     exact qF l _ v r h
  ·cases h
theorem qE : ∀ (u : Nat), u < 18446744073709551616 → parseUint10 0 (decDigits u) = .ok u := by
 intro u
 induction u using Nat.strongRecOn with
 | _ u ih =>
  intro hu
  rw [decDigits]
  split
  ·rename_i h
   rw [parseUint10, j9 (by omega), if_pos (by omega), if_neg (by omega), if_neg (by omega), parseUint10]
   congr 1; omega
  ·rename_i h
   rw [qF _ _ _ _ (ih (u / 10) (by omega) (by omega)), parseUint10, j9 (by omega), if_pos (by omega), if_neg (by omega), if_neg (by omega), parseUint10]
   congr 1; omega
theorem rc {n : Int} (h : -9223372036854775808 ≤ n ∧ n ≤ 9223372036854775807) : atoiAll (itoa n) = .ok n := by
 unfold itoa
 split
 ·rename_i hn
  have hp := qE n.natAbs (by omega)
  have hm : parseMag (decDigits n.natAbs) = .ok n.natAbs := by rw [parseMag, if_neg (uQ _)]; exact hp
  rw [atoiAll_minus, hm]
  simp only [signed]
  rw [if_neg (by omega)]
  congr 1; omega
 ·rename_i hn
  have hp := qE n.toNat (by omega)
  have hd := ov n.toNat
  have hm : parseMag (decDigits n.toNat) = .ok n.toNat := by rw [parseMag, if_neg (uQ _)]; exact hp
  cases hc : decDigits n.toNat with
  | nil => exact absurd hc (uQ _)
  | cons c r =>
   have hcd := hd c (by rw [hc]; exact .head _)
   rw [hc] at hm
   rw [atoiAll_plain c r (by omega) (by omega), hm]
   simp only [signless]
   rw [if_neg (by omega)]
   congr 1; omega
theorem vQ {n : Int} (h : -9223372036854775808 ≤ n ∧ n ≤ 9223372036854775807) : ate (itoa n) = false := by rw [ate, rc h]
theorem vP {n : Int} (h : -9223372036854775808 ≤ n ∧ n ≤ 9223372036854775807) : atv (itoa n) = n := by rw [atv, rc h]
theorem uH {n : Int} {c : UInt8} (h : c.toNat < 45) : c ∉ itoa n := by
 unfold itoa
 intro hc
 split at hc
 ·rcases List.mem_cons.1 hc with rfl | hc
  ·exact absurd h (by decide)
  ·have := ov _ c hc; omega
 ·have := ov _ c hc; omega
def glue (c : UInt8) (l : List Str) : Str := l.flatMap (fun t => c :: t)
theorem se {c : UInt8} : ∀ (w : Str) (l : List Str), c ∉ w → (∀ t ∈ l, c ∉ t) → spl c (w ++ glue c l) = w :: l
 | w, [], hw, _ => by simp only [glue, List.flatMap_nil, List.append_nil]; exact sd hw
 | w, t :: l, hw, hl => by
  have e : w ++ glue c (t :: l) = w ++ c :: (t ++ glue c l) := by simp [glue]
  rw [e, pA _ hw, se t l (hl t (.head _)) (fun u hu => hl u (.tail _ hu))]
theorem sE (c : UInt8) : ∀ (n : Nat) (s : Str), s.length ≤ n → ∃ w l, spl c s = w :: l ∧ s = w ++ glue c l
 | n, s, hn => by
  rcases at_c c s with h | ⟨p, r, h1, h2⟩
  ·exact ⟨s, [], sd h, by simp [glue]⟩
  ·cases n with
   | zero => rw [h1] at hn; simp at hn
   | succ n =>
    obtain ⟨w, l, h3, h4⟩ := sE c n r (by rw [h1] at hn; simp at hn; omega)
    refine ⟨p, w :: l, by rw [h1, pA r h2, h3], ?_⟩
    rw [h1]
    conv => lhs; rw [h4]
    simp [glue]
end Go.Proofs.YtkjccbdeaflekaaGreatDoor.Fw

set_option maxHeartbeats 2000000
namespace Go.Proofs.YtkjccbdeaflekaaGreatDoor
open Go Go.Proofs.YtkjccbdeaflekaaGreatDoor.Fw Go.Proofs
attribute [local irreducible] RdL RdN VarP RW CW
theorem qN : ∀ {l : List Peer}, es l = 0 → ∀ p ∈ l, (0 ≤ p.life ∧ p.life ≤ 50 ∧ 0 ≤ p.seq ∧ p.seq ≤ 30) ∧ (p.life = 0 → p.seq = 0 ∧ p.roots = []) ∧ bF p.roots = 0
 | [], _ => by simp
 | q :: l, h => by
  rw [es] at h
  cases h1 : (((decide (q.life < 0) || decide (q.life > 50)) || decide (q.seq < 0)) || decide (q.seq > 30)) with
  | true => rw [h1, cond_true] at h; cases h
  | false =>
  rw [h1, cond_false] at h
  cases h2 : ((q.life == 0) && (decide (q.seq > 0) || decide ((q.roots.length : Int) > 0))) with
  | true => rw [h2, cond_true] at h; cases h
  | false =>
  rw [h2, cond_false] at h
  cases h3 : (bF q.roots != 0) with
  | true => rw [h3, cond_true] at h; rw [h] at h3; cases h3
  | false =>
  rw [h3, cond_false] at h
  intro p hp
  rcases List.mem_cons.1 hp with rfl | hp
  ·simp only [Bool.or_eq_false_iff, decide_eq_false_iff_not] at h1
   refine ⟨by omega, fun hl => ?_, ai h3⟩
   simp only [Bool.and_eq_false_iff, beq_eq_false_iff_ne, Bool.or_eq_false_iff, decide_eq_false_iff_not] at h2
   rcases h2 with h2 | h2
   ·exact absurd hl h2
   ·exact ⟨by omega, List.length_eq_zero_iff.1 (by omega)⟩
  ·exact qN h p hp
theorem jE {h : Hub} (hc : c8 h = 0) : ∀ p ∈ h.peers, (0 ≤ p.life ∧ p.life ≤ 50 ∧ 0 ≤ p.seq ∧ p.seq ≤ 30) ∧ (p.life = 0 → p.seq = 0 ∧ p.roots = []) ∧ bF p.roots = 0 := by
 obtain ⟨h1, h2, h3, h4⟩ := eT hc
 have e1 : (bk h.h != 0) = false := by rw [h1]; rfl
 have e2 : (decide (h.version < 0) || decide (h.version > 60)) = false := by simp; omega
 have e3 : ((h.peers.length : Int) != 3) = false := by rw [h4]; rfl
 unfold c8 at hc
 rw [e1, cond_false, e2, cond_false, e3, cond_false] at hc
 exact qN hc
theorem xh {h : Hub} (hc : c8 h = 0) : ∀ p ∈ h.peers, 0 ≤ p.seq ∧ p.seq ≤ 30 := fun p hp => by have := (jE hc p hp).1; omega
theorem nx {r : Rec} (h : aH r = 0) : (r.kind = 1 → 0 ≤ r.o.who ∧ r.o.who < 3) ∧ (r.kind ≠ 1 → 0 ≤ r.who ∧ r.who < 3) ∧ 1 ≤ r.kind ∧ r.kind ≤ 3 ∧ (r.kind ≠ 1 → bF r.roots = 0) := by
 unfold aH at h
 cases h1 : (decide (r.kind < 1) || decide (r.kind > 3)) with
 | true => rw [h1, cond_true] at h; cases h
 | false =>
 rw [h1, cond_false] at h
 simp only [Bool.or_eq_false_iff, decide_eq_false_iff_not] at h1
 cases h2 : (r.kind == 1) with
 | true =>
  rw [h2, cond_true] at h
  have h2 := eq_of_beq h2
  cases h3 : (((r.who != 0) || (r.life != 0)) || decide ((r.roots.length : Int) > 0)) with
  | true => rw [h3, cond_true] at h; cases h
  | false =>
   rw [h3, cond_false, dI] at h
   have := pZ h
   exact ⟨fun _ => by omega, fun hn => absurd h2 hn, by omega, by omega, fun hn => absurd h2 hn⟩
 | false =>
  rw [h2, cond_false] at h
  have h2 := beq_eq_false_iff_ne.1 h2
  cases h3 : (((!(decide (r.o = (⟨0, 0, 0, 0, 0, 0, 0⟩ : Op)))) || ((r.kind == 3) && (r.life != 0))) || ((r.kind == 2) && decide ((r.roots.length : Int) > 0))) with
  | true => rw [h3, cond_true] at h; cases h
  | false =>
   rw [h3, cond_false] at h
   cases h4 : ((decide (r.who < 0) || decide (r.who ≥ 3)) || ((r.kind == 2) && (decide (r.life < 1) || decide (r.life > 50)))) with
   | true => rw [h4, cond_true] at h; cases h
   | false =>
    rw [h4, cond_false] at h
    simp only [Bool.or_eq_false_iff, decide_eq_false_iff_not] at h4
    exact ⟨fun he => absurd he h2, fun _ => by omega, by omega, by omega, fun _ => h⟩
def ck (h1 : Hub) (o1 : Op) : Int × Hub :=
 (bif (((gt h1.peers o1.who.toNat).life != o1.life) || (((gt h1.peers o1.who.toNat).seq + 1) != o1.seq)) then (7, h1) else (bif ((aZ h1.h o1).2 == 0) then ((aZ h1.h o1).2, (⟨(aZ h1.h o1).1, h1.version, (h1.peers.set o1.who.toNat (⟨(gt h1.peers o1.who.toNat).life, o1.seq, (gt h1.peers o1.who.toNat).roots⟩ : Peer))⟩ : Hub)) else ((aZ h1.h o1).2, h1)))
theorem og (c1 : Nat) (y1 : SlV) (y2 : SlV) (y3 : SlV) (y3b : Option Nat) (γ1 : Nat → SlV) (h1 : Hub) (o1 : Op) (hp : h1.peers.length = 3) (hw : 0 ≤ o1.who ∧ o1.who < 3) (hl : h1.h.l.length ≤ 1000) (hs : ∀ p ∈ h1.peers, 0 ≤ p.seq ∧ p.seq ≤ 30) : DoesG Tryz.prog 156 [.pointer (some ⟨c1, 0, none⟩), .agg ⟨cO o1⟩] [RdL EStep y1 h1.h.l, RdL EPlace y2 h1.h.t, FactsG NPeer γ1 h1.peers] ⟨[⟨c1, 30, [y1.val h1.h.l.length, y2.val h1.h.t.length, .int .i64 h1.version, y3.val h1.peers.length]⟩], [ownL NPeer.E 84 y3 y3b (zipG γ1 0 h1.peers)]⟩ (fun (X : SlV × SlV × SlV × Option Nat × (Nat → SlV)) => .int .i64 (ck h1 o1).1) (fun X => [RdL EStep X.1 (ck h1 o1).2.h.l, RdL EPlace X.2.1 (ck h1 o1).2.h.t, FactsG NPeer X.2.2.2.2 (ck h1 o1).2.peers]) (fun X => ⟨[⟨c1, 30, [X.1.val (ck h1 o1).2.h.l.length, X.2.1.val (ck h1 o1).2.h.t.length, .int .i64 (ck h1 o1).2.version, X.2.2.1.val (ck h1 o1).2.peers.length]⟩], [ownL NPeer.E 84 X.2.2.1 X.2.2.2.1 (zipG X.2.2.2.2 0 (ck h1 o1).2.peers)]⟩) := by
 refine Dq aK Tryz.func156 Tryz.ntmps156 Tryz.results156 fun C => ?_
 refine BxT fun g1 => ?_
 refine Tx ?_
 have hsb := hs (gt h1.peers o1.who.toNat) (eM (by omega))
 (repeat refine aD ?_); refine ap (fun _ => some []) ?_
 refine Dx (.range 7) ?_
 refine Oq NPeer.E y3 (zipG γ1 0 h1.peers) (Fa 7 []) (fm NPeer γ1 o1.who.toNat rfl rfl Zf rfl Zf rfl rfl rfl (.head _) rfl Zo Za) ?_
 refine Ra 8 rfl Qp ?_
 refine Re0 ?_
 (repeat refine aD ?_); refine ap (fun _ => some []) ?_
 refine Dx [0,1,2] ?_
 refine Oq NPeer.E y3 (zipG γ1 0 h1.peers) (Fb 3 [4,5]) (kQ NPeer γ1 (v := .int .i64 (gt h1.peers o1.who.toNat).life) rfl rfl Zf rfl rfl (.head _) Za rfl) ?_
 refine Dx (.range' 4 7) ?_
 refine nS NPeer.E (e := 84) (X := y3) (b := y3b) (l := zipG γ1 0 h1.peers) Mm (.ab (i := 11) (js := [13, 14]) [12, 15, 16] rfl Kr Kr Kr Kr Kr) (dR rfl rfl rfl) rfl rfl (kQ NPeer γ1 (v := .int .i64 (gt h1.peers o1.who.toNat).seq) rfl rfl Bt rfl rfl (.head _) (by first | (intro _; first | assumption | omega | (simp only [List.length_set]; omega)) | (intro h; simp at h; omega)) rfl) ?_
 refine Dx [12,13,14,15,16] ?_
 refine Re0 ?_
 have hf := Ri (ck.eq_1 h1 o1)
 refine Ch hf (fun hc1 hf => ?_) fun hc1 hf => ?_
 ·refine Rx ?_; exact Re ⟨y1, y2, y3, y3b, γ1⟩ Rv
 ·refine Tx ?_
  refine Jn (Nat × SlV × SlV) [0, 3, 4, 5] [true, true] (fun ⟨g2, x1, x2⟩ => ⟨[(6, .v (.pointer (some ⟨g2, 0, none⟩))), (7, .v (.int .i64 (aZ h1.h o1).2))], [⟨g2, 27, [x1.val (aZ h1.h o1).1.l.length, x2.val (aZ h1.h o1).1.t.length]⟩], [ownL NPeer.E 84 y3 y3b (zipG γ1 0 h1.peers)], [RdL EStep x1 (aZ h1.h o1).1.l, RdL EPlace x2 (aZ h1.h o1).1.t], True, 0⟩) ?_ ?_
  ·refine ap (fun j => match j with | 10 => none | _ => some []) ?_
   refine Dx [0,1,2,3,4] ?_
   refine Rw 5 9 ?_ ?_
   ·refine Ck (kr y1 y2 h1.h o1 Zc) fun x3 => ?_
    refine Pr EStep x3.1 (aZ h1.h o1).1.l 88 fun hlen1 => ?_
    refine Pr EPlace x3.2 (aZ h1.h o1).1.t 24 fun hlen2 => ?_
    refine Dx [6,7] ?_
    refine ra_p (Fa 8 [9,10]) rfl rfl rfl Xv ?_
    refine Rn 9 ?_
    refine cw (.an rfl rfl) (al rfl) rfl rfl rfl rfl fun g3 => ?_
    refine Rn 10 ?_
    refine Wa ?_
    refine Ra 11 rfl Qp ?_
    refine Re0 ?_
    refine ⟨⟨g3, x3.1, x3.2⟩, trivial, Le4⟩
   ·refine cw (.an rfl rfl) (al rfl) rfl rfl rfl rfl fun g4 => ?_
    refine Rn 5 ?_
    refine Ck (kr y1 y2 h1.h o1 Zc) fun x4 => ?_
    refine Pr EStep x4.1 (aZ h1.h o1).1.l 88 fun hlen3 => ?_
    refine Pr EPlace x4.2 (aZ h1.h o1).1.t 24 fun hlen4 => ?_
    refine Dx [6,7] ?_
    refine ra_p (Fa 8 [10]) rfl rfl rfl Xv ?_
    refine Rn 10 ?_
    refine Wa ?_
    refine Ra 11 rfl Qp ?_
    refine Re0 ?_
    refine ⟨⟨g4, x4.1, x4.2⟩, trivial, Le4⟩
  ·rintro ⟨g2, x1, x2⟩ -
   simp only [Lc]
   refine Ce hf (fun hc2 hc2p hf => ?_) fun hc2 hc2p hf => ?_
   ·(repeat refine aD ?_); refine ap (fun j => match j with | 7 => none | 10 => none | _ => some []) ?_
    refine Ra 0 rfl Qp ?_
    refine ra_p (Fa 1 [2,3,4,5,6,7]) rfl rfl rfl Xv ?_
    refine Ra 2 rfl XA ?_
    refine ra_p (Fa 3 [5,6,7]) rfl rfl rfl Xv ?_
    refine Dx [5,6] ?_
    refine Rw 4 7 ?_ ?_
    ·refine ul rfl rfl rfl rfl (q_ld1 rfl rfl Zf rfl Mm rfl) ?_
     refine Rn 7 ?_
     refine Wp ?_
     refine Dx [8,9] ?_
     refine Rn 10 ?_
     refine Wn NPeer γ1 h1.peers o1.who.toNat 1 (γ1 o1.who.toNat) (⟨(gt h1.peers o1.who.toNat).life, o1.seq, (gt h1.peers o1.who.toNat).roots⟩ : Peer) y3b ?_
     refine Fg NPeer γ1 h1.peers o1.who.toNat 0 ?_
     refine Fu NPeer γ1 h1.peers o1.who.toNat (γ1 o1.who.toNat) (⟨(gt h1.peers o1.who.toNat).life, o1.seq, (gt h1.peers o1.who.toNat).roots⟩ : Peer) ?_
     have hv1 : y3.val h1.peers.length = y3.val (h1.peers.set o1.who.toNat (⟨(gt h1.peers o1.who.toNat).life, o1.seq, (gt h1.peers o1.who.toNat).roots⟩ : Peer)).length := congrArg (SlV.val y3) List.length_set.symm
     (try simp only [cB, cC, cW]); try rw [hv1]
     refine Re0 ?_
     refine Rx ?_; exact Re ⟨x1, x2, y3, y3b, (updG γ1 o1.who.toNat (γ1 o1.who.toNat))⟩ Rv
    ·refine Wp ?_
     refine Dx [4,8,9] ?_
     refine Rn 10 ?_
     refine Wn NPeer γ1 h1.peers o1.who.toNat 1 (γ1 o1.who.toNat) (⟨(gt h1.peers o1.who.toNat).life, o1.seq, (gt h1.peers o1.who.toNat).roots⟩ : Peer) y3b ?_
     refine Fg NPeer γ1 h1.peers o1.who.toNat 0 ?_
     refine Fu NPeer γ1 h1.peers o1.who.toNat (γ1 o1.who.toNat) (⟨(gt h1.peers o1.who.toNat).life, o1.seq, (gt h1.peers o1.who.toNat).roots⟩ : Peer) ?_
     have hv2 : y3.val h1.peers.length = y3.val (h1.peers.set o1.who.toNat (⟨(gt h1.peers o1.who.toNat).life, o1.seq, (gt h1.peers o1.who.toNat).roots⟩ : Peer)).length := congrArg (SlV.val y3) List.length_set.symm
     (try simp only [cB, cC, cW]); try rw [hv2]
     refine Re0 ?_
     refine Rx ?_; exact Re ⟨x1, x2, y3, y3b, (updG γ1 o1.who.toNat (γ1 o1.who.toNat))⟩ Rv
   ·refine Rx ?_; exact Re ⟨y1, y2, y3, y3b, γ1⟩ Rv
def aB (h1 : Hub) (r1 : Rec) : Hub × Int :=
 (bif ((aH r1) != 0) then ((⟨(⟨[], []⟩ : History), 0, ([] : List Peer)⟩ : Hub), (aH r1)) else (bif (h1.version == 60) then ((⟨(⟨[], []⟩ : History), 0, ([] : List Peer)⟩ : Hub), 2) else (bif (r1.kind == 1) then (bif ((ck (⟨h1.h, (h1.version + 1), h1.peers⟩ : Hub) r1.o).1 != 0) then ((⟨(⟨[], []⟩ : History), 0, ([] : List Peer)⟩ : Hub), (ck (⟨h1.h, (h1.version + 1), h1.peers⟩ : Hub) r1.o).1) else ((ck (⟨h1.h, (h1.version + 1), h1.peers⟩ : Hub) r1.o).2, 0)) else (bif (r1.kind == 2) then (bif (r1.life != ((gt h1.peers r1.who.toNat).life + 1)) then ((⟨(⟨[], []⟩ : History), 0, ([] : List Peer)⟩ : Hub), 7) else ((⟨h1.h, (h1.version + 1), (h1.peers.set r1.who.toNat (⟨r1.life, 0, ([] : List Int)⟩ : Peer))⟩ : Hub), 0)) else (bif (r1.kind == 3) then (bif ((gt h1.peers r1.who.toNat).life == 0) then ((⟨(⟨[], []⟩ : History), 0, ([] : List Peer)⟩ : Hub), 5) else ((⟨h1.h, (h1.version + 1), (h1.peers.set r1.who.toNat (⟨(gt h1.peers r1.who.toNat).life, (gt h1.peers r1.who.toNat).seq, r1.roots⟩ : Peer))⟩ : Hub), 0)) else ((⟨h1.h, (h1.version + 1), h1.peers⟩ : Hub), 0))))))
theorem mf (y1 : SlV) (y2 : SlV) (y3 : SlV) (h1 : Hub) (y4 : SlV) (r1 : Rec) (hk : c8 h1 = 0) : Does Tryz.prog 109 [.agg ⟨cB y1 y2 y3 h1⟩, .agg ⟨cR y4 r1⟩] [RdL EStep y1 h1.h.l, RdL EPlace y2 h1.h.t, RdN NPeer y3 h1.peers, RdL EInt y4 r1.roots] (fun (X : SlV × SlV × SlV) => .tuple #[.agg ⟨cB X.1 X.2.1 X.2.2 (aB h1 r1).1⟩, .int .i64 (aB h1 r1).2]) (fun X => [RdL EStep X.1 (aB h1 r1).1.h.l, RdL EPlace X.2.1 (aB h1 r1).1.h.t, RdN NPeer X.2.2 (aB h1 r1).1.peers]) := by
 refine Dp aK Tryz.func109 Tryz.ntmps109 Tryz.results109 fun C => ?_
 refine Pc EStep y1 h1.h.l 88 fun hlen1 => ?_
 refine Pc EPlace y2 h1.h.t 24 fun hlen2 => ?_
 refine Pn NPeer y3 h1.peers 40 fun hlen3 => ?_
 refine Pc EInt y4 r1.roots 8 fun hlen4 => ?_
 refine BxT fun g1 => ?_
 refine BxT fun g2 => ?_
 refine AlT fun g3 => ?_
 refine Ck (fB y4 r1) fun _ => ?_
 have hf := Ri (aB.eq_1 h1 r1)
 refine Cn hf (fun hc1 hc1p hf => ?_) fun hc1 hc1p hf => ?_
 ·refine Tx ?_
  refine Fc EStep ?_
  refine Fc EPlace ?_
  refine Ft NPeer ?_
  refine Rx ?_; exact Re ⟨Z0, Z0, Z0⟩ Rv
 ·have hnw := nx (ai hc1)
  have hcl := eT hk
  have hcq := mN hcl.1
  have hsq := xh hk
  refine Ce hf (fun hc2 hc2p hf => ?_) fun hc2 hc2p hf => ?_
  ·refine Tx ?_
   refine Fc EStep ?_
   refine Fc EPlace ?_
   refine Ft NPeer ?_
   refine Rx ?_; exact Re ⟨Z0, Z0, Z0⟩ Rv
  ·refine Cm (lH y1 y2 y3 h1) fun x1 => ?_
   refine Pr EStep x1.1 h1.h.l 88 fun hlen5 => ?_
   refine Pr EPlace x1.2.1 h1.h.t 24 fun hlen6 => ?_
   refine Ce hf (fun hc3 hc3p hf => ?_) fun hc3 hc3p hf => ?_
   ·refine Cm (og g1 x1.1 x1.2.1 x1.2.2.1 x1.2.2.2.1 x1.2.2.2.2 (⟨h1.h, (h1.version + 1), h1.peers⟩ : Hub) r1.o hcl.2.2.2 (hnw.1 (by assumption)) (Nat.le_trans hcq (by omega)) hsq) fun x2 => ?_
    refine Cn hf (fun hc4 hc4p hf => ?_) fun hc4 hc4p hf => ?_
    ·refine Tx ?_
     refine Fc EStep ?_
     refine Fc EPlace ?_
     refine Ft NPeer ?_
     refine Rx ?_; exact Re ⟨Z0, Z0, Z0⟩ Rv
    ·refine Tx ?_
     refine cw_le (ar NPeer.E 84 x2.2.2.1 x2.2.2.2.1 (zipG x2.2.2.2.2 0 (ck (⟨h1.h, (h1.version + 1), h1.peers⟩ : Hub) r1.o).2.peers) Uo) ?_
     refine Fj NPeer x2.2.2.1 x2.2.2.2.2 (ck (⟨h1.h, (h1.version + 1), h1.peers⟩ : Hub) r1.o).2.peers ?_
     refine Rx ?_; exact Re ⟨x2.1, x2.2.1, x2.2.2.1⟩ Rv
   ·refine Ce hf (fun hc5 hc5p hf => ?_) fun hc5 hc5p hf => ?_
    ·have hlb := (jE hk (gt h1.peers r1.who.toNat) (eM (by omega))).1
     (repeat refine aD ?_); refine ap (fun _ => some []) ?_
     refine Dx (.range 6) ?_
     refine Oq NPeer.E x1.2.2.1 (zipG x1.2.2.2.2 0 h1.peers) (Fb 6 []) (fm NPeer x1.2.2.2.2 r1.who.toNat rfl rfl Zf rfl Zf rfl rfl rfl (.head _) rfl Zo Za) ?_
     refine Rb 7 rfl Xf ?_
     refine Oq NPeer.E x1.2.2.1 (zipG x1.2.2.2.2 0 h1.peers) (Fb 8 []) (kQ NPeer x1.2.2.2.2 (v := .int .i64 (gt h1.peers r1.who.toNat).life) rfl rfl Zf rfl rfl (.head _) Za rfl) ?_
     refine Dx [9,10] ?_
     refine Re0 ?_
     refine Cn hf (fun hc6 hc6p hf => ?_) fun hc6 hc6p hf => ?_
     ·refine Tx ?_
      refine Oq NPeer.E x1.2.2.1 (zipG x1.2.2.2.2 0 h1.peers) .sq (fm NPeer x1.2.2.2.2 r1.who.toNat rfl rfl Zf rfl Zf rfl rfl rfl (.head _) rfl Zo Za) ?_
      refine Fr EInt ?_
      refine Wn NPeer x1.2.2.2.2 h1.peers r1.who.toNat 0 Z0 (⟨r1.life, 0, ([] : List Int)⟩ : Peer) x1.2.2.2.1 ?_
      refine Fu NPeer x1.2.2.2.2 h1.peers r1.who.toNat Z0 (⟨r1.life, 0, ([] : List Int)⟩ : Peer) ?_
      have hv1 : x1.2.2.1.val h1.peers.length = x1.2.2.1.val (h1.peers.set r1.who.toNat (⟨r1.life, 0, ([] : List Int)⟩ : Peer)).length := congrArg (SlV.val x1.2.2.1) List.length_set.symm
      (try simp only [cB, cC, cW]); try rw [hv1]
      refine Cd' (fun hc7 => ?_) fun hc7 => ?_
      ·refine Tx ?_
       refine Fc EStep ?_
       refine Fc EPlace ?_
       refine Ft NPeer ?_
       refine Rx ?_; exact Re ⟨Z0, Z0, Z0⟩ Rv
      ·exact Bool.noConfusion (hc7.symm.trans (show ((7 : Int) != 0) = true by decide))
     ·refine Tx ?_
      refine Oq NPeer.E x1.2.2.1 (zipG x1.2.2.2.2 0 h1.peers) .sq (fm NPeer x1.2.2.2.2 r1.who.toNat rfl rfl Zf rfl Zf rfl rfl rfl (.head _) rfl Zo Za) ?_
      refine Fr EInt ?_
      refine Wn NPeer x1.2.2.2.2 h1.peers r1.who.toNat 0 Z0 (⟨r1.life, 0, ([] : List Int)⟩ : Peer) x1.2.2.2.1 ?_
      refine Fu NPeer x1.2.2.2.2 h1.peers r1.who.toNat Z0 (⟨r1.life, 0, ([] : List Int)⟩ : Peer) ?_
      have hv2 : x1.2.2.1.val h1.peers.length = x1.2.2.1.val (h1.peers.set r1.who.toNat (⟨r1.life, 0, ([] : List Int)⟩ : Peer)).length := congrArg (SlV.val x1.2.2.1) List.length_set.symm
      (try simp only [cB, cC, cW]); try rw [hv2]
      refine Cd' (fun hc8 => ?_) fun hc8 => ?_
      ·exact Bool.noConfusion (hc8.symm.trans (show ((0 : Int) != 0) = false by decide))
      ·refine Tx ?_
       refine cw_le (ar NPeer.E 84 x1.2.2.1 x1.2.2.2.1 (zipG (updG x1.2.2.2.2 r1.who.toNat Z0) 0 (h1.peers.set r1.who.toNat (⟨r1.life, 0, ([] : List Int)⟩ : Peer))) Uo) ?_
       refine Fj NPeer x1.2.2.1 (updG x1.2.2.2.2 r1.who.toNat Z0) (h1.peers.set r1.who.toNat (⟨r1.life, 0, ([] : List Int)⟩ : Peer)) ?_
       refine Rx ?_; exact Re ⟨x1.1, x1.2.1, x1.2.2.1⟩ Rv
    ·refine Ce hf (fun hc9 hc9p hf => ?_) fun hc9 hc9p hf => ?_
     ·refine Tx ?_
      refine Oq NPeer.E x1.2.2.1 (zipG x1.2.2.2.2 0 h1.peers) .sq (fm NPeer x1.2.2.2.2 r1.who.toNat rfl rfl Zf rfl Zf rfl rfl rfl (.head _) rfl Zo Za) ?_
      refine Sq Xf ?_
      refine Oq NPeer.E x1.2.2.1 (zipG x1.2.2.2.2 0 h1.peers) .sq (kQ NPeer x1.2.2.2.2 (v := .int .i64 (gt h1.peers r1.who.toNat).life) rfl rfl Zf rfl rfl (.head _) Za rfl) ?_
      refine Ce hf (fun hc10 hc10p hf => ?_) fun hc10 hc10p hf => ?_
      ·refine Tx ?_
       (repeat refine aD ?_); refine ap (fun j => match j with | 9 => some x1.2.2.2.1.toList | _ => some []) ?_
       refine Dx (.range 6) ?_
       refine Rn 6 ?_
       refine Cm (bX y4 r1.roots) fun x3 => ?_
       refine Oq NPeer.E x1.2.2.1 (zipG x1.2.2.2.2 0 h1.peers) (Fb 7 []) (fm NPeer x1.2.2.2.2 r1.who.toNat rfl rfl Zf rfl Zf rfl rfl rfl (.head _) rfl Zo Za) ?_
       refine Ra 8 rfl Xf ?_
       refine Rn 9 ?_
       refine rw_le (ar EInt 3 x3.1 x3.2 r1.roots Uo) ?_
       refine Wn NPeer x1.2.2.2.2 h1.peers r1.who.toNat 2 x3.1 (⟨(gt h1.peers r1.who.toNat).life, (gt h1.peers r1.who.toNat).seq, r1.roots⟩ : Peer) x1.2.2.2.1 ?_
       refine Fu NPeer x1.2.2.2.2 h1.peers r1.who.toNat x3.1 (⟨(gt h1.peers r1.who.toNat).life, (gt h1.peers r1.who.toNat).seq, r1.roots⟩ : Peer) ?_
       have hv3 : x1.2.2.1.val h1.peers.length = x1.2.2.1.val (h1.peers.set r1.who.toNat (⟨(gt h1.peers r1.who.toNat).life, (gt h1.peers r1.who.toNat).seq, r1.roots⟩ : Peer)).length := congrArg (SlV.val x1.2.2.1) List.length_set.symm
       (try simp only [cB, cC, cW]); try rw [hv3]
       refine Re0 ?_
       refine Cd' (fun hc11 => ?_) fun hc11 => ?_
       ·refine Tx ?_
        refine Fc EStep ?_
        refine Fc EPlace ?_
        refine Ft NPeer ?_
        refine Rx ?_; exact Re ⟨Z0, Z0, Z0⟩ Rv
       ·exact Bool.noConfusion (hc11.symm.trans (show ((5 : Int) != 0) = true by decide))
      ·refine Tx ?_
       (repeat refine aD ?_); refine ap (fun j => match j with | 9 => some x1.2.2.2.1.toList | _ => some []) ?_
       refine Dx (.range 6) ?_
       refine Rn 6 ?_
       refine Cm (bX y4 r1.roots) fun x4 => ?_
       refine Oq NPeer.E x1.2.2.1 (zipG x1.2.2.2.2 0 h1.peers) (Fb 7 []) (fm NPeer x1.2.2.2.2 r1.who.toNat rfl rfl Zf rfl Zf rfl rfl rfl (.head _) rfl Zo Za) ?_
       refine Ra 8 rfl Xf ?_
       refine Rn 9 ?_
       refine rw_le (ar EInt 3 x4.1 x4.2 r1.roots Uo) ?_
       refine Wn NPeer x1.2.2.2.2 h1.peers r1.who.toNat 2 x4.1 (⟨(gt h1.peers r1.who.toNat).life, (gt h1.peers r1.who.toNat).seq, r1.roots⟩ : Peer) x1.2.2.2.1 ?_
       refine Fu NPeer x1.2.2.2.2 h1.peers r1.who.toNat x4.1 (⟨(gt h1.peers r1.who.toNat).life, (gt h1.peers r1.who.toNat).seq, r1.roots⟩ : Peer) ?_
       have hv4 : x1.2.2.1.val h1.peers.length = x1.2.2.1.val (h1.peers.set r1.who.toNat (⟨(gt h1.peers r1.who.toNat).life, (gt h1.peers r1.who.toNat).seq, r1.roots⟩ : Peer)).length := congrArg (SlV.val x1.2.2.1) List.length_set.symm
       (try simp only [cB, cC, cW]); try rw [hv4]
       refine Re0 ?_
       refine Cd' (fun hc12 => ?_) fun hc12 => ?_
       ·exact Bool.noConfusion (hc12.symm.trans (show ((0 : Int) != 0) = false by decide))
       ·refine Tx ?_
        refine cw_le (ar NPeer.E 84 x1.2.2.1 x1.2.2.2.1 (zipG (updG x1.2.2.2.2 r1.who.toNat x4.1) 0 (h1.peers.set r1.who.toNat (⟨(gt h1.peers r1.who.toNat).life, (gt h1.peers r1.who.toNat).seq, r1.roots⟩ : Peer))) Uo) ?_
        refine Fj NPeer x1.2.2.1 (updG x1.2.2.2.2 r1.who.toNat x4.1) (h1.peers.set r1.who.toNat (⟨(gt h1.peers r1.who.toNat).life, (gt h1.peers r1.who.toNat).seq, r1.roots⟩ : Peer)) ?_
        refine Rx ?_; exact Re ⟨x1.1, x1.2.1, x1.2.2.1⟩ Rv
     ·refine Cd' (fun hc13 => ?_) fun hc13 => ?_
      ·exact Bool.noConfusion (hc13.symm.trans (show ((0 : Int) != 0) = false by decide))
      ·refine Tx ?_
       refine cw_le (ar NPeer.E 84 x1.2.2.1 x1.2.2.2.1 (zipG x1.2.2.2.2 0 h1.peers) Uo) ?_
       refine Fj NPeer x1.2.2.1 x1.2.2.2.2 h1.peers ?_
       refine Rx ?_; exact Re ⟨x1.1, x1.2.1, x1.2.2.1⟩ Rv
def er (h1 : Hub) (r1 : Rec) : Hub × Int :=
 (bif ((c8 h1) != 0) then ((⟨(⟨[], []⟩ : History), 0, ([] : List Peer)⟩ : Hub), (c8 h1)) else ((aB h1 r1).1, (aB h1 r1).2))
theorem mi (y1 : SlV) (y2 : SlV) (y3 : SlV) (h1 : Hub) (y4 : SlV) (r1 : Rec) : Does Tryz.prog 176 [.agg ⟨cB y1 y2 y3 h1⟩, .agg ⟨cR y4 r1⟩] [RdL EStep y1 h1.h.l, RdL EPlace y2 h1.h.t, RdN NPeer y3 h1.peers, RdL EInt y4 r1.roots] (fun (X : SlV × SlV × SlV) => .tuple #[.agg ⟨cB X.1 X.2.1 X.2.2 (er h1 r1).1⟩, .int .i64 (er h1 r1).2]) (fun X => [RdL EStep X.1 (er h1 r1).1.h.l, RdL EPlace X.2.1 (er h1 r1).1.h.t, RdN NPeer X.2.2 (er h1 r1).1.peers]) := by
 refine Dp aK Tryz.func176 Tryz.ntmps176 Tryz.results176 fun C => ?_
 refine Pc EStep y1 h1.h.l 88 fun hlen1 => ?_
 refine Pc EPlace y2 h1.h.t 24 fun hlen2 => ?_
 refine Pn NPeer y3 h1.peers 40 fun hlen3 => ?_
 refine Pc EInt y4 r1.roots 8 fun hlen4 => ?_
 refine BxT fun g1 => ?_
 refine BxT fun g2 => ?_
 refine AlT fun g3 => ?_
 refine Ck (lJ y1 y2 y3 h1) fun _ => ?_
 have hf := Ri (er.eq_1 h1 r1)
 refine Cn hf (fun hc1 hc1p hf => ?_) fun hc1 hc1p hf => ?_
 ·refine Tx ?_
  refine Fc EStep ?_
  refine Fc EPlace ?_
  refine Ft NPeer ?_
  refine Rx ?_; exact Re ⟨Z0, Z0, Z0⟩ Rv
 ·refine Ck (mf y1 y2 y3 h1 y4 r1 (ai (by assumption))) fun x1 => ?_
  refine Pr EStep x1.1 (aB h1 r1).1.h.l 88 fun hlen5 => ?_
  refine Pr EPlace x1.2.1 (aB h1 r1).1.h.t 24 fun hlen6 => ?_
  refine Pm NPeer x1.2.2 (aB h1 r1).1.peers 40 fun hlen7 => ?_
  refine Rx ?_; exact Re ⟨x1.1, x1.2.1, x1.2.2⟩ Rv
end Go.Proofs.YtkjccbdeaflekaaGreatDoor

namespace Go.Proofs.YtkjccbdeaflekaaGreatDoor
open Go Go.Proofs.YtkjccbdeaflekaaGreatDoor.Fw Go.Proofs
structure sZ (p : Peer) : Prop where
 rng : 0 ≤ p.life ∧ p.life ≤ 50 ∧ 0 ≤ p.seq ∧ p.seq ≤ 30
 new : p.life = 0 → p.seq = 0 ∧ p.roots = []
 roots : bF p.roots = 0
structure IsHub (h : Hub) : Prop where
 hist : bk h.h = 0
 vers : 0 ≤ h.version ∧ h.version ≤ 60
 three : h.peers.length = 3
 peers : ∀ p ∈ h.peers, sZ p
theorem qO : ∀ {l : List Peer}, (∀ p ∈ l, sZ p) → es l = 0
 | [], _ => rfl
 | q :: l, h => by
  obtain ⟨h1, h2, h3⟩ := h q (.head _)
  have e1 : (((decide (q.life < 0) || decide (q.life > 50)) || decide (q.seq < 0)) || decide (q.seq > 30)) = false := by
   simp only [Bool.or_eq_false_iff, decide_eq_false_iff_not]; omega
  have e2 : ((q.life == 0) && (decide (q.seq > 0) || decide ((q.roots.length : Int) > 0))) = false := by
   cases hl : (q.life == 0) with
   | false => rfl
   | true =>
    obtain ⟨h4, h5⟩ := h2 (eq_of_beq hl)
    rw [h4, h5]; rfl
  rw [es, e1, cond_false, e2, cond_false, h3]
  exact qO fun p hp => h p (.tail _ hp)
theorem eU (h : Hub) : c8 h = 0 ↔ IsHub h := by
 constructor
 ·intro hc
  obtain ⟨h1, h2, h3, h4⟩ := eT hc
  exact ⟨h1, ⟨h2, h3⟩, h4, fun p hp => by obtain ⟨a, b, c⟩ := jE hc p hp; exact ⟨a, b, c⟩⟩
 ·intro ⟨h1, h2, h3, h4⟩
  have e1 : (bk h.h != 0) = false := by rw [h1]; rfl
  have e2 : (decide (h.version < 0) || decide (h.version > 60)) = false := by simp only [Bool.or_eq_false_iff, decide_eq_false_iff_not]; omega
  have e3 : ((h.peers.length : Int) != 3) = false := by rw [h3]; rfl
  unfold c8
  rw [e1, cond_false, e2, cond_false, e3, cond_false]
  exact qO h4
theorem nY {h : Hub} (hh : IsHub h) {i : Nat} {q : Peer} (hq : sZ q) : ∀ p ∈ h.peers.set i q, sZ p := fun p hp => by
 rcases List.mem_or_eq_of_mem_set hp with h1 | h1
 ·exact hh.peers p h1
 ·rw [h1]; exact hq
theorem tH {h : History} (hc : bk h = 0) (o : Op) : dL h o = aZ h o := by
 unfold dL
 have e1 : (bk h != 0) = false := by rw [hc]; rfl
 rw [e1, cond_false]
theorem vc {h : History} (hc : bk h = 0) {o : Op} (h0 : (aZ h o).2 = 0) : bk (aZ h o).1 = 0 := by
 rw [← tH hc] at h0 ⊢
 obtain ⟨S, h1, h2, h3, h4, h5, h6⟩ := tI h0
 rw [lg, h6.ops]
 exact h6
theorem uY {h : Hub} (hh : IsHub h) {o : Op} (ho : chkO o = 0) (h0 : (ck h o).1 = 0) : IsHub (ck h o).2 ∧ (ck h o).2.version = h.version := by
 unfold ck at h0 ⊢
 cases h1 : (((gt h.peers o.who.toNat).life != o.life) || ((gt h.peers o.who.toNat).seq + 1 != o.seq)) with
 | true => rw [h1, cond_true] at h0; cases h0
 | false =>
 rw [h1, cond_false] at h0
 rw [cond_false]
 cases h2 : ((aZ h.h o).2 == 0) with
 | false =>
  rw [h2, cond_false] at h0
  simp only at h0
  rw [h0] at h2; cases h2
 | true =>
  rw [cond_true]
  have hc := pZ ho
  have hm : gt h.peers o.who.toNat ∈ h.peers := eM (by rw [hh.three]; omega)
  have hp := hh.peers _ hm
  simp only [Bool.or_eq_false_iff, bne_eq_false_iff_eq] at h1
  have hr := hp.rng
  refine ⟨⟨vc hh.hist (eq_of_beq h2), hh.vers, by rw [List.length_set]; exact hh.three, nY hh ⟨?_, ?_, hp.roots⟩⟩, rfl⟩
  ·simp only; omega
  ·simp only; intro hl; omega
theorem uy {h : Hub} (hh : IsHub h) {r : Rec} (h0 : (aB h r).2 = 0) : IsHub (aB h r).1 ∧ (aB h r).1.version = h.version + 1 := by
 unfold aB at h0 ⊢
 cases h1 : (aH r != 0) with
 | true => rw [h1, cond_true] at h0; simp only at h0; rw [h0] at h1; cases h1
 | false =>
 rw [h1, cond_false] at h0
 rw [cond_false]
 obtain ⟨w1, w2, w3, w4, w5⟩ := nx (ai h1)
 cases h2 : (h.version == 60) with
 | true => rw [h2, cond_true] at h0; cases h0
 | false =>
 rw [h2, cond_false] at h0
 rw [cond_false]
 have hv := hh.vers
 have h2 := beq_eq_false_iff_ne.1 h2
 have hh' : IsHub ⟨h.h, h.version + 1, h.peers⟩ := ⟨hh.hist, by simp only; omega, hh.three, hh.peers⟩
 cases h3 : (r.kind == 1) with
 | true =>
  rw [h3, cond_true] at h0
  rw [cond_true]
  cases h4 : ((ck ⟨h.h, h.version + 1, h.peers⟩ r.o).1 != 0) with
  | true => rw [h4, cond_true] at h0; simp only at h0; rw [h0] at h4; cases h4
  | false =>
   have ho : chkO r.o = 0 := by
    have hn := ai h1
    unfold aH at hn
    rw [h3, cond_true] at hn
    cases h5 : (decide (r.kind < 1) || decide (r.kind > 3)) with
    | true => rw [h5, cond_true] at hn; cases hn
    | false =>
     rw [h5, cond_false] at hn
     cases h6 : (((r.who != 0) || (r.life != 0)) || decide ((r.roots.length : Int) > 0)) with
     | true => rw [h6, cond_true] at hn; cases hn
     | false => rw [h6, cond_false, dI] at hn; exact hn
   exact uY hh' ho (ai h4)
 | false =>
  rw [h3, cond_false] at h0
  rw [cond_false]
  have h3 := beq_eq_false_iff_ne.1 h3
  have hw := w2 h3
  have hm : gt h.peers r.who.toNat ∈ h.peers := eM (by rw [hh.three]; omega)
  have hp := hh.peers _ hm
  have hr := hp.rng
  cases h4 : (r.kind == 2) with
  | true =>
   rw [h4, cond_true] at h0
   rw [cond_true]
   cases h5 : (r.life != (gt h.peers r.who.toNat).life + 1) with
   | true => rw [h5, cond_true] at h0; cases h0
   | false =>
    have h5 := ai h5
    rw [cond_false]
    have hl : 1 ≤ r.life ∧ r.life ≤ 50 := by
     have hn := ai h1
     unfold aH at hn
     have e1 : (r.kind == 1) = false := beq_eq_false_iff_ne.2 h3
     rw [e1, h4] at hn
     cases h6 : (decide (r.kind < 1) || decide (r.kind > 3)) with
     | true => rw [h6, cond_true] at hn; cases hn
     | false =>
      rw [h6, cond_false, cond_false] at hn
      simp only [Bool.true_and] at hn
      cases h7 : (((!(decide (r.o = (⟨0, 0, 0, 0, 0, 0, 0⟩ : Op)))) || ((r.kind == 3) && (r.life != 0))) || decide ((r.roots.length : Int) > 0)) with
      | true => rw [h7, cond_true] at hn; cases hn
      | false =>
       rw [h7, cond_false] at hn
       cases h8 : ((decide (r.who < 0) || decide (r.who ≥ 3)) || (decide (r.life < 1) || decide (r.life > 50))) with
       | true => rw [h8, cond_true] at hn; cases hn
       | false => simp only [Bool.or_eq_false_iff, decide_eq_false_iff_not] at h8; omega
    exact ⟨⟨hh.hist, by simp only; omega, by rw [List.length_set]; exact hh.three, nY hh ⟨by simp only; omega, fun hz => by simp only at hz; omega, rfl⟩⟩, rfl⟩
  | false =>
   rw [h4, cond_false] at h0
   rw [cond_false]
   cases h5 : (r.kind == 3) with
   | false => exact ⟨hh', rfl⟩
   | true =>
    rw [h5, cond_true] at h0
    rw [cond_true]
    cases h6 : ((gt h.peers r.who.toNat).life == 0) with
    | true => rw [h6, cond_true] at h0; cases h0
    | false =>
     have h6 := beq_eq_false_iff_ne.1 h6
     rw [cond_false]
     exact ⟨⟨hh.hist, by simp only; omega, by rw [List.length_set]; exact hh.three, nY hh ⟨hp.rng, fun hz => absurd hz h6, w5 h3⟩⟩, rfl⟩
theorem lu : IsHub ⟨⟨[], []⟩, 0, [⟨0, 0, []⟩, ⟨0, 0, []⟩, ⟨0, 0, []⟩]⟩ :=
 ⟨by decide +kernel, by decide, rfl, fun p hp => by
  simp only [List.mem_cons, List.not_mem_nil, or_false, or_self] at hp
  subst hp
  exact ⟨by decide, fun _ => ⟨rfl, rfl⟩, by decide +kernel⟩⟩
theorem Rise.nodup {l : List Op} (h : Rise l) : l.Nodup := h.imp fun {a b} hab e => by rw [e, tD] at hab; cases hab
structure TabOf (tb l : List Place) : Prop where
 len : tb.length = 16
 no : ∀ n : Nat, 1 ≤ n → n < 16 → (find l n).node = 0 → (gt tb n).parent < 0
 yes : ∀ n : Nat, 1 ≤ n → n < 16 → (find l n).node ≠ 0 → gt tb n = find l n
theorem TabOf.put {tb l : List Place} (ht : TabOf tb l) {p : Place} (h1 : 1 ≤ p.node ∧ p.node < 16) (hp : 0 ≤ p.parent) : TabOf (tb.set p.node.toNat p) (putT l p) := by
 have hd : decide (p.parent < 0) = false := decide_eq_false (by omega)
 refine ⟨by simp [ht.len], fun n ha hb hz => ?_, fun n ha hb hz => ?_⟩
 ·rw [e8] at hz
  rw [sC _ _ _ _ (by rw [ht.len]; omega)]
  cases he : ((n : Int) == p.node) with
  | true =>
   rw [he, cond_true, hd, cond_false] at hz
   omega
  | false =>
   rw [he, cond_false] at hz
   have : (n : Int) ≠ p.node := by simpa using he
   rw [if_neg (by omega)]
   exact ht.no n ha hb hz
 ·rw [e8] at hz ⊢
  rw [sC _ _ _ _ (by rw [ht.len]; omega)]
  cases he : ((n : Int) == p.node) with
  | true =>
   have : (n : Int) = p.node := by simpa using he
   rw [cond_true, hd, cond_false, if_pos (by omega)]
  | false =>
   rw [he, cond_false] at hz
   have : (n : Int) ≠ p.node := by simpa using he
   rw [if_neg (by omega), cond_false]
   exact ht.yes n ha hb hz
theorem TabOf.drop {tb l : List Place} (ht : TabOf tb l) {n : Int} {q : Place} {p : Place} (h1 : 1 ≤ n ∧ n < 16) (hq : q.parent < 0) (hp : p.parent < 0) (hpn : p.node = n) : TabOf (tb.set n.toNat q) (putT l p) := by
 have hd : decide (p.parent < 0) = true := decide_eq_true hp
 refine ⟨by simp [ht.len], fun m ha hb hz => ?_, fun m ha hb hz => ?_⟩
 ·rw [e8] at hz
  rw [sC _ _ _ _ (by rw [ht.len]; omega)]
  by_cases he : (m : Int) = p.node
  ·rw [if_pos (by omega)]; exact hq
  ·have : ((m : Int) == p.node) = false := by simpa using he
   rw [this, cond_false] at hz
   rw [if_neg (by omega)]
   exact ht.no m ha hb hz
 ·rw [e8] at hz ⊢
  rw [sC _ _ _ _ (by rw [ht.len]; omega)]
  by_cases he : (m : Int) = p.node
  ·have : ((m : Int) == p.node) = true := by simpa using he
   rw [this, cond_true, hd, cond_true] at hz
   exact absurd rfl hz
  ·have : ((m : Int) == p.node) = false := by simpa using he
   rw [this, cond_false] at hz ⊢
   rw [if_neg (by omega)]
   exact ht.yes m ha hb hz
theorem TabOf.puts : ∀ (m : List Place) {tb l : List Place}, TabOf tb l → (∀ p ∈ m, (1 ≤ p.node ∧ p.node < 16) ∧ 0 ≤ p.parent) → TabOf (fQ m tb) (m.foldl putT l)
 | [], _, _, h, _ => h
 | p :: r, _, _, h, hm => by
  rw [fQ, List.foldl_cons]
  exact TabOf.puts r (h.put (hm p (.head _)).1 (hm p (.head _)).2) fun q hq => hm q (.tail _ hq)
end Go.Proofs.YtkjccbdeaflekaaGreatDoor

set_option maxHeartbeats 2000000
namespace Go.Proofs.YtkjccbdeaflekaaGreatDoor
open Go Go.Proofs.YtkjccbdeaflekaaGreatDoor.Fw Go.Proofs
attribute [local irreducible] RdL RdN VarP RW CW
def bj  : List Rec → (List Step) → (List Place) → Int → (List Peer) → (Hub × Int)
 | [], l2, p1, version1, peers1 => ((⟨(⟨l2, p1⟩ : History), version1, peers1⟩ : Hub), 0)
 | pn1 :: rn1, l2, p1, version1, peers1 => (bif ((aB (⟨(⟨l2, p1⟩ : History), version1, peers1⟩ : Hub) pn1).2 != 0) then ((⟨(⟨[], []⟩ : History), 0, ([] : List Peer)⟩ : Hub), (aB (⟨(⟨l2, p1⟩ : History), version1, peers1⟩ : Hub) pn1).2) else (bj rn1 (aB (⟨(⟨l2, p1⟩ : History), version1, peers1⟩ : Hub) pn1).1.h.l (aB (⟨(⟨l2, p1⟩ : History), version1, peers1⟩ : Hub) pn1).1.h.t (aB (⟨(⟨l2, p1⟩ : History), version1, peers1⟩ : Hub) pn1).1.version (aB (⟨(⟨l2, p1⟩ : History), version1, peers1⟩ : Hub) pn1).1.peers))
def aq (l1 : List Rec) : Hub × Int :=
 (bif decide ((l1.length : Int) > 60) then ((⟨(⟨[], []⟩ : History), 0, ([] : List Peer)⟩ : Hub), 2) else (bj l1 bH.h.l bH.h.t bH.version bH.peers))
theorem fE (y1 : SlV) (l1 : List Rec) : Does Tryz.prog 64 [y1.val l1.length] [RdN NRec y1 l1] (fun (X : SlV × SlV × SlV) => .tuple #[.agg ⟨cB X.1 X.2.1 X.2.2 (aq l1).1⟩, .int .i64 (aq l1).2]) (fun X => [RdL EStep X.1 (aq l1).1.h.l, RdL EPlace X.2.1 (aq l1).1.h.t, RdN NPeer X.2.2 (aq l1).1.peers]) := by
 refine Dp aK Tryz.func64 Tryz.ntmps64 Tryz.results64 fun C => ?_
 refine Pn NRec y1 l1 104 fun hlen1 => ?_
 refine AlT fun g1 => ?_
 have hf := Ri (aq.eq_1 l1)
 refine Cp hf (fun hc1 hc1p hf => ?_) fun hc1 hc1p hf => ?_
 ·refine Tx ?_
  refine Fc EStep ?_
  refine Fc EPlace ?_
  refine Ft NPeer ?_
  refine Rx ?_; exact Re ⟨Z0, Z0, Z0⟩ Rv
 ·refine Ck (jc ) fun x1 => ?_
  refine Pr EStep x1.1 bH.h.l 88 fun hlen2 => ?_
  refine Pr EPlace x1.2.1 bH.h.t 24 fun hlen3 => ?_
  refine Pm NPeer x1.2.2 bH.peers 40 fun hlen4 => ?_
  refine AlT fun g2 => ?_
  refine Lq (Nat × List Step × SlV × List Place × SlV × Int × List Peer × SlV) [2,3,4,13,14] [false, true] (fun ⟨n1, l2, x2, p1, x3, version1, peers1, x4⟩ => ⟨[(15, .v (.int .i64 (n1 : Int)))], [⟨g2, 30, [x2.val l2.length, x3.val p1.length, .int .i64 version1, x4.val peers1.length]⟩], [], [RdL EStep x2 l2, RdL EPlace x3 p1, RdN NPeer x4 peers1], (n1 ≤ l1.length) ∧ (c8 (⟨⟨l2, p1⟩, version1, peers1⟩ : Hub) = 0) ∧ (bj (l1.drop n1) l2 p1 version1 peers1) = (aq l1), l1.length - n1⟩) ⟨0, bH.h.l, x1.1, bH.h.t, x1.2.1, bH.version, bH.peers, x1.2.2⟩ ⟨Nat.zero_le _, ((eU _).2 lu), hf.symm⟩ ?_
  rintro ⟨n1, l2, x2, p1, x3, version1, peers1, x4⟩ ⟨hkn1, hinv, hf1⟩
  simp only [Lc]
  refine Cu (fun hlt0 => ?_) fun hge0 => ?_
  ·refine Tx ?_
   refine fl NRec (X := y1) (l := l1) Mm fun (γ1 : Nat → SlV) => ?_
   refine Sq (Xn NRec n1) ?_
   refine Sq (q_is (v' := .agg ⟨cR (γ1 n1) (gt l1 n1)⟩) (fY NRec γ1 rfl rfl Zf rfl rfl Mm (fun _ => by first | assumption | omega)) rfl) ?_
   refine Fg NRec γ1 l1 n1 0 ?_
   refine AlT fun g3 => ?_
   refine Ck (mf x2 x3 x4 (⟨(⟨l2, p1⟩ : History), version1, peers1⟩ : Hub) (γ1 n1) (gt l1 n1) hinv) fun x5 => ?_
   refine Pr EStep x5.1 (aB (⟨(⟨l2, p1⟩ : History), version1, peers1⟩ : Hub) (gt l1 n1)).1.h.l 88 fun hlen5 => ?_
   refine Pr EPlace x5.2.1 (aB (⟨(⟨l2, p1⟩ : History), version1, peers1⟩ : Hub) (gt l1 n1)).1.h.t 24 fun hlen6 => ?_
   refine Pm NPeer x5.2.2 (aB (⟨(⟨l2, p1⟩ : History), version1, peers1⟩ : Hub) (gt l1 n1)).1.peers 40 fun hlen7 => ?_
   have hf := Ri hf1.symm
   rw [bd hlt0, bj] at hf
   refine Cn hf (fun hc3 hc3p hf => ?_) fun hc3 hc3p hf => ?_
   ·refine Tx ?_
    refine Fc EStep ?_
    refine Fc EPlace ?_
    refine Ft NPeer ?_
    refine Rx ?_; exact Re ⟨Z0, Z0, Z0⟩ Rv
   ·refine Tt ?_
    refine ⟨⟨(n1 + 1), (aB (⟨(⟨l2, p1⟩ : History), version1, peers1⟩ : Hub) (gt l1 n1)).1.h.l, x5.1, (aB (⟨(⟨l2, p1⟩ : History), version1, peers1⟩ : Hub) (gt l1 n1)).1.h.t, x5.2.1, (aB (⟨(⟨l2, p1⟩ : History), version1, peers1⟩ : Hub) (gt l1 n1)).1.version, (aB (⟨(⟨l2, p1⟩ : History), version1, peers1⟩ : Hub) (gt l1 n1)).1.peers, x5.2.2⟩, ⟨hlt0, ((eU _).2 (uy ((eU _).1 hinv) (ai (by assumption))).1), hf.symm⟩, Oo, Le4⟩
  ·have hf := Ri hf1.symm
   rw [List.drop_of_length_le hge0, bj] at hf
   refine Rx ?_; exact Re ⟨x2, x3, x4⟩ Rv
end Go.Proofs.YtkjccbdeaflekaaGreatDoor

namespace Go.Proofs.YtkjccbdeaflekaaGreatDoor
open Go Go.Proofs.YtkjccbdeaflekaaGreatDoor.Fw Go.Proofs
theorem sJ (eq : Peer → Peer → Bool) (he : ∀ a, eq a a = true) (s : List Peer) : ∀ (r : List Peer) (n : Nat), r = s.drop n → bw s eq r n = true
 | [], n, _ => by simp [bw]
 | p :: r, n, h => by
  have hn : n < s.length := by
   rcases Nat.lt_or_ge n s.length with h1 | h1
   ·exact h1
   ·rw [List.drop_of_length_le h1] at h; cases h
  rw [bd hn] at h
  obtain ⟨rfl, h'⟩ := List.cons.inj h
  rw [bw, he]
  exact sJ eq he s r (n + 1) h'
theorem mh (a : Hub) : gA a a = true := by
 unfold gA
 have h1 : d8 a.h a.h = true := (mm _ _).2 rfl
 have h2 : c7 a.peers a.peers fK = true := by
  unfold c7
  have e : ((a.peers.length : Int) != (a.peers.length : Int)) = false := bne_self_eq_false _
  rw [e, cond_false]
  exact sJ fK (fun p => by simp [fK]) a.peers a.peers 0 rfl
 rw [h1, h2]; simp
end Go.Proofs.YtkjccbdeaflekaaGreatDoor

set_option maxHeartbeats 2000000
namespace Go.Proofs.YtkjccbdeaflekaaGreatDoor
open Go Go.Proofs.YtkjccbdeaflekaaGreatDoor.Fw Go.Proofs
attribute [local irreducible] RW CW
def dg (a1 : List Place) (gone1 : List Int) : List Place → (List Place) → ((List Int) × (List Place))
 | [], here1 => (gone1, here1)
 | pn2 :: rn2, here1 => (bif (!(decide ((cm a1 pn2.node) = pn2))) then (dg a1 gone1 rn2 (here1 ++ [pn2])) else (dg a1 gone1 rn2 here1))
def dh (a1 : List Place) (b1 : List Place) : List Place → (List Int) → ((List Int) × (List Place))
 | [], gone1 => (dg a1 gone1 b1 [])
 | pn1 :: rn1, gone1 => (bif ((cm b1 pn1.node).node == 0) then (dh a1 b1 rn1 (gone1 ++ [pn1.node])) else (dh a1 b1 rn1 gone1))
def bZ (a1 : List Place) (b1 : List Place) : (List Int) × (List Place) :=
 (dh a1 b1 a1 [])
theorem jL (y1 : SlV) (a1 : List Place) (y2 : SlV) (b1 : List Place) : Does Tryz.prog 207 [y1.val a1.length, y2.val b1.length] [RdL EPlace y1 a1, RdL EPlace y2 b1] (fun (X : SlV × SlV) => .tuple #[X.1.val (bZ a1 b1).1.length, X.2.val (bZ a1 b1).2.length]) (fun X => [RdL EInt X.1 (bZ a1 b1).1, RdL EPlace X.2 (bZ a1 b1).2]) := by
 refine Dp aK Tryz.func207 Tryz.ntmps207 Tryz.results207 fun C => ?_
 refine Pc EPlace y1 a1 24 fun hlen1 => ?_
 refine Pc EPlace y2 b1 24 fun hlen2 => ?_
 refine Tx ?_
 (repeat refine aD ?_); refine Lp [0,1,4,5,7,12,13] [] (fun (i_ : List Int × SlV × Option Nat × Nat) => match i_ with | ⟨gone1, x1, x1b, n1⟩ => (⟨[(6, .v (x1.val gone1.length)), (14, .v (.int .i64 (n1 : Int)))], [], [ownL EInt 3 x1 x1b gone1], [], (n1 ≤ a1.length) ∧ (gone1.length ≤ n1) ∧ (dh a1 b1 (a1.drop n1) gone1) = (bZ a1 b1), a1.length - n1⟩ : Ls)) ⟨[], ⟨none, 0⟩, none, 0⟩ (Sc (Sc (Sc (Sc (Sc (Sc (Sc Sn))))))) (.nil) ⟨Nat.zero_le _, (by first | exact Nat.le_refl _ | exact Nat.zero_le _ | omega), (by simp only [bZ, Cf] : (bZ a1 b1) = (dh a1 b1 a1 [])).symm⟩ (Le.trans (eH EInt 3) Le4) ?_
 rintro ⟨gone1, x1, x1b, n1⟩ ⟨hkn1, hgone1, hf1⟩
 simp only [Lc]
 refine Cu (fun hlt0 => ?_) fun hge0 => ?_
 ·refine Sy Tz (Xi EPlace n1) ?_
  refine Sq (Xa EPlace) ?_
  refine AlT fun g1 => ?_
  refine Ck (ew y2 b1 (gt a1 n1).node) fun _ => ?_
  have hf := Ri hf1.symm
  rw [bd hlt0, dh] at hf
  refine Ce hf (fun hc2 hc2p hf => ?_) fun hc2 hc2p hf => ?_
  ·refine Bl EInt [(gt a1 n1).node] fun x2 x2b => ?_
   refine Ap EInt 8 gone1 [(gt a1 n1).node] x1b fun x3 x3b => ?_
   refine Tt ?_
   refine ⟨⟨(gone1 ++ [(gt a1 n1).node]), x3, x3b, (n1 + 1)⟩, ⟨hlt0, Zl, hf.symm⟩, Oo, Le4⟩
  ·refine Tt ?_
   refine ⟨⟨gone1, x1, x1b, (n1 + 1)⟩, ⟨hlt0, Zl, hf.symm⟩, Oo, Le4⟩
 ·refine Tx ?_
  (repeat refine aD ?_); refine Lp [0,4,5,6,31,32] [] (fun (i_ : List Place × SlV × Option Nat × Nat) => match i_ with | ⟨here1, x4, x4b, n2⟩ => (⟨[(7, .v (x4.val here1.length)), (33, .v (.int .i64 (n2 : Int)))], [], [ownL EInt 3 x1 x1b gone1, ownL EPlace 99 x4 x4b here1], [], (n2 ≤ b1.length) ∧ (here1.length ≤ n2) ∧ (dg a1 gone1 (b1.drop n2) here1) = (bZ a1 b1), b1.length - n2⟩ : Ls)) ⟨[], ⟨none, 0⟩, none, 0⟩ (Sc (Sc (Sc (Sc (Sc (Sc Sn)))))) (.nil) ⟨Nat.zero_le _, (by first | exact Nat.le_refl _ | exact Nat.zero_le _ | omega), (by rw [← hf1, List.drop_of_length_le hge0]; simp only [dh, Cf] : (bZ a1 b1) = (dg a1 gone1 b1 [])).symm⟩ (Le.trans (eH EPlace 99) Le4) ?_
  rintro ⟨here1, x4, x4b, n2⟩ ⟨hkn2, hhere1, hf2⟩
  simp only [Lc]
  refine Cu (fun hlt1 => ?_) fun hge1 => ?_
  ·refine Sy Tz (Xi EPlace n2) ?_
   refine Sq (Xa EPlace) ?_
   refine AlT fun g2 => ?_
   refine Tx ?_
   (repeat refine aD ?_); refine ap (fun _ => some []) ?_
   refine Dx [0,1,2,3,5] ?_
   refine Rn 4 ?_
   refine Ck (ew y1 a1 (gt b1 n2).node) fun _ => ?_
   refine Ra 6 rfl (q_neE mp (jf (cm a1 (gt b1 n2).node) (gt b1 n2)) rfl rfl Zf rfl Zf rfl rfl) ?_
   refine Re0 ?_
   have hf := Ri hf2.symm
   rw [bd hlt1, dg] at hf
   refine Ch hf (fun hc4 hf => ?_) fun hc4 hf => ?_
   ·refine Bl EPlace [(gt b1 n2)] fun x5 x5b => ?_
    refine Ap EPlace 24 here1 [(gt b1 n2)] x4b fun x6 x6b => ?_
    refine Tt ?_
    refine ⟨⟨(here1 ++ [(gt b1 n2)]), x6, x6b, (n2 + 1)⟩, ⟨hlt1, Zl, hf.symm⟩, Oo, Le4⟩
   ·refine Tt ?_
    refine ⟨⟨here1, x4, x4b, (n2 + 1)⟩, ⟨hlt1, Zl, hf.symm⟩, Oo, Le4⟩
  ·refine Tx ?_
   refine cw_le (ar EInt 3 x1 x1b gone1 Uo) ?_
   refine cw_le (ar EPlace 99 x4 x4b here1 Uo) ?_
   have hf := Ri hf2.symm
   rw [List.drop_of_length_le hge1, dg] at hf
   refine Rx ?_; exact Re ⟨x1, x4⟩ Rv
def gC (from1 : View) (to1 : View) : Delta × Int :=
 (bif (!(decide (from1.roots = to1.roots))) then ((⟨[], [], [], []⟩ : Delta), 4) else ((⟨(bZ from1.known to1.known).1, (bZ from1.known to1.known).2, (bZ from1.way to1.way).1, (bZ from1.way to1.way).2⟩ : Delta), 0))
def gD (from1 : View) (to1 : View) : Delta × Int :=
 (bif ((bz to1) != 0) then ((⟨[], [], [], []⟩ : Delta), (bz to1)) else (gC from1 to1))
def fM (from1 : View) (to1 : View) : Delta × Int :=
 (bif ((bz from1) != 0) then ((⟨[], [], [], []⟩ : Delta), (bz from1)) else (gD from1 to1))
def du (from1 : View) (to1 : View) : Delta × Int :=
 (fM from1 to1)
theorem pS (y1 : SlV) (y2 : SlV) (y3 : SlV) (from1 : View) (y4 : SlV) (y5 : SlV) (y6 : SlV) (to1 : View) : Does Tryz.prog 183 [.agg ⟨cV y1 y2 y3 from1⟩, .agg ⟨cV y4 y5 y6 to1⟩] [RdL EInt y1 from1.roots, RdL EPlace y2 from1.known, RdL EPlace y3 from1.way, RdL EInt y4 to1.roots, RdL EPlace y5 to1.known, RdL EPlace y6 to1.way] (fun (X : SlV × SlV × SlV × SlV) => .tuple #[.agg ⟨cD X.1 X.2.1 X.2.2.1 X.2.2.2 (du from1 to1).1⟩, .int .i64 (du from1 to1).2]) (fun X => [RdL EInt X.1 (du from1 to1).1.gone, RdL EPlace X.2.1 (du from1 to1).1.here, RdL EInt X.2.2.1 (du from1 to1).1.wayGone, RdL EPlace X.2.2.2 (du from1 to1).1.wayHere]) := by
 refine Dp aK Tryz.func183 Tryz.ntmps183 Tryz.results183 fun C => ?_
 refine Pc EInt y1 from1.roots 8 fun hlen1 => ?_
 refine Pc EPlace y2 from1.known 24 fun hlen2 => ?_
 refine Pc EPlace y3 from1.way 24 fun hlen3 => ?_
 refine Pc EInt y4 to1.roots 8 fun hlen4 => ?_
 refine Pc EPlace y5 to1.known 24 fun hlen5 => ?_
 refine Pc EPlace y6 to1.way 24 fun hlen6 => ?_
 refine BxT fun g1 => ?_
 refine BxT fun g2 => ?_
 refine AlT fun g3 => ?_
 refine Sy Tz (lm rfl rfl Zf rfl rfl rfl rfl) ?_
 refine Lq Nat [2,3,4,5,12] [true, true, true] (fun n1 => ⟨[(13, .v (.int .i64 (n1 : Int)))], [], [], [], (n1 ≤ 2) ∧ (match n1 with | 0 => (fM from1 to1) | 1 => (gD from1 to1) | _ => (gC from1 to1)) = (du from1 to1), 2 - n1⟩) 0 ⟨Nat.zero_le _, (by simp only [du, Cf] : (du from1 to1) = (fM from1 to1)).symm⟩ ?_
 rintro n1 ⟨hkn1, hf1⟩
 simp only [Lc]
 have hkn13 : n1 = 0 ∨ n1 = 1 ∨ n1 = 2 := by omega
 rcases hkn13 with rfl | rfl | rfl
 ·have hf1 : (fM from1 to1) = (du from1 to1) := hf1
  refine Cd' (fun hc1 => ?_) fun hc1 => ?_
  ·refine Sy Tz (q_ixL 0 rfl rfl Zf rfl Zf rfl rfl rfl rfl rfl) ?_
   refine AlT fun g4 => ?_
   refine Ck (eD y1 y2 y3 from1) fun _ => ?_
   have hf := Ri hf1.symm
   rw [fM] at hf
   refine Cn hf (fun hc2 hc2p hf => ?_) fun hc2 hc2p hf => ?_
   ·refine Tx ?_
    refine Fc EInt ?_
    refine Fc EPlace ?_
    refine Rx ?_; exact Re ⟨Z0, Z0, Z0, Z0⟩ Rv
   ·refine Tt ?_
    refine ⟨1, ⟨by omega, hf.symm⟩, (show 2 - 1 < 2 - 0 by decide), Le4⟩
  ·exact Bool.noConfusion (hc1.symm.trans (decide_eq_true (by decide)))
 ·have hf1 : (gD from1 to1) = (du from1 to1) := hf1
  refine Cd' (fun hc3 => ?_) fun hc3 => ?_
  ·refine Sy Tz (q_ixL 1 rfl rfl Zf rfl Zf rfl rfl rfl rfl rfl) ?_
   refine AlT fun g5 => ?_
   refine Ck (eD y4 y5 y6 to1) fun _ => ?_
   have hf := Ri hf1.symm
   rw [gD] at hf
   refine Cn hf (fun hc4 hc4p hf => ?_) fun hc4 hc4p hf => ?_
   ·refine Tx ?_
    refine Fc EInt ?_
    refine Fc EPlace ?_
    refine Rx ?_; exact Re ⟨Z0, Z0, Z0, Z0⟩ Rv
   ·refine Tt ?_
    refine ⟨2, ⟨by omega, hf.symm⟩, (show 2 - 2 < 2 - 1 by decide), Le4⟩
  ·exact Bool.noConfusion (hc3.symm.trans (decide_eq_true (by decide)))
 ·have hf1 : (gC from1 to1) = (du from1 to1) := hf1
  refine Cd' (fun hc5 => ?_) fun hc5 => ?_
  ·exact Bool.noConfusion (hc5.symm.trans (decide_eq_false (by decide)))
  ·refine Ck ((fun y1 a y2 b => dc y1 y2 a b) y1 from1.roots y4 to1.roots) fun _ => ?_
   have hf := Ri hf1.symm
   rw [gC] at hf
   refine Ch hf (fun hc6 hf => ?_) fun hc6 hf => ?_
   ·refine Tx ?_
    refine Fc EInt ?_
    refine Fc EPlace ?_
    refine Rx ?_; exact Re ⟨Z0, Z0, Z0, Z0⟩ Rv
   ·refine AlT fun g6 => ?_
    refine Ck (jL y2 from1.known y5 to1.known) fun x1 => ?_
    refine Pr EInt x1.1 (bZ from1.known to1.known).1 8 fun hlen7 => ?_
    refine Pr EPlace x1.2 (bZ from1.known to1.known).2 24 fun hlen8 => ?_
    refine Ck (jL y3 from1.way y6 to1.way) fun x2 => ?_
    refine Pr EInt x2.1 (bZ from1.way to1.way).1 8 fun hlen9 => ?_
    refine Pr EPlace x2.2 (bZ from1.way to1.way).2 24 fun hlen10 => ?_
    refine Rx ?_; exact Re ⟨x1.1, x1.2, x2.1, x2.2⟩ Rv
end Go.Proofs.YtkjccbdeaflekaaGreatDoor

namespace Go.Proofs.YtkjccbdeaflekaaGreatDoor
open Go Go.Proofs.YtkjccbdeaflekaaGreatDoor.Fw Go.Proofs
theorem lq {h : Hub} {r : Rec} (h0 : (aB h r).2 = 0) : aH r = 0 := by
 unfold aB at h0
 cases h1 : (aH r != 0) with
 | true => rw [h1, cond_true] at h0; simp only at h0; rw [h0] at h1; cases h1
 | false => exact ai h1
theorem oD {l : List Rec} (h : (aq l).2 = 0) : l.length ≤ 60 ∧ (bj l [] [] 0 [⟨0, 0, []⟩, ⟨0, 0, []⟩, ⟨0, 0, []⟩]).2 = 0 ∧ aq l = bj l [] [] 0 [⟨0, 0, []⟩, ⟨0, 0, []⟩, ⟨0, 0, []⟩] := by
 unfold aq at h ⊢
 cases h1 : decide ((l.length : Int) > 60) with
 | true => rw [h1] at h; cases h
 | false => rw [h1, cond_false] at h; have := of_decide_eq_false h1; exact ⟨by omega, h, rfl⟩
theorem kh {h : Hub} {who : Int} (h0 : (aV h who).2 = 0) : c8 h = 0 ∧ 0 ≤ who ∧ who < 3 ∧ h.peers.length = 3 ∧ aV h who = bR h.h.t (gt h.peers who.toNat).roots := by
 unfold aV at h0 ⊢
 cases h1 : (c8 h != 0) with
 | true => rw [h1, cond_true] at h0; simp only at h0; rw [h0] at h1; cases h1
 | false =>
  rw [h1, cond_false] at h0
  cases h2 : (decide (who < 0) || decide (who ≥ 3)) with
  | true => rw [h2, cond_true] at h0; cases h0
  | false =>
   simp only [Bool.or_eq_false_iff, decide_eq_false_iff_not] at h2
   have h3 := ai h1
   exact ⟨h3, by omega, by omega, (eT h3).2.2.2, rfl⟩
theorem mA : ∀ (l : List Rec) (h : Hub), IsHub h → (bj l h.h.l h.h.t h.version h.peers).2 = 0 →
  IsHub (bj l h.h.l h.h.t h.version h.peers).1 ∧ (bj l h.h.l h.h.t h.version h.peers).1.version = h.version + (l.length : Int)
 | [], h, hh, _ => ⟨hh, by simp [bj]⟩
 | q :: l, h, hh, h0 => by
  rw [bj] at h0 ⊢
  have he : (⟨⟨h.h.l, h.h.t⟩, h.version, h.peers⟩ : Hub) = h := rfl
  simp only [he] at h0 ⊢
  cases h1 : ((aB h q).2 != 0) with
  | true => rw [h1, cond_true] at h0; simp only at h0; rw [h0] at h1; cases h1
  | false =>
   rw [h1, cond_false] at h0
   have hn := uy hh (ai h1)
   obtain ⟨a, b⟩ := mA l (aB h q).1 hn.1 h0
   simp only [cond_false, List.length_cons]
   exact ⟨a, by rw [b, hn.2]; omega⟩
theorem lz {l : List Rec} (h0 : (aq l).2 = 0) : IsHub (aq l).1 ∧ (aq l).1.version = (l.length : Int) ∧ l.length ≤ 60 := by
 have hr := oD h0
 have := mA l bH lu hr.2.1
 have e1 : aq l = bj l bH.h.l bH.h.t bH.version bH.peers := hr.2.2
 rw [e1]
 exact ⟨this.1, by rw [this.2]; exact Int.zero_add _, hr.1⟩
theorem rU {l : List Rec} {S : Hub × Int} (hS : aq l = S) (h0 : S.2 = 0) : IsHub S.1 ∧ S.1.version = (l.length : Int) ∧ l.length ≤ 60 := by
 subst hS; exact lz h0
theorem ko : ∀ (l : List Mail), eK l = 0 ↔ ∀ m ∈ l, bI m = 0
 | [] => by simp [eK]
 | m :: l => by
  rw [eK]
  cases h1 : (bI m != 0) with
  | true => simp only [cond_true]; exact ⟨fun h => (by rw [h] at h1; cases h1), fun h => h m (.head _)⟩
  | false => simp only [cond_false, ko l, List.mem_cons, forall_eq_or_imp, ai h1, true_and]
theorem cL (l : List Mail) : bJ l = 0 ↔ l.length ≤ 30 ∧ ∀ m ∈ l, bI m = 0 := by
 unfold bJ
 cases h1 : decide ((l.length : Int) > 30) with
 | true => have h1 := of_decide_eq_true h1; simp only [cond_true]; exact ⟨fun h => absurd h (by decide), fun h => absurd h.1 (by omega)⟩
 | false => have h1 := of_decide_eq_false h1; simp only [cond_false, ko]; exact ⟨fun h => ⟨by omega, h⟩, fun h => h.2⟩
theorem em {m : Mail} (h : bI m = 0) : 0 ≤ m.who ∧ m.who < 3 := by
 unfold bI at h
 cases h1 : (decide (m.kind < 1) || decide (m.kind > 3)) with
 | true => rw [h1, cond_true] at h; cases h
 | false =>
  rw [h1, cond_false] at h
  cases h2 : (decide (m.who < 0) || decide (m.who ≥ 3)) with
  | true => rw [h2, cond_true] at h; cases h
  | false => simp only [Bool.or_eq_false_iff, decide_eq_false_iff_not] at h2; omega
theorem jP {l : List Mail} {k : Int} {t : Bool} (h : (az l k t).2.2 = 0) : bJ l = 0 ∧ 0 ≤ k ∧ k < (l.length : Int) ∧ az l k t = (bif t then l else l.take k.toNat ++ l.drop (k + 1).toNat, gt l k.toNat, 0) := by
 obtain ⟨h1, h2, h3⟩ := rl h
 refine ⟨h1, h2, h3, ?_⟩
 unfold az
 have e1 : (bJ l != 0) = false := by rw [h1]; rfl
 have e2 : (decide (k < 0) || decide (k ≥ (l.length : Int))) = false := by simp only [Bool.or_eq_false_iff, decide_eq_false_iff_not]; omega
 have e3 : gt ((l.drop k.toNat).take ((k + 1).toNat - k.toNat)) 0 = gt l k.toNat := by
  rw [show (k + 1).toNat - k.toNat = 1 by omega, bd (by omega : k.toNat < l.length)]; rfl
 rw [e1, e2, e3]
 cases t <;> rfl
theorem vR {l : List Mail} {k : Int} {t : Bool} (h : (az l k t).2.2 = 0) : 0 ≤ (az l k t).2.1.who ∧ (az l k t).2.1.who < 3 := by
 obtain ⟨h1, h2, h3, h4⟩ := jP h
 rw [h4]
 exact em (((cL l).1 h1).2 _ (eM (by omega)))
theorem uZ {l : List Mail} {k : Int} {t : Bool} {S : List Mail × Mail × Int} (hS : az l k t = S) (h : S.2.2 = 0) : 0 ≤ S.2.1.who ∧ S.2.1.who < 3 := by
 subst hS; exact vR h
theorem gf (q : Place → Bool) (n : Int) : ∀ {l : List Place}, Rising l → find (l.filter q) n = bif ((find l n).node != 0 && q (find l n)) then find l n else ⟨0, 0, 0⟩
 | [], _ => rfl
 | p :: r, h => by
  obtain ⟨h1, h2⟩ := List.pairwise_cons.1 h.up
  have hp := h.rng p (.head _)
  have hr : Rising r := ⟨h2, fun x hx => h.rng x (.tail _ hx), fun x hx => h.par x (.tail _ hx)⟩
  have ih := gf q n hr
  rw [List.filter_cons, find]
  cases hn : (p.node == n) with
  | true =>
   have hn' : p.node = n := by simpa using hn
   have h0 : (p.node != 0) = true := by simp; omega
   rw [cond_true, h0, Bool.true_and]
   cases hq : q p with
   | true => simp [find, hn]
   | false =>
    simp only [Bool.false_eq_true, if_false, cond_false]
    exact mT fun x hx => by have := h1 x (List.mem_filter.1 hx).1; omega
  | false =>
   rw [cond_false]
   cases hq : q p with
   | true => simp only [if_true]; rw [find, hn, cond_false]; exact ih
   | false => simpa using ih
theorem Rising.filter {l : List Place} (h : Rising l) (q : Place → Bool) : Rising (l.filter q) :=
 ⟨h.up.filter _, fun p hp => h.rng p (List.mem_filter.1 hp).1, fun p hp => h.par p (List.mem_filter.1 hp).1⟩
theorem Up.of_filter {l : List Place} (h : Rising l) {q : Place → Bool} {a b : Int} (hu : Up (l.filter q) a b) : Up l a b := by
 obtain ⟨k, hw⟩ := hu
 refine ⟨k, ?_⟩
 induction hw with
 | here x => exact .here x
 | @up x b k hok hn _ ih =>
  rw [gf q x h] at hn ih
  cases hc : ((find l x).node != 0 && q (find l x)) with
  | true => rw [hc, cond_true] at hn ih; exact .up trivial hn ih
  | false => rw [hc] at hn; exact absurd rfl hn
theorem gF.filter {l : List Place} (h : gF l) (q : Place → Bool) : gF (l.filter q) :=
 ⟨fun p hp => h.ok p (List.mem_filter.1 hp).1, h.up.filter _, fun p hp hu => h.no p (List.mem_filter.1 hp).1 (hu.of_filter h.rising)⟩
theorem om {n : Int} (hn : 1 ≤ n) : ∀ {m : List Place}, Rising m → ∀ l : List Place, find (m.foldl putT l) n = bif (find m n).node != 0 then find m n else find l n
 | [], _, l => rfl
 | p :: r, h, l => by
  obtain ⟨h1, h2⟩ := List.pairwise_cons.1 h.up
  have hp := h.rng p (.head _)
  have hpp := h.par p (.head _)
  have hr : Rising r := ⟨h2, fun x hx => h.rng x (.tail _ hx), fun x hx => h.par x (.tail _ hx)⟩
  rw [List.foldl_cons, om hn hr, e8, find]
  have hd : decide (p.parent < 0) = false := decide_eq_false (by omega)
  rw [hd, cond_false]
  cases hc : (p.node == n) with
  | true =>
   have hc' : p.node = n := by simpa using hc
   have hz : find r n = ⟨0, 0, 0⟩ := mT fun x hx => by have := h1 x hx; omega
   have h3 : (n == p.node) = true := by simpa using hc'.symm
   have h4 : (p.node != 0) = true := by simp; omega
   rw [hz, cond_true, h3, cond_true, h4]; rfl
  | false =>
   have hc' : p.node ≠ n := by simpa using hc
   have h3 : (n == p.node) = false := by simpa using fun e : n = p.node => hc' e.symm
   rw [cond_false, h3, cond_false]
theorem my (t : List Place) (n : Int) (roots : List Int) : cX t n roots = true ↔ ∃ r ∈ roots, Up t n r := by
 unfold cX gO
 rw [List.any_eq_true]
 simp only [gJ, ju]
theorem oB (t : List Place) (n : Int) (roots : List Int) : dy t n roots = true ↔ ∃ r ∈ roots, r ≠ n ∧ Up t r n := by
 unfold dy gP
 rw [List.any_eq_true]
 simp only [Bool.and_eq_true, gJ, ju, bne_iff_ne]
def kept (t : List Place) (roots : List Int) : List Place := t.filter (fun p => cX t p.node roots || dy t p.node roots)
theorem tc {t : List Place} (h : Rising t) (roots : List Int) : bN (iL t roots) = kept t roots := by
 rw [All_eq]
 unfold iL kept
 simp only
 have hk := h.filter (fun p => cX t p.node roots)
 have hw := h.filter (fun p => !cX t p.node roots && dy t p.node roots)
 refine Rising.ext (Rising.puts _ hk hw.rng) (h.filter _) fun n h1 h2 => ?_
 rw [om h1 hw, gf _ n h, gf _ n h, gf _ n h]
 cases hz : ((find t n).node != 0) with
 | false => rfl
 | true =>
  cases hb : cX t (find t n).node roots with
  | true => simp [hb]
  | false =>
   cases ha : dy t (find t n).node roots with
   | true => simp [hb, ha]; rw [hz]; rfl
   | false => simp [hb, ha]
theorem qU {t : List Place} (h : Rising t) {roots : List Int} {n : Int} (hn : cX t n roots = true ∨ dy t n roots = true) : find (kept t roots) n = find t n := by
 unfold kept
 rw [gf _ n h]
 cases hz : ((find t n).node != 0) with
 | false => rw [Bool.false_and, cond_false]; exact (h.none (ai hz)).symm
 | true =>
  have hn' := (jK (by simpa using hz)).1
  have : (cX t (find t n).node roots || dy t (find t n).node roots) = true := by rw [hn', Bool.or_eq_true]; exact hn
  rw [this]; rfl
theorem Up.kept_root {t : List Place} (h : Rising t) {roots : List Int} {a r : Int} (hr : r ∈ roots) (hu : Up t a r) : Up (kept t roots) a r := by
 obtain ⟨k, hw⟩ := hu
 revert hr
 induction hw with
 | here x => exact fun _ => Up.refl _ _
 | @up x b k hok hn hw ih =>
  intro hr
  have hf : find (kept t roots) x = find t x := qU h (.inl ((my _ _ _).2 ⟨b, hr, k + 1, .up hok hn hw⟩))
  obtain ⟨j, hj⟩ := ih hr
  exact ⟨j + 1, .up trivial (by rw [hf]; exact hn) (by rw [hf]; exact hj)⟩
theorem Up.kept_way {t : List Place} (h : Rising t) {roots : List Int} {r : Int} (hr : r ∈ roots) {x n : Int} (h1 : Up t r x) (hu : Up t x n) : Up (kept t roots) x n := by
 obtain ⟨k, hw⟩ := hu
 revert h1
 induction hw with
 | here x => exact fun _ => Up.refl _ _
 | @up x b k hok hn hw ih =>
  intro h1
  have hf : find (kept t roots) x = find t x := qU h (by
   by_cases he : r = x
   ·exact .inl ((my _ _ _).2 ⟨r, hr, he ▸ Up.refl _ _⟩)
   ·exact .inr ((oB _ _ _).2 ⟨r, hr, he, h1⟩))
  obtain ⟨j, hj⟩ := ih (h1.trans ⟨1, .up trivial hn (.here _)⟩)
  exact ⟨j + 1, .up trivial (by rw [hf]; exact hn) (by rw [hf]; exact hj)⟩
theorem tC {t : List Place} (h : Rising t) (roots : List Int) (n : Int) : cX (kept t roots) n roots = cX t n roots := by
 rw [Bool.eq_iff_iff, my, my]
 exact ⟨fun ⟨r, h1, h2⟩ => ⟨r, h1, Up.of_filter h h2⟩, fun ⟨r, h1, h2⟩ => ⟨r, h1, Up.kept_root h h1 h2⟩⟩
theorem tF {t : List Place} (h : Rising t) (roots : List Int) (n : Int) : dy (kept t roots) n roots = dy t n roots := by
 rw [Bool.eq_iff_iff, oB, oB]
 exact ⟨fun ⟨r, h1, h2, h3⟩ => ⟨r, h1, h2, Up.of_filter h h3⟩, fun ⟨r, h1, h2, h3⟩ => ⟨r, h1, h2, Up.kept_way h h1 (Up.refl _ _) h3⟩⟩
theorem tX {t : List Place} (h : Rising t) (roots : List Int) : iL (kept t roots) roots = iL t roots := by
 unfold iL
 simp only [tC h, tF h]
 unfold kept
 simp only [List.filter_filter]
 congr 1
 ·exact List.filter_congr fun p _ => by cases cX t p.node roots <;> simp
 ·exact List.filter_congr fun p _ => by cases cX t p.node roots <;> cases dy t p.node roots <;> rfl
theorem tW {t : List Place} (h : gF t) {roots : List Int} (hr : mX roots) : jj (iL t roots) := by
 refine ⟨hr, h.filter _, h.filter _, ?_, ?_⟩
 ·rw [tc h.rising]; exact (el _).2 (h.filter _)
 ·rw [tc h.rising]; exact tX h.rising roots
theorem xr {h : Hub} (hh : IsHub h) (r : Rec) : er h r = aB h r := by
 unfold er
 rw [(eU h).2 hh]; rfl
theorem fk {c : Bool} {a b : Int} (ha : a ≠ 0) : ((bif c then a else b) = 0 ↔ c = false ∧ b = 0) := by
 cases c <;> simp [ha]
structure vf (c : Client) (me : Int) (i : Nat) : Prop where
 ok : chkO (gt c.pending i) = 0
 who : (gt c.pending i).who = me
 life : (gt c.pending i).life = c.life
 seq : (gt c.pending i).seq = c.seq - (c.pending.length : Int) + 1 + (i : Int)
 time : (gt c.pending i).time ≤ c.time
 up : 0 < i → (gt c.pending (i - 1)).time < (gt c.pending i).time
theorem lh (c : Client) (me : Int) : ∀ (r : List Op) (k : Nat), r = c.pending.drop k → (dP c me r k = 0 ↔ ∀ i, k ≤ i → i < c.pending.length → vf c me i)
 | [], k, h => by
  have : c.pending.length ≤ k := by have := congrArg List.length h; simp at this; omega
  exact ⟨fun _ i h1 h2 => by omega, fun _ => rfl⟩
 | p :: r, k, h => by
  have hk : k < c.pending.length := by
   rcases Nat.lt_or_ge k c.pending.length with h' | h'
   ·exact h'
   ·rw [List.drop_of_length_le h'] at h; cases h
  rw [bd hk] at h
  obtain ⟨rfl, h'⟩ := List.cons.inj h
  rw [dP, dI]
  have key : vf c me k ↔ (chkO (gt c.pending k) = 0 ∧ ((((((gt c.pending k).who != me) || ((gt c.pending k).life != c.life)) || ((gt c.pending k).seq != (((c.seq - (c.pending.length : Int)) + 1) + (k : Int)))) || decide ((gt c.pending k).time > c.time)) || (decide ((k : Int) > 0) && decide ((gt c.pending k).time ≤ (gt c.pending (k - 1)).time))) = false) := by
   simp only [Bool.or_eq_false_iff, bne_eq_false_iff_eq, decide_eq_false_iff_not, Bool.and_eq_false_iff]
   constructor
   ·intro ⟨h1, h2, h3, h4, h5, h6⟩
    refine ⟨h1, ⟨⟨⟨h2, h3⟩, h4⟩, by omega⟩, ?_⟩
    rcases Nat.eq_zero_or_pos k with h7 | h7
    ·left; omega
    ·right; have := h6 h7; omega
   ·intro ⟨h1, ⟨⟨⟨h2, h3⟩, h4⟩, h5⟩, h6⟩
    refine ⟨h1, h2, h3, h4, by omega, fun h7 => ?_⟩
    rcases h6 with h6 | h6
    ·omega
    ·omega
  cases h1 : (chkO (gt c.pending k) != 0) with
  | true =>
   rw [cond_true]
   refine ⟨fun h2 => (by rw [h2] at h1; cases h1), fun h2 => ?_⟩
   have := (h2 k (Nat.le_refl _) hk).ok
   rw [this] at h1; cases h1
  | false =>
   rw [cond_false, fk (by decide), lh c me r (k + 1) h']
   constructor
   ·intro ⟨h2, h3⟩ i hi hl
    by_cases hik : i = k
    ·rw [hik]; exact key.2 ⟨ai h1, h2⟩
    ·exact h3 i (by omega) hl
   ·intro h2
    exact ⟨(key.1 (h2 k (Nat.le_refl _) hk)).2, fun i hi hl => h2 i (by omega) hl⟩
structure IsCli (c : Client) (me : Int) : Prop where
 num : 0 ≤ me ∧ me < 3
 rng : 0 ≤ c.life ∧ c.life ≤ 50 ∧ 0 ≤ c.time ∧ c.time ≤ 10000 ∧ 0 ≤ c.seq ∧ c.seq ≤ 30 ∧ 0 ≤ c.version ∧ c.version ≤ 60
 few : c.pending.length ≤ 8
 view : jj c.v
 new : c.life = 0 → c.time = 0 ∧ c.seq = 0 ∧ c.version = 0
 vers : c.version = 0 → c.v.roots = []
 pseq : (c.pending.length : Int) ≤ c.seq
 pend : ∀ i, i < c.pending.length → vf c me i
theorem bA (c : Client) (me : Int) : bm c me = 0 ↔ IsCli c me := by
 constructor
 ·intro h
  obtain ⟨h1, h2, h3, h4, ⟨h5, h6, h7⟩, h8⟩ := iY h
  exact ⟨h1, h2, h3, (cy _).1 h4, h5, h6, h7, fun i hi => (lh c me c.pending 0 rfl).1 h8 i (Nat.zero_le _) hi⟩
 ·intro h
  obtain ⟨m1, m2⟩ := h.num
  obtain ⟨r1, r2, r3, r4, r5, r6, r7, r8⟩ := h.rng
  have h3 := h.few
  have h7 := h.pseq
  unfold bm
  rw [fk (by decide)]
  refine ⟨by simp only [Bool.or_eq_false_iff, decide_eq_false_iff_not]; omega, ?_⟩
  rw [fk (by decide)]
  refine ⟨by simp only [Bool.or_eq_false_iff, decide_eq_false_iff_not]; omega, ?_⟩
  rw [fk (by decide)]
  refine ⟨by simp only [decide_eq_false_iff_not]; omega, ?_⟩
  rw [(cy _).2 h.view, bne_self_eq_false, cond_false, fk (by decide)]
  refine ⟨?_, (lh c me c.pending 0 rfl).2 fun i _ hi => h.pend i hi⟩
  simp only [Bool.or_eq_false_iff, decide_eq_false_iff_not, Bool.and_eq_false_iff, beq_eq_false_iff_ne, bne_eq_false_iff_eq]
  refine ⟨⟨?_, ?_⟩, by omega⟩
  ·by_cases hl : c.life = 0
   ·right; have := h.new hl; omega
   ·exact .inl hl
  ·by_cases hv : c.version = 0
   ·right; rw [h.vers hv]; simp
   ·exact .inl hv
theorem ns {v : View} {d : Delta} (h : (bv v d).2 = 0) : jj (bv v d).1 := by
 unfold bv at h ⊢
 cases h1 : (bz v != 0) with
 | true => rw [h1, cond_true] at h; simp only at h; rw [h] at h1; cases h1
 | false =>
 rw [h1, cond_false] at h
 rw [cond_false]
 cases h2 : (bG d != 0) with
 | true => rw [h2, cond_true] at h; simp only at h; rw [h] at h2; cases h2
 | false =>
 rw [h2, cond_false] at h
 rw [cond_false]
 cases h3 : (bz (⟨v.roots, (bu v.known d.gone d.here), (bu v.way d.wayGone d.wayHere)⟩ : View) != 0) with
 | true => rw [h3, cond_true] at h; simp only at h; rw [h] at h3; cases h3
 | false => exact (cy _).1 (ai h3)
def oa (m : Mail) : Bool := (((((((((decide (m.life < 1) || decide (m.life > 50)) || decide (m.seq < 0)) || decide (m.seq > 30)) || decide (m.time < 0)) || decide (m.time > 10000)) || decide (m.version < 1)) || decide (m.version > 60)) || decide (m.frm < 0)) || decide (m.frm ≥ m.version))
def want1 (m : Mail) : Mail := ⟨m.kind, m.who, 0, 0, 0, 0, 0, m.o, ⟨[], [], []⟩, ⟨[], [], [], []⟩⟩
def want2 (m : Mail) : Mail := ⟨m.kind, m.who, m.life, m.seq, m.time, m.version, 0, ⟨0, 0, 0, 0, 0, 0, 0⟩, m.v, ⟨[], [], [], []⟩⟩
def want3 (m : Mail) : Mail := ⟨m.kind, m.who, m.life, m.seq, m.time, m.version, m.frm, ⟨0, 0, 0, 0, 0, 0, 0⟩, ⟨[], [], []⟩, m.d⟩
theorem ja (m : Mail) : bI m = bif (decide (m.kind < 1) || decide (m.kind > 3)) then 4 else bif (decide (m.who < 0) || decide (m.who ≥ 3)) then 5 else
  bif m.kind == 1 then (bif !(fF m (want1 m)) then 4 else bif m.o.who != m.who then 4 else chkO m.o) else
  bif m.kind == 2 then (bif !(fF m (want2 m)) then 4 else bif oa m then 3 else bz m.v) else
  bif !(fF m (want3 m)) then 4 else bif oa m then 3 else bG m.d := by
 unfold bI
 cases h0 : (decide (m.kind < 1) || decide (m.kind > 3)) with
 | true => rfl
 | false =>
  cases h1 : (m.kind == 1) with
  | true => rfl
  | false =>
   cases h2 : (m.kind == 2) with
   | true => rfl
   | false =>
    have h3 : (m.kind == 3) = true := by
     simp only [Bool.or_eq_false_iff, decide_eq_false_iff_not, beq_eq_false_iff_ne] at h0 h1 h2
     simp only [beq_iff_eq]; omega
    rw [h3]; rfl
theorem l5 (m : Mail) : bJ [m] = bI m := by
 show (bif (bI m != 0) then bI m else 0) = bI m
 cases h : (bI m != 0) with
 | true => rfl
 | false => exact (ai h).symm
structure u5 (m : Mail) : Prop where
 kind : m.kind = 2 ∨ m.kind = 3
 rng : 1 ≤ m.life ∧ m.life ≤ 50 ∧ 0 ≤ m.seq ∧ m.seq ≤ 30 ∧ 0 ≤ m.time ∧ m.time ≤ 10000 ∧ 1 ≤ m.version ∧ m.version ≤ 60 ∧ 0 ≤ m.frm ∧ m.frm < m.version
 view : m.kind = 2 → jj m.v
theorem lQ (m : Mail) : oa m = false ↔ (1 ≤ m.life ∧ m.life ≤ 50 ∧ 0 ≤ m.seq ∧ m.seq ≤ 30 ∧ 0 ≤ m.time ∧ m.time ≤ 10000 ∧ 1 ≤ m.version ∧ m.version ≤ 60 ∧ 0 ≤ m.frm ∧ m.frm < m.version) := by
 simp only [oa, Bool.or_eq_false_iff, decide_eq_false_iff_not]; omega
theorem wN {m : Mail} (h : bI m = 0) (h1 : m.kind ≠ 1) : u5 m := by
 rw [ja, fk (by decide), fk (by decide), show (m.kind == 1) = false from beq_eq_false_iff_ne.2 h1, cond_false] at h
 obtain ⟨h2, _, h3⟩ := h
 simp only [Bool.or_eq_false_iff, decide_eq_false_iff_not] at h2
 cases h4 : (m.kind == 2) with
 | true =>
  rw [h4, cond_true, fk (by decide), fk (by decide)] at h3
  exact ⟨.inl (eq_of_beq h4), (lQ m).1 h3.2.1, fun _ => (cy _).1 h3.2.2⟩
 | false =>
  rw [h4, cond_false, fk (by decide), fk (by decide)] at h3
  have h4 := beq_eq_false_iff_ne.1 h4
  exact ⟨.inr (by omega), (lQ m).1 h3.2.1, fun h5 => absurd h5 h4⟩
def fj (c : Client) (m : Mail) (v : View) : Client := ⟨c.life, (if m.time > c.time then m.time else c.time), c.seq, c.pending.filter (fun o => !decide (o.seq ≤ m.seq)), m.version, v⟩
def stale (c : Client) (m : Mail) : Bool := ((m.life != c.life) || decide (m.version ≤ c.version)) || decide (m.seq > c.seq)
def cli0 : Client := ⟨0, 0, 0, [], 0, ⟨[], [], []⟩⟩
theorem qf (c : Client) (me : Int) (m : Mail) : aC c me m = bif bm c me != 0 then (cli0, bm c me) else bif bI m != 0 then (cli0, bI m) else
  bif (m.kind == 1) || (m.who != me) then (cli0, 4) else bif stale c m then (c, 0) else
  bif m.kind == 3 then (bif m.frm != c.version then (c, 0) else bif (bv c.v m.d).2 != 0 then (cli0, (bv c.v m.d).2) else (fj c m (bv c.v m.d).1, 0)) else (fj c m m.v, 0) := by
 unfold aC
 rw [l5]
 rfl
theorem mD {c : Client} {me : Int} {m : Mail} (h : (aC c me m).2 = 0) : IsCli c me ∧ u5 m ∧ bI m = 0 ∧ (m.kind == 1 || m.who != me) = false ∧
  ((aC c me m).1 = c ∨ ∃ v, jj v ∧ stale c m = false ∧ (aC c me m).1 = fj c m v) := by
 rw [qf] at h ⊢
 cases h1 : (bm c me != 0) with
 | true => rw [h1, cond_true] at h; simp only at h; rw [h] at h1; cases h1
 | false =>
 rw [h1, cond_false] at h
 rw [cond_false]
 cases h2 : (bI m != 0) with
 | true => rw [h2, cond_true] at h; simp only at h; rw [h] at h2; cases h2
 | false =>
 rw [h2, cond_false] at h
 rw [cond_false]
 cases h3 : (m.kind == 1 || m.who != me) with
 | true => rw [h3, cond_true] at h; cases h
 | false =>
 rw [h3, cond_false] at h
 rw [cond_false]
 have hk := (Bool.or_eq_false_iff.1 h3).1
 have hs := wN (ai h2) (beq_eq_false_iff_ne.1 hk)
 refine ⟨(bA _ _).1 (ai h1), hs, ai h2, rfl, ?_⟩
 cases h4 : stale c m with
 | true => exact .inl rfl
 | false =>
 rw [h4, cond_false] at h
 rw [cond_false]
 cases h5 : (m.kind == 3) with
 | false =>
  refine .inr ⟨m.v, hs.view ?_, rfl, rfl⟩
  have := beq_eq_false_iff_ne.1 h5
  have := hs.kind; omega
 | true =>
  rw [h5, cond_true] at h
  rw [cond_true]
  cases h6 : (m.frm != c.version) with
  | true => exact .inl rfl
  | false =>
   rw [h6, cond_false] at h
   rw [cond_false]
   cases h7 : ((bv c.v m.d).2 != 0) with
   | true => rw [h7, cond_true] at h; simp only at h; rw [h] at h7; cases h7
   | false => exact .inr ⟨_, ns (ai h7), rfl, rfl⟩
theorem oo : ∀ (l : List Op) (a s : Int), (∀ i, i < l.length → (gt l i).seq = a + (i : Int)) → ∃ n, n ≤ l.length ∧ (∀ o ∈ l.take n, o.seq ≤ s) ∧ l.filter (fun o => !decide (o.seq ≤ s)) = l.drop n ∧ (n < l.length → s - a + 1 ≤ n)
 | [], a, s, _ => ⟨0, Nat.le_refl _, (by simp), rfl, by simp⟩
 | o :: l, a, s, h => by
  have h0 := h 0 (by simp)
  simp only [gt, List.getD_cons_zero] at h0
  have hl : ∀ i, i < l.length → (gt l i).seq = (a + 1) + (i : Int) := fun i hi => by
   have := h (i + 1) (by simp; omega)
   simp only [gt, List.getD_cons_succ] at this ⊢
   omega
  obtain ⟨n, hn, h1, h2, h3⟩ := oo l (a + 1) s hl
  by_cases hs : o.seq ≤ s
  ·refine ⟨n + 1, by simp; omega, fun p hp => ?_, ?_, fun hlt => by simp at hlt; have := h3 hlt; omega⟩
   ·rw [List.take_succ_cons] at hp
    rcases List.mem_cons.1 hp with rfl | hp
    ·exact hs
    ·exact h1 p hp
   ·rw [List.filter_cons_of_neg (by simp [hs]), h2]; rfl
  ·refine ⟨0, Nat.zero_le _, by simp, ?_, fun _ => by omega⟩
   rw [List.drop_zero, List.filter_eq_self]
   intro p hp
   obtain ⟨i, hi, rfl⟩ := List.getElem_of_mem hp
   have := h i hi
   rw [gt_eq hi] at this
   simp only [Bool.not_eq_true', decide_eq_false_iff_not]; omega
theorem sD (l : List Op) (n i : Nat) : gt (l.drop n) i = gt l (n + i) := by simp [gt, List.getD_eq_getElem?_getD]
theorem qP {c : Client} {me : Int} {m : Mail} {v : View} (h : IsCli c me) (hm : u5 m) (hst : stale c m = false) (hv : jj v) : IsCli (fj c m v) me ∧ ∃ n, n ≤ c.pending.length ∧ (∀ o ∈ c.pending.take n, o.seq ≤ m.seq) ∧ (fj c m v).pending = c.pending.drop n := by
 obtain ⟨n, hn, h1, h2, h3⟩ := oo c.pending (c.seq - (c.pending.length : Int) + 1) m.seq fun i hi => (h.pend i hi).seq
 have hp : (fj c m v).pending = c.pending.drop n := h2
 have hlen : (fj c m v).pending.length = c.pending.length - n := by rw [hp]; simp
 have hr := h.rng
 have hmr := hm.rng
 have hps := h.pseq
 have hfew := h.few
 simp only [stale, Bool.or_eq_false_iff, bne_eq_false_iff_eq, decide_eq_false_iff_not] at hst
 refine ⟨⟨h.num, ?_, by omega, hv, fun hl => ?_, fun hl => ?_, ?_, fun i hi => ?_⟩, n, hn, h1, hp⟩
 ·simp only [fj]; split <;> omega
 ·simp only [fj] at hl; omega
 ·simp only [fj] at hl; omega
 ·rw [hlen]; simp only [fj]; omega
 ·rw [hlen] at hi
  have hq := h.pend (n + i) (by omega)
  have hg : gt (fj c m v).pending i = gt c.pending (n + i) := by rw [hp, sD]
  have htm := hq.time
  refine ⟨by rw [hg]; exact hq.ok, by rw [hg]; exact hq.who, by rw [hg]; exact hq.life, ?_, ?_, fun h0 => ?_⟩
  ·rw [hg, hq.seq, hlen]; simp only [fj]; omega
  ·rw [hg]; simp only [fj]; split <;> omega
  ·rw [hg, show gt (fj c m v).pending (i - 1) = gt c.pending (n + i - 1) by rw [hp, sD]; congr 1; omega]
   exact hq.up (by omega)
end Go.Proofs.YtkjccbdeaflekaaGreatDoor
