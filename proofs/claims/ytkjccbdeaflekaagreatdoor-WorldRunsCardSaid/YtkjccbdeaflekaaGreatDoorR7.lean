/- Part of this claim. No condition. -/
import Derived.Test.YtkjccbdeaflekaaGreatDoorR6
import Derived.Test.YtkjccbdeaflekaaGreatDoorR4
import Derived.Test.YtkjccbdeaflekaaGreatDoorR3
import Derived.Lib.SplitLaws
import Derived.Lib.ItoaMem
import Derived.Lib.AtoiAllCases
import Derived.Lib.ParseIntBTie
import Derived.Lib.LaidTab
import Derived.Test.YtkjccbdeaflekaaGreatDoorR5
set_option linter.unusedVariables false
set_option linter.unusedSimpArgs false
set_option maxHeartbeats 2000000
namespace Go.Proofs.YtkjccbdeaflekaaGreatDoor
open Go Go.Proofs.YtkjccbdeaflekaaGreatDoor.Fw Go.Proofs
attribute [local irreducible] CW RW RdL RdN VarP
theorem ng (x : SlV) (l : List (NPeer.G × Peer)) : Dv 129 [x.val l.length] [RdL NPeer.E x l] ⟨[], []⟩ (fun (X : SlV × Option Nat) => X.1.val l.length) (fun _ => []) (fun X => ⟨[], [ownL NPeer.E 84 X.1 X.2 l]⟩) := by
 refine Dq Tryz.func129 fun C => ?_;refine e8 (φ := l.length * NPeer.E.by_ ≤ 140737488355328) [RdL NPeer.E x l] Sm (fun M w h => (allF1 h).len) fun hlen => ?_;refine Sy Tz (nl rfl rfl Zf rfl) ?_;refine eF ?_;(repeat refine er ?_); refine kX rfl rfl (fun hc0 => ?_) (fun hc0 => ?_)
 ·refine e8 [RdL NPeer.E x l] Sm (fun M w h => (allF1 h).nil_of hc0) fun hnil => ?_;subst hnil;refine cw_le (eI NPeer.E 84) ?_;refine Tx ?_;refine Tr ?_; exact Rr (⟨none, 0⟩, none)
 ·refine Bl NPeer.E [] fun x1 x1b => ?_;refine Rp rfl rfl rfl rfl ?_;refine kq NPeer.E [] l (b := x1b) .sq (fun _ _ => .inl ⟨_, rfl⟩) (au rfl) rfl rfl rfl rfl rfl rfl rfl (fun _ _ => Uo) rfl rfl rfl rfl rfl rfl rfl (oH Mm) (by simpa using hlen) fun x2 x2b => ?_;refine Tx ?_;refine Tr ?_; exact Rr (x2, x2b)
theorem oh (x : SlV) (γ : Nat → NPeer.G) (l : List Peer) : Dv 129 [x.val l.length] [RdG NPeer x γ l] ⟨[], []⟩ (fun (X : SlV × Option Nat) => X.1.val l.length) (fun _ => []) (fun X => ⟨[], [ownL NPeer.E 84 X.1 X.2 (zipG γ 0 l)]⟩) := by
 have := ng x (zipG γ 0 l);rw [dL] at this;exact this
def hQ  : List Peer → Int
 | [] => 0
 | pn1 :: rn1 => (bif (((decide (pn1.life < 0) || decide (pn1.life > 50)) || decide (pn1.seq < 0)) || decide (pn1.seq > 30)) then 3 else (bif ((pn1.life == 0) && (decide (pn1.seq > 0) || decide ((pn1.roots.length : Int) > 0))) then 4 else (bif ((cm pn1.roots) != 0) then (cm pn1.roots) else (hQ rn1))))
def dj (h1 : Hub) : Int :=
 (bif ((bz h1.h) != 0) then (bz h1.h) else (bif (decide (h1.version < 0) || decide (h1.version > 60)) then 3 else (bif ((h1.peers.length : Int) != 3) then 4 else (hQ h1.peers))))
theorem pV (y1 : SlV) (y2 : SlV) (y3 : SlV) (h1 : Hub) : Du 205 [.agg ⟨cB y1 y2 y3 h1⟩] [RdL EStep y1 h1.h.l, RdL EPlace y2 h1.h.t, RdN NPeer y3 h1.peers] (.int .i64 (dj h1)) := by
 refine Dp Tryz.func205 fun C => ?_;refine Qc y1 88 fun hlen1 => ?_;refine Qc y2 24 fun hlen2 => ?_;refine Qn y3 40 fun hlen3 => ?_;refine BxT fun g1 => ?_;refine Ck (qQ y1 y2 h1.h) fun _ => ?_;have hf := Ri (dj.eq_1 h1);refine Kn hf fun hc1 hc1p hf => ?_;refine Kh hf fun hc2 hf => ?_;refine Kn hf fun hc3 hc3p hf => ?_;refine Lq Nat [2,26,27] [true] (fun n1 => ⟨[(28, .v (.int .i64 (n1 : Int)))], [], [], [], (n1 ≤ h1.peers.length) ∧ (hQ (h1.peers.drop n1)) = (dj h1), h1.peers.length - n1⟩) 0 ⟨N0, hf.symm⟩ ?_;rintro n1 ⟨hkn1, hf1⟩;simp only [Lc];refine Cu (fun hlt0 => ?_) fun hge0 => ?_
 ·refine Tx ?_;refine Ex NPeer y3 fun (γ1 : Nat → SlV) => ?_;refine Sq (Xn n1) ?_;refine Sq (Xe (cE (γ1 n1) (gt h1.peers n1))) ?_;refine Gg NPeer γ1 n1 0 ?_;refine AlT fun g2 => ?_;have hf := Ri hf1.symm;rw [aK hlt0, hQ] at hf;refine Kh hf fun hc5 hf => ?_;refine Kh hf fun hc6 hf => ?_;refine Ck (j4 (γ1 n1) (gt h1.peers n1).roots) fun _ => ?_;refine Kn hf fun hc7 hc7p hf => ?_;refine Tt ?_;refine ⟨(n1 + 1), ⟨hlt0, hf.symm⟩, Oo, Le4⟩
 ·have hf := Ri hf1.symm;rw [Dl hge0, hQ] at hf;exact Ru
theorem gf {h : Hub} (hc : dj h = 0) : bz h.h = 0 ∧ 0 ≤ h.version ∧ h.version ≤ 60 ∧ h.peers.length = 3 := by
 unfold dj at hc;cases h1 : (bz h.h != 0) with
 | true => rw [h1, cond_true] at hc; rw [hc] at h1; cases h1
 | false =>
 rw [h1, cond_false] at hc;cases h2 : (decide (h.version < 0) || decide (h.version > 60)) with
 | true => rw [h2, cond_true] at hc; cases hc
 | false =>
 rw [h2, cond_false] at hc;cases h3 : ((h.peers.length : Int) != 3) with
 | true => rw [h3, cond_true] at hc; cases hc
 | false =>
 simp only [Bo] at h2;exact ⟨ag h1, by omega, by omega, by have := ag h3; omega⟩
def jM (h1 : Hub) : List Peer → Nat → (List Peer) → Hub
 | [], n1, l1 => (⟨h1.h, h1.version, l1⟩ : Hub)
 | pn1 :: rn1, n1, l1 => (jM h1 rn1 (n1 + 1) (l1.set n1 (gt l1 n1)))
def l6 (h1 : Hub) : Hub :=
 (jM h1 h1.peers 0 h1.peers)
theorem vz (y1 : SlV) (y2 : SlV) (y3 : SlV) (h1 : Hub) : Dv 80 [.agg ⟨cB y1 y2 y3 h1⟩] [RdL EStep y1 h1.h.l, RdL EPlace y2 h1.h.t, RdN NPeer y3 h1.peers] ⟨[], []⟩ (fun (X : SlV × SlV × SlV × Option Nat × (Nat → SlV)) => .agg ⟨cB X.1 X.2.1 X.2.2.1 (l6 h1)⟩) (fun X => [RdL EStep X.1 (l6 h1).h.l, RdL EPlace X.2.1 (l6 h1).h.t, FactsG NPeer X.2.2.2.2 (l6 h1).peers]) (fun X => ⟨[], [ownL NPeer.E 84 X.2.2.1 X.2.2.2.1 (zipG X.2.2.2.2 0 (l6 h1).peers)]⟩) := by
 refine Dq Tryz.func80 fun C => ?_;refine Qc y1 88 fun hlen1 => ?_;refine Qc y2 24 fun hlen2 => ?_;refine Qn y3 40 fun hlen3 => ?_;refine BxT fun g1 => ?_;refine AlT fun g2 => ?_;refine eF ?_;refine Rg [(7,some [g1]),(9,some [g1])] ?_;refine Dx [0,1,3,4] ?_;refine Rn 2 ?_;refine Cm (mV y1 y2 h1.h) fun x1 => ?_;refine Qr x1.2.2 24 fun hlen4 => ?_;refine Ra 6 rfl Qp ?_;refine Rn 5 ?_;refine Ex NPeer y3 fun (γ1 : Nat → SlV) => ?_;refine Cm (oh y3 γ1 h1.peers) fun x2 => ?_;refine Rn 7 ?_;refine Wp ?_;refine Ra 8 rfl Qp ?_;refine Rn 9 ?_;refine W1 ?_;refine Re0 ?_;refine Lq (List Peer × (Nat → SlV) × Nat) [1,2,15] [true, false] (fun ⟨l1, γ2, n1⟩ => ⟨[(14, .v (x2.1.val l1.length)), (16, .v (.int .i64 (n1 : Int)))], [⟨g1, 30, [x1.1.val h1.h.l.length, x1.2.2.val h1.h.t.length, .int .i64 h1.version, x2.1.val l1.length]⟩], [ownL NPeer.E 84 x2.1 x2.2 (zipG γ2 0 l1), ownL EStep 157 x1.1 x1.2.1 h1.h.l], [FactsG NPeer γ2 l1], (n1 ≤ h1.peers.length) ∧ (l1.length = h1.peers.length) ∧ (jM h1 (h1.peers.drop n1) n1 l1) = (l6 h1), h1.peers.length - n1⟩) ⟨h1.peers, γ1, 0⟩ ⟨N0, rfl, (by simp only [l6, Cf, D0])⟩ ?_;rintro ⟨l1, γ2, n1⟩ ⟨hkn1, hll, hf1⟩;simp only [Lc]
 refine Cu (fun hlt0 => ?_) fun hge0 => ?_
 ·refine Tx ?_;refine Oq NPeer.E x2.1 (zipG γ2 0 l1) .sq (nR NPeer γ2 n1 rfl rfl Zf rfl Zf rfl rfl rfl (.head _) rfl Zf Za) ?_;refine Oq NPeer.E x2.1 (zipG γ2 0 l1) .sq (Xe (cE (γ2 n1) (gt l1 n1))) ?_;refine Gg NPeer γ2 n1 0 ?_;refine AlT fun g3 => ?_;refine Rg [(8,some x2.2.toList)] ?_;refine Dx [0,1,2,3,4] ?_;refine Rn 5 ?_;refine Cm (dC (γ2 n1) (gt l1 n1).roots) fun x5 => ?_;refine Oq NPeer.E x2.1 (zipG γ2 0 l1) (Fb 6 []) (nR NPeer γ2 n1 rfl rfl Zf rfl Zf rfl rfl rfl (.head _) rfl Zf Za) ?_;refine Ra 7 rfl Xf ?_;refine Rn 8 ?_;refine Fx x5.1 ?_;refine Wn NPeer γ2 l1 n1 2 x5.1 (gt l1 n1) x2.2 ?_;refine Fu NPeer γ2 l1 n1 x5.1 (gt l1 n1) ?_;have hv1 : x2.1.val l1.length = x2.1.val (l1.set n1 (gt l1 n1)).length := congrArg (SlV.val x2.1) List.length_set.symm;try rw [hv1]
  refine Re0 ?_;refine Tt ?_;refine ⟨⟨(l1.set n1 (gt l1 n1)), (updG γ2 n1 x5.1), (n1 + 1)⟩, ⟨hlt0, (by (try simp only [List.length_set]); omega), (by rw [← hf1, aK hlt0]; simp only [jM, Cf, D0])⟩, Oo, Le4⟩
 ·refine Tx ?_;refine Fz x1.1 ?_;have hf := Ri hf1.symm;rw [Dl hge0, jM] at hf;refine Rx ?_; exact Rr ⟨x1.1, x1.2.2, x2.1, x2.2, γ2⟩
theorem pU (h : Hub) : ∀ (r : List Peer) (n : Nat) (l : List Peer), jM h r n l = ⟨h.h, h.version, l⟩
 | [], _, _ => rfl
 | _ :: r, n, l => by
  have : l.set n (gt l n) = l := by
   by_cases h : n < l.length
   ·rw [gt_eq h]; exact List.set_getElem_self h
   ·exact List.set_eq_of_length_le (Nat.le_of_not_lt h)
  rw [jM, this]; exact pU h r (n + 1) l
theorem xw (h : Hub) : l6 h = h := pU h _ 0 h.peers
theorem pT (y1 : SlV) (y2 : SlV) (y3 : SlV) (h1 : Hub) : Dv 80 [.agg ⟨cB y1 y2 y3 h1⟩] [RdL EStep y1 h1.h.l, RdL EPlace y2 h1.h.t, RdN NPeer y3 h1.peers] ⟨[], []⟩ (fun (X : SlV × SlV × SlV × Option Nat × (Nat → SlV)) => .agg ⟨cB X.1 X.2.1 X.2.2.1 h1⟩) (fun X => [RdL EStep X.1 h1.h.l, RdL EPlace X.2.1 h1.h.t, FactsG NPeer X.2.2.2.2 h1.peers]) (fun X => ⟨[], [ownL NPeer.E 84 X.2.2.1 X.2.2.2.1 (zipG X.2.2.2.2 0 h1.peers)]⟩) := by
 have := vz y1 y2 y3 h1;rw [xw] at this;exact this
def aH (r1 : Rec) : Int :=
 (bif (decide (r1.kind < 1) || decide (r1.kind > 3)) then 4 else (bif (r1.kind == 1) then (bif (((r1.who != 0) || (r1.life != 0)) || decide ((r1.roots.length : Int) > 0)) then 4 else (dv r1.o)) else (bif (((!(decide (r1.o = (⟨0, 0, 0, 0, 0, 0, 0⟩ : Op)))) || ((r1.kind == 3) && (r1.life != 0))) || ((r1.kind == 2) && decide ((r1.roots.length : Int) > 0))) then 4 else (bif ((decide (r1.who < 0) || decide (r1.who ≥ 3)) || ((r1.kind == 2) && (decide (r1.life < 1) || decide (r1.life > 50)))) then 3 else (cm r1.roots)))))
theorem jb (y1 : SlV) (r1 : Rec) : Du 155 [.agg ⟨cR y1 r1⟩] [RdL EInt y1 r1.roots] (.int .i64 (aH r1)) := by
 refine Dp Tryz.func155 fun C => ?_;refine Qc y1 8 fun hlen1 => ?_;refine BxT fun g1 => ?_;have hf := Ri (aH.eq_1 r1);refine Kh hf fun hc1 hf => ?_;refine Ce hf (fun hc2 hc2p hf => ?_) fun hc2 hc2p hf => ?_
 ·refine Kh hf fun hc3 hf => ?_;refine Ck (fW r1.o) fun _ => ?_;exact Ru
 ·refine Sy Tz (q_neE tC (lI r1.o (⟨0, 0, 0, 0, 0, 0, 0⟩ : Op)) rfl rfl Zf rfl Zf rfl rfl) ?_;refine Kh hf fun hc4 hf => ?_;refine Kh hf fun hc5 hf => ?_;refine Ck (j4 y1 r1.roots) fun _ => ?_;exact Ru
def ji (x1 : Peer) (y1 : Peer) : Bool :=
 (((x1.life == y1.life) && (x1.seq == y1.seq)) && (decide (x1.roots = y1.roots)))
theorem tr (y2 : SlV) (x1 : Peer) (y3 : SlV) (y1 : Peer) : Du 111 [.agg ⟨cE y2 x1⟩, .agg ⟨cE y3 y1⟩] [RdL EInt y2 x1.roots, RdL EInt y3 y1.roots] (.bool (ji x1 y1)) := by
 refine Dp Tryz.func111 fun C => ?_;refine Qc y2 8 fun hlen1 => ?_;refine Qc y3 8 fun hlen2 => ?_;refine BxT fun g1 => ?_;refine BxT fun g2 => ?_;refine Cy (fun hG_ => (fun y1 a y2 b => cl y1 y2 a b) y2 x1.roots y3 y1.roots) ?_;have hf := Ri (ji.eq_1 x1 y1);exact Ru
def cz (s2 : List Peer) (eq1 : Peer → Peer → Bool) : List Peer → Nat → Bool
 | [], n1 => true
 | pn1 :: rn1, n1 => (bif (!(eq1 pn1 (gt s2 n1))) then false else (cz s2 eq1 rn1 (n1 + 1)))
def dY (s1 : List Peer) (s2 : List Peer) (eq1 : Peer → Peer → Bool) : Bool :=
 (bif ((s1.length : Int) != (s2.length : Int)) then false else (cz s2 eq1 s1 0))
theorem jn (y1 : SlV) (s1 : List Peer) (y2 : SlV) (s2 : List Peer) (f1 : Nat) (caps1 : List Value) (pre1 : List Pred) [StabL pre1] (eq1 : Peer → Peer → Bool) (hfb1 : tab.fnb f1 = true) (hfn1 : ∀ (z0a_ : SlV) (a0_ : Peer) (z1a_ : SlV) (a1_ : Peer), Du f1 ([.agg ⟨cE z0a_ a0_⟩, .agg ⟨cE z1a_ a1_⟩] ++ caps1) (RdL EInt z0a_ a0_.roots :: RdL EInt z1a_ a1_.roots :: pre1) (.bool (eq1 a0_ a1_))) : Du 93 [y1.val s1.length, y2.val s2.length, .func (.func f1) #[] ⟨caps1⟩] (RdN NPeer y1 s1 :: RdN NPeer y2 s2 :: pre1) (.bool (dY s1 s2 eq1)) := by
 refine Dp Tryz.func93 fun C => ?_;refine e8 (φ := s1.length * 40 ≤ 140737488355328) [RdN NPeer y1 s1] Sf (fun M w h => (allF1 h).len) fun hlen1 => ?_;refine e8 (φ := s2.length * 40 ≤ 140737488355328) [RdN NPeer y2 s2] Sf (fun M w h => (allF1 h).len) fun hlen2 => ?_;have hf := Ri (dY.eq_1 s1 s2 eq1);refine Cn hf (fun hc1 hc1p hf => ?_) fun hc1 hc1p hf => ?_
 ·refine Tx ?_;refine f4 ?_;rw [hf.to];exact ⟨(), _, (.cons (.tmp rfl) .nil), rfl, Sf, .nil _, .nil _⟩
 ·refine Lq Nat [1,2,6,15,16] [] (fun n1 => ⟨[(17, .v (.int .i64 (n1 : Int)))], [], [], [], (n1 ≤ s1.length) ∧ (cz s2 eq1 (s1.drop n1) n1) = (dY s1 s2 eq1), s1.length - n1⟩) 0 ⟨N0, hf.symm⟩ ?_;rintro n1 ⟨hkn1, hf1⟩;simp only [Lc];refine Cu (fun hlt0 => ?_) fun hge0 => ?_
  ·refine Tx ?_;refine Ex NPeer y1 fun (γ1 : Nat → SlV) => ?_;refine Sq (Xn n1) ?_;refine Sq (Xe (cE (γ1 n1) (gt s1 n1))) ?_;refine Gg NPeer γ1 n1 0 ?_;refine AlT fun g1 => ?_;refine Tx ?_;refine Ex NPeer y2 fun (γ2 : Nat → SlV) => ?_;refine Sq (Xn n1) ?_;refine Sq (Xe (cE (γ2 n1) (gt s2 n1))) ?_;refine Gg NPeer γ2 n1 0 ?_;refine AlT fun g2 => ?_;refine Cv (hfn1 (γ1 n1) (gt s1 n1) (γ2 n1) (gt s2 n1)) (hf := by assumption) fun _ => ?_;have hf := Ri hf1.symm;rw [aK hlt0, cz] at hf;refine Ch hf (fun hc3 hf => ?_) fun hc3 hf => ?_
   ·refine Tx ?_;refine f4 ?_;rw [hf.to];exact ⟨(), _, (.cons (.tmp rfl) .nil), rfl, Sf, .nil _, .nil _⟩
   ·refine Tt ?_;refine ⟨(n1 + 1), ⟨hlt0, hf.symm⟩, Oo, Le5⟩
  ·refine Tx ?_;have hf := Ri hf1.symm;rw [Dl hge0, cz] at hf;refine f4 ?_;rw [hf.to];exact ⟨(), _, (.cons (.tmp rfl) .nil), rfl, Sf, .nil _, .nil _⟩
def jj (a1 : Hub) (b1 : Hub) : Bool :=
 (((gj a1.h b1.h) && (a1.version == b1.version)) && (dY a1.peers b1.peers ji))
theorem qN (y1 : SlV) (y2 : SlV) (y3 : SlV) (a1 : Hub) (y4 : SlV) (y5 : SlV) (y6 : SlV) (b1 : Hub) : Du 65 [.agg ⟨cB y1 y2 y3 a1⟩, .agg ⟨cB y4 y5 y6 b1⟩] [RdL EStep y1 a1.h.l, RdL EPlace y2 a1.h.t, RdN NPeer y3 a1.peers, RdL EStep y4 b1.h.l, RdL EPlace y5 b1.h.t, RdN NPeer y6 b1.peers] (.bool (jj a1 b1)) := by
 refine Dp Tryz.func65 fun C => ?_;refine Qc y1 88 fun hlen1 => ?_;refine Qc y2 24 fun hlen2 => ?_;refine Qn y3 40 fun hlen3 => ?_;refine Qc y4 88 fun hlen4 => ?_;refine Qc y5 24 fun hlen5 => ?_;refine Qn y6 40 fun hlen6 => ?_;refine BxT fun g1 => ?_;refine BxT fun g2 => ?_;refine Ck (mU y1 y2 a1.h y4 y5 b1.h) fun _ => ?_;refine Cy (fun hG_ => jn y3 a1.peers y6 b1.peers _ _ _ ji Kr (fun z0a_ a0_ z1a_ a1_ => tr z0a_ a0_ z1a_ a1_)) ?_;have hf := Ri (jj.eq_1 a1 b1);exact Ru
def bZ (h1 : Hub) (who1 : Int) : View × Int :=
 (bif ((dj h1) != 0) then ((⟨[], [], []⟩ : View), (dj h1)) else (bif (decide (who1 < 0) || decide (who1 ≥ 3)) then ((⟨[], [], []⟩ : View), 5) else ((eG h1.h.t (gt h1.peers who1.toNat).roots).1, (eG h1.h.t (gt h1.peers who1.toNat).roots).2)))
theorem ny (y1 : SlV) (y2 : SlV) (y3 : SlV) (h1 : Hub) (who1 : Int) : Dw 182 [.agg ⟨cB y1 y2 y3 h1⟩, .int .i64 who1] [RdL EStep y1 h1.h.l, RdL EPlace y2 h1.h.t, RdN NPeer y3 h1.peers] (fun (X : SlV × SlV × SlV) => .tuple #[.agg ⟨cV X.1 X.2.1 X.2.2 (bZ h1 who1).1⟩, .int .i64 (bZ h1 who1).2]) (fun X => [RdL EInt X.1 (bZ h1 who1).1.roots, RdL EPlace X.2.1 (bZ h1 who1).1.known, RdL EPlace X.2.2 (bZ h1 who1).1.way]) := by
 refine Dp Tryz.func182 fun C => ?_;refine Qc y1 88 fun hlen1 => ?_;refine Qc y2 24 fun hlen2 => ?_;refine Qn y3 40 fun hlen3 => ?_;refine BxT fun g1 => ?_;refine AlT fun g2 => ?_;refine Ck (pV y1 y2 y3 h1) fun _ => ?_;have hf := Ri (bZ.eq_1 h1 who1);refine Cn hf (fun hc1 hc1p hf => ?_) fun hc1 hc1p hf => ?_
 ·refine Tx ?_;refine Fc EInt ?_;refine Fc EPlace ?_;refine Rx ?_; exact Rr ⟨Z0, Z0, Z0⟩
 ·have hpl := gf (ag hc1);refine Ch hf (fun hc2 hf => ?_) fun hc2 hf => ?_
  ·refine Tx ?_;refine Fc EInt ?_;refine Fc EPlace ?_;refine Rx ?_; exact Rr ⟨Z0, Z0, Z0⟩
  ·have hwr := hc2;simp only [Bo] at hwr;refine Rg [(12,some [g2])] ?_;refine Dx (.range 6) ?_;refine Ex NPeer y3 fun (γ1 : Nat → SlV) => ?_;refine Rb 6 rfl (Xn who1.toNat) ?_;refine Rb 7 rfl Xf ?_;refine Rb 8 rfl (i8 NPeer γ1 (v := (γ1 who1.toNat).val (gt h1.peers who1.toNat).roots.length) rfl rfl Zf rfl rfl Mm (fun _ => by first | assumption | omega) rfl) ?_;refine Gg NPeer γ1 who1.toNat 0 ?_;refine Rn 9 ?_;refine Ck (lW y2 h1.h.t (γ1 who1.toNat) (gt h1.peers who1.toNat).roots) fun x1 => ?_;refine Pr EInt x1.1 (eG h1.h.t (gt h1.peers who1.toNat).roots).1.roots 8 fun hlen4 => ?_;refine Pr EPlace x1.2.1 (eG h1.h.t (gt h1.peers who1.toNat).roots).1.known 24 fun hlen5 => ?_;refine Pr EPlace x1.2.2 (eG h1.h.t (gt h1.peers who1.toNat).roots).1.way 24 fun hlen6 => ?_;refine Dx [10,11] ?_;refine Rn 12 ?_;refine Wa ?_;refine Ra 13 rfl Qp ?_;refine Re0 ?_;refine Rx ?_; exact Rr ⟨x1.1, x1.2.1, x1.2.2⟩
def dU  : Hub :=
 (⟨(⟨[], []⟩ : History), 0, [(⟨0, 0, ([] : List Int)⟩ : Peer), (⟨0, 0, ([] : List Int)⟩ : Peer), (⟨0, 0, ([] : List Int)⟩ : Peer)]⟩ : Hub)
theorem l5  : Dw 70 [] [] (fun (X : SlV × SlV × SlV) => .agg ⟨cB X.1 X.2.1 X.2.2 dU⟩) (fun X => [RdL EStep X.1 dU.h.l, RdL EPlace X.2.1 dU.h.t, RdN NPeer X.2.2 dU.peers]) := by
 refine Dp Tryz.func70 fun C => ?_;refine AlT fun g1 => ?_;refine Tx ?_;refine ni NPeer.E (zipG (fun _ => Z0) 0 [(⟨0, 0, ([] : List Int)⟩ : Peer), (⟨0, 0, ([] : List Int)⟩ : Peer), (⟨0, 0, ([] : List Int)⟩ : Peer)]) .sq (au rfl) rfl rfl rfl rfl rfl rfl rfl rfl rfl rfl rfl rfl rfl rfl rfl rfl rfl fun x1 x1b => ?_;refine Fr EInt ?_;refine iq (F := FactsG NPeer (fun _ => Z0) [(⟨0, 0, ([] : List Int)⟩ : Peer), (⟨0, 0, ([] : List Int)⟩ : Peer), (⟨0, 0, ([] : List Int)⟩ : Peer)]) [RdL EInt Z0 ([] : List Int)] Sm (fun M w h => FactsG.const NPeer (by intro a ha; simp only [List.mem_cons, List.not_mem_nil, or_false, or_self] at ha; subst ha; exact pD Sm h)) ?_;refine Tx ?_;refine Fc EStep ?_;refine Fc EPlace ?_;refine Fz x1 ?_;refine Fj NPeer x1 (fun _ => Z0) [(⟨0, 0, ([] : List Int)⟩ : Peer), (⟨0, 0, ([] : List Int)⟩ : Peer), (⟨0, 0, ([] : List Int)⟩ : Peer)] ?_;have hf := Ri dU.eq_1;refine Rx ?_; exact Rr ⟨Z0, Z0, x1⟩
end Go.Proofs.YtkjccbdeaflekaaGreatDoor
namespace Go.Proofs.YtkjccbdeaflekaaGreatDoor.Fw
open Go
def spl (c : UInt8) : Str → List Str
 | [] => [[]]
 | b :: r => bif b == c then [] :: spl c r else match spl c r with | [] => [[b]] | h :: t => (b :: h) :: t
def splA (c : UInt8) : Str → List Str
 | [] => [[]]
 | b :: r => bif b == c then [c] :: splA c r else match splA c r with | [] => [[b]] | h :: t => (b :: h) :: t
def cutc (c : UInt8) : Str → Str × Str × Bool
 | [] => ([], [], false)
 | b :: r => bif b == c then ([], r, true) else (b :: (cutc c r).1, (cutc c r).2.1, (cutc c r).2.2)
theorem idx1 (c : UInt8) : ∀ s : Str, (Lib.index s [c] = -1 ∧ c ∉ s) ∨ ∃ p r, s = p ++ c :: r ∧ c ∉ p ∧ Lib.index s [c] = (p.length : Int)
 | [] => .inl ⟨rfl, by simp⟩
 | b :: l => by
  by_cases h : b = c
  ·subst h;exact .inr ⟨[], l, rfl, by simp, by simp [Lib.index]⟩
  ·have hp : ([c] : Str).isPrefixOf (b :: l) = false := by simp [List.isPrefixOf, Ne.symm h]
   rcases idx1 c l with ⟨h1, h2⟩ | ⟨p, r, h1, h2, h3⟩
   ·exact .inl ⟨by rw [Lib.index, hp, h1]; rfl, by simp [Ne.symm h, h2]⟩
   ·refine .inr ⟨b :: p, r, by rw [h1]; rfl, by simp [Ne.symm h, h2], ?_⟩;rw [Lib.index, hp, h3];have : ((p.length : Int) == -1) = false := by rw [beq_eq_false_iff_ne]; omega
    simp [this]
theorem un {c : UInt8} : ∀ {s : Str}, c ∉ s → spl c s = [s]
 | [], _ => rfl
 | b :: r, h => by
  have h1 : (b == c) = false := by simp only [List.mem_cons, not_or] at h; simpa using Ne.symm h.1
  rw [spl, h1, cond_false, un (by simp only [List.mem_cons, not_or] at h; exact h.2)]
theorem rj {c : UInt8} (r : Str) : ∀ {p : Str}, c ∉ p → spl c (p ++ c :: r) = p :: spl c r
 | [], _ => by simp [spl]
 | b :: p, h => by
  have h1 : (b == c) = false := by simp only [List.mem_cons, not_or] at h; simpa using Ne.symm h.1
  rw [List.cons_append, spl, h1, cond_false, rj r (by simp only [List.mem_cons, not_or] at h; exact h.2)]
theorem xe {c : UInt8} : ∀ {s : Str}, c ∉ s → splA c s = [s]
 | [], _ => rfl
 | b :: r, h => by
  have h1 : (b == c) = false := by simp only [List.mem_cons, not_or] at h; simpa using Ne.symm h.1
  rw [splA, h1, cond_false, xe (by simp only [List.mem_cons, not_or] at h; exact h.2)]
theorem ve {c : UInt8} (r : Str) : ∀ {p : Str}, c ∉ p → splA c (p ++ c :: r) = (p ++ [c]) :: splA c r
 | [], _ => by simp [splA]
 | b :: p, h => by
  have h1 : (b == c) = false := by simp only [List.mem_cons, not_or] at h; simpa using Ne.symm h.1
  rw [List.cons_append, splA, h1, cond_false, ve r (by simp only [List.mem_cons, not_or] at h; exact h.2)]; rfl
theorem ry {c : UInt8} : ∀ {s : Str}, c ∉ s → cutc c s = (s, [], false)
 | [], _ => rfl
 | b :: r, h => by
  have h1 : (b == c) = false := by simp only [List.mem_cons, not_or] at h; simpa using Ne.symm h.1
  rw [cutc, h1, cond_false, ry (by simp only [List.mem_cons, not_or] at h; exact h.2)]
theorem pB {c : UInt8} (r : Str) : ∀ {p : Str}, c ∉ p → cutc c (p ++ c :: r) = (p, r, true)
 | [], _ => by simp [cutc]
 | b :: p, h => by
  have h1 : (b == c) = false := by simp only [List.mem_cons, not_or] at h; simpa using Ne.symm h.1
  rw [List.cons_append, cutc, h1, cond_false, pB r (by simp only [List.mem_cons, not_or] at h; exact h.2)]
theorem at_c (c : UInt8) (s : Str) : c ∉ s ∨ ∃ p r, s = p ++ c :: r ∧ c ∉ p := by
 rcases idx1 c s with ⟨_, h⟩ | ⟨p, r, h1, h2, _⟩
 ·exact .inl h
 ·exact .inr ⟨p, r, h1, h2⟩
theorem B3 (c : UInt8) (s : Str) : Lib.cut s [c] = cutc c s := by
 unfold Lib.cut;rcases idx1 c s with ⟨h1, h2⟩ | ⟨p, r, h1, h2, h3⟩
 ·rw [h1, if_neg (by omega), ry h2]
 ·rw [h3, if_pos (by omega), h1, pB r h2];simp
theorem um (c : UInt8) : ∀ (n : Nat) (s : Str), s.length ≤ n → Lib.splitK [c] 0 (Lib.count s [c]) s = spl c s
 | n, s, hn => by
  rcases idx1 c s with ⟨h1, h2⟩ | ⟨p, r, h1, h2, h3⟩
  ·rw [Lib.count_miss h1, un h2]; rfl
  ·have hr : s.drop (p.length + ([c] : Str).length) = r := by rw [h1]; simp
   rw [Lib.count_hit (by simp) h3, hr, Nat.add_comm 1, Lib.splitK, h3];have : ((p.length : Int) == -1) = false := by rw [beq_eq_false_iff_ne]; omega
   rw [this];simp only [Int.toNat_natCast, hr];cases n with
   | zero => rw [h1] at hn; simp at hn
   | succ n =>
    rw [um c n r (by rw [h1] at hn; simp at hn; omega), h1, rj r h2];simp
theorem sT (c : UInt8) : ∀ (n : Nat) (s : Str), s.length ≤ n → Lib.splitK [c] 1 (Lib.count s [c]) s = splA c s
 | n, s, hn => by
  rcases idx1 c s with ⟨h1, h2⟩ | ⟨p, r, h1, h2, h3⟩
  ·rw [Lib.count_miss h1, xe h2]; rfl
  ·have hr : s.drop (p.length + ([c] : Str).length) = r := by rw [h1]; simp
   rw [Lib.count_hit (by simp) h3, hr, Nat.add_comm 1, Lib.splitK, h3];have : ((p.length : Int) == -1) = false := by rw [beq_eq_false_iff_ne]; omega
   rw [this];simp only [Int.toNat_natCast, hr];cases n with
   | zero => rw [h1] at hn; simp at hn
   | succ n =>
    rw [sT c n r (by rw [h1] at hn; simp at hn; omega), h1, ve r h2];simp [List.take_append, List.take_of_length_le]
theorem yY (c : UInt8) (s : Str) : (Lib.splitB ⟨#[c]⟩ 0 (Lib.countB ⟨s.toArray⟩ ⟨#[c]⟩) ⟨s.toArray⟩).map Value.string = (spl c s).map sV := by
 have h := Lib.splitB_data ⟨#[c]⟩ 0 (Lib.countB ⟨s.toArray⟩ ⟨#[c]⟩) ⟨s.toArray⟩;have h2 := um c s.length s Nr;rw [show Lib.splitK (ByteArray.mk #[c]).data.toList 0 (Lib.countB ⟨s.toArray⟩ ⟨#[c]⟩) (ByteArray.mk s.toArray).data.toList = spl c s from h2] at h;rw [← h, List.map_map];refine List.map_congr_left fun b _ => ?_;simp [sV]
theorem xc (c : UInt8) (s : Str) : (Lib.splitB ⟨#[c]⟩ 1 (Lib.countB ⟨s.toArray⟩ ⟨#[c]⟩) ⟨s.toArray⟩).map Value.string = (splA c s).map sV := by
 have h := Lib.splitB_data ⟨#[c]⟩ 1 (Lib.countB ⟨s.toArray⟩ ⟨#[c]⟩) ⟨s.toArray⟩;have h2 := sT c s.length s Nr;rw [show Lib.splitK (ByteArray.mk #[c]).data.toList 1 (Lib.countB ⟨s.toArray⟩ ⟨#[c]⟩) (ByteArray.mk s.toArray).data.toList = splA c s from h2] at h;rw [← h, List.map_map];refine List.map_congr_left fun b _ => ?_;simp [sV]
theorem xd (c : UInt8) : ∀ s : Str, 0 < (spl c s).length ∧ (spl c s).length ≤ s.length + 1
 | [] => by simp [spl]
 | b :: r => by
  have ih := xd c r;rw [spl];cases b == c with
  | true => simp only [cond_true, List.length_cons]; omega
  | false =>
   simp only [cond_false];cases h : spl c r with
   | nil => simp
   | cons a t => rw [h] at ih; simp at ih ⊢; omega
theorem vd (c : UInt8) : ∀ s : Str, 0 < (splA c s).length ∧ (splA c s).length ≤ s.length + 1
 | [] => by simp [splA]
 | b :: r => by
  have ih := vd c r;rw [splA];cases b == c with
  | true => simp only [cond_true, List.length_cons]; omega
  | false =>
   simp only [cond_false];cases h : splA c r with
   | nil => simp
   | cons a t => rw [h] at ih; simp at ih ⊢; omega
theorem m7 {c : UInt8} : ∀ {s t : Str}, t ∈ spl c s → t.length ≤ s.length
 | [], t, h => by simp [spl] at h; simp [h]
 | b :: r, t, h => by
  rw [spl] at h;cases hb : b == c with
  | true =>
   rw [hb, cond_true] at h;rcases List.mem_cons.1 h with rfl | h
   ·simp
   ·have := m7 h; simp; omega
  | false =>
   rw [hb, cond_false] at h;cases hs : spl c r with
   | nil => rw [hs] at h; simp at h; simp [h]
   | cons a q =>
    rw [hs] at h;rcases List.mem_cons.1 h with rfl | h
    ·have := m7 (c := c) (s := r) (t := a) (by rw [hs]; exact .head _); simp; omega
    ·have := m7 (c := c) (s := r) (t := t) (by rw [hs]; exact .tail _ h); simp; omega
theorem lX {c : UInt8} : ∀ {s t : Str}, t ∈ splA c s → t.length ≤ s.length
 | [], t, h => by simp [splA] at h; simp [h]
 | b :: r, t, h => by
  rw [splA] at h;cases hb : b == c with
  | true =>
   rw [hb, cond_true] at h;rcases List.mem_cons.1 h with rfl | h
   ·simp
   ·have := lX h; simp; omega
  | false =>
   rw [hb, cond_false] at h;cases hs : splA c r with
   | nil => rw [hs] at h; simp at h; simp [h]
   | cons a q =>
    rw [hs] at h;rcases List.mem_cons.1 h with rfl | h
    ·have := lX (c := c) (s := r) (t := a) (by rw [hs]; exact .head _); simp; omega
    ·have := lX (c := c) (s := r) (t := t) (by rw [hs]; exact .tail _ h); simp; omega
theorem vD (c : UInt8) : ∀ s : Str, (cutc c s).1.length ≤ s.length ∧ (cutc c s).2.1.length ≤ s.length
 | [] => by simp [cutc]
 | b :: r => by
  have := vD c r;rw [cutc];cases b == c with
  | true => simp
  | false => simp only [cond_false, List.length_cons]; omega
theorem tG (c : UInt8) : ∀ s : Str, (cutc c s).2.2 = true → (cutc c s).1.length + (cutc c s).2.1.length + 1 = s.length
 | [], h => by simp [cutc] at h
 | b :: r, h => by
  have ih := tG c r;rw [cutc] at h ⊢;cases hb : b == c with
  | true => simp
  | false => rw [hb] at h; simp only [cond_false, List.length_cons] at h ⊢; have := ih h; omega
theorem sE (c : UInt8) (s : Str) : (bif (cutc c s).2.2 then (cutc c s).2.1.length + 1 else 0) ≤ s.length := by
 have := tG c s;cases h : (cutc c s).2.2 with
 | true => have := this h; simp only [cond_true]; omega
 | false => simp
def atv (s : Str) : Int := match Lib.atoiAll s with | .ok v => v | .range => Lib.atoiSat s | _ => 0
def ate (s : Str) : Bool := match Lib.atoiAll s with | .ok _ => false | _ => true
def ptv (s : Str) : Int := match Lib.atoiAll s with | .ok v => v | .range => Lib.intSat 64 s | _ => 0
theorem ptv_eq {s : Str} (h : ate s = false) : ptv s = atv s := by
 unfold ate at h; unfold ptv atv;cases hs : Lib.atoiAll s with
 | ok v => rfl
 | range => rw [hs] at h; cases h
 | _ => rfl
theorem zw (s : Str) : -9223372036854775808 ≤ atv s ∧ atv s ≤ 9223372036854775807 := by
 unfold atv;cases h : Lib.atoiAll s with
 | ok v => exact Lib.atoiAll_bounds h
 | range => simp only [Lib.atoiSat]; split <;> omega
 | _ => simp
theorem zc (s : Str) : -9223372036854775808 ≤ ptv s ∧ ptv s ≤ 9223372036854775807 := by
 unfold ptv;cases h : Lib.atoiAll s with
 | ok v => exact Lib.atoiAll_bounds h
 | range => simp only [Lib.intSat]; split <;> simp <;> omega
 | _ => simp
section
open Go.RowKit
structure LibW (P : Program) (w : World) : Prop where
 len : ∃ g m, P.globalNamed "internal/bytealg.MaxLen" = some g ∧ w.cell? ⟨g, 0, none⟩ = some (.int .i64 m)
 tab : Lib.TabIs P w "internal/strconv.uint64pow10" .u64 Lib.pow10Tab
 syn : ∃ tp p, w.var? P "strconv.ErrSyntax" = some #[.iface tp p]
 rng : ∃ tp p, w.var? P "strconv.ErrRange" = some #[.iface tp p]
def nw : List String := ["internal/bytealg.MaxLen", "internal/strconv.uint64pow10", "strconv.ErrSyntax", "strconv.ErrRange"]
def LibP (P : Program) : Pred := fun M w => (∀ n ∈ nw, ∀ g, P.globalNamed n = some g → g < w.heap.size ∧ ¬ M g) ∧ LibW P w
variable {P : Program} {w : World}
theorem var_eq {w' : World} {n : String} (h : ∀ g, P.globalNamed n = some g → w'.heap[g]? = w.heap[g]?) : w'.var? P n = w.var? P n := by
 unfold World.var?;cases hg : P.globalNamed n with
 | none => rfl
 | some g => simp only [Option.bind_some, h g hg]
instance (P : Program) : Stab (LibP P) where
 st M M' w w' h hx hM := by
  obtain ⟨h1, h2⟩ := h;have hh : ∀ n ∈ nw, ∀ g, P.globalNamed n = some g → w'.heap[g]? = w.heap[g]? := fun n hn g hg => hx.2 g (h1 n hn g hg).1 (h1 n hn g hg).2;have hv := fun n hn => var_eq (P := P) (w := w) (w' := w') (n := n) (hh n hn);refine ⟨fun n hn g hg => ⟨Nat.lt_of_lt_of_le (h1 n hn g hg).1 hx.1, fun hm => (h1 n hn g hg).2 (hM g (h1 n hn g hg).1 hm)⟩, ?_, ?_, ?_, ?_⟩
  ·obtain ⟨g, m, hg, hc⟩ := h2.len;exact ⟨g, m, hg, (World.cell?_of_block (hh _ (by simp [nw]) g hg)).trans hc⟩
  ·unfold Lib.TabIs; rw [hv _ (by simp [nw])]; exact h2.tab
  ·rw [hv _ (by simp [nw])]; exact h2.syn
  ·rw [hv _ (by simp [nw])]; exact h2.rng
theorem DD (h : LibW P w) : LibP P (fun _ => False) w := by
 refine ⟨fun n hn g hg => ⟨?_, fun h => h⟩, h⟩;have hv : ∀ {cs}, w.var? P n = some cs → g < w.heap.size := fun {cs} h => by
  unfold World.var? at h;rw [hg] at h;rcases Nat.lt_or_ge g w.heap.size with h' | h'
  ·exact h'
  ·simp [Array.getElem?_eq_none h'] at h
 simp only [nw, List.mem_cons, List.not_mem_nil, or_false] at hn;rcases hn with rfl | rfl | rfl | rfl
 ·obtain ⟨g', m, hg', hc⟩ := h.len;rw [hg'] at hg;cases hg;rcases Nat.lt_or_ge g w.heap.size with h' | h'
  ·exact h'
  ·simp [World.cell?, Array.getElem?_eq_none h'] at hc
 ·exact hv h.tab
 ·obtain ⟨_, _, h1⟩ := h.syn; exact hv h1
 ·obtain ⟨_, _, h1⟩ := h.rng; exact hv h1
theorem ma {f : FuncId} {args : List Value} {pre : List Pred} {X : Type} {val : X → Value} {post : X → List Pred} (hst : ∀ x, StabL (post x))
  (h : ∀ (M : Nat → Prop) (w : World), (∀ b, M b → b < w.heap.size) → AllF pre M w → Calls P f args.toArray w (fun e w' => ∃ x, e = .returned (val x) ∧ Below w.heap.size w w' ∧ AllF (post x) M w')) :
  Does P f args pre val post where
 st := hst
 ok C hB hw := by
  refine (h (Mset C ⟨0, [], [], [], pre⟩) C.w0 (fun b hb => xP hw hb) (fun F hF => (hw.fa F hF).2)).mono fun e w' ⟨x, he, hb, hp⟩ => ⟨x, he, ?_⟩;have hg := hw.grow hb;exact ⟨hg.be, hg.bl, hg.ow, hg.nd, fun F hF => ⟨(hst x).st F hF, hp F hF⟩⟩
theorem xH (n : Nat) : Below w.heap.size w (w.drewN n) := ⟨rfl, rfl, rfl, Nr, fun _ _ => rfl⟩
theorem tL (w : World) (e : TypeId) (s : ByteArray) : Below w.heap.size w (Lib.bytesWorld w e s) := by
 refine ⟨?_, ?_, ?_, by rw [Lib.bytesWorld_size]; omega, fun k hk => Lib.bytesWorld_at_old w e _ k hk⟩ <;> rfl
theorem tM (w : World) (o : Obj) : Below w.heap.size w (w.alloc o) := ⟨rfl, rfl, rfl, by simp, fun k hk => heap_alloc_old w o k hk⟩
theorem v7 {M : Nat → Prop} (hM : ∀ b, M b → b < w.heap.size) (l : List Str) (t : TypeId) (hl : l.length * 16 ≤ 140737488355328) :
  RdL EStr ⟨some ⟨w.heap.size, 0, none⟩, l.length⟩ l M (w.alloc (.cells (l.map sV).toArray t)) := by
 refine ⟨Nr, by show l.length ≤ _; omega, hl, fun _ => ⟨_, rfl, by simp, fun hm => Nat.lt_irrefl _ (hM _ hm), fun i hi j v hv => ?_⟩⟩;have hj : j = 0 := by
  obtain ⟨hlt, _⟩ := List.getElem?_eq_some_iff.1 hv;simp [EStr] at hlt;exact hlt
 subst hj;simp only [EStr, List.getElem?_cons_zero, Option.some.injEq] at hv;subst hv;rw [jH];have h0 := heap_alloc_new w (.cells (l.map sV).toArray t);simp only [EStr, World.cell?, h0];simp [hi]
end
section
open Go.RowKit
section
variable {P : Program} {T : Tab} {C : Cx} {ops : Array Oper} {o : Oper} {r r' : RS} {s : St} {Q : Post} {N : Nat} {SL : Slots} {BL : List Blk} {OW : List Own} {FA : List Pred} {c : Code}
theorem vX (l : Str) : Lib.strCells ⟨l.toArray⟩ = l.flatMap EByte.enc := by
 show (l.map fun b => Value.int .u8 b.toNat) = l.flatMap fun b => [yV b];induction l with
 | nil => rfl
 | cons a r ih => rw [List.map_cons, List.flatMap_cons, ih]; rfl
variable {e : TypeId}
theorem z1 {t u ty : TypeId} {i : TypeInfo} (ht : P.underlying t = some (.slice e)) (hu : P.underlying u = some .string) (hi : P.info? e = some i) (w : World) {A : Option Addr} {n cap : Nat} (hn : n ≤ cap) {b : ByteArray} (hb : b.size = 0) :
  (Builtin.append_ #[t, u] ty #[.slice A n cap, .string b]).run P w = .ok (.slice A n cap) w := by
 have hx : b.data = #[] := Array.eq_empty_of_size_eq_zero hb;cases A <;> simp [Builtin.append_, run_underlying ht, run_underlying hu, sizeOf, typeInfo, hi, Builtin.lenOf, Builtin.firstCells, hb, hn, storeCells, hx]
variable {agg : Bool} {t u : Nat} {z : List Value}
theorem BI {ty : Nat} {q : Own} (hT : TabOk T P) (ht : T.slc t = some q.e) (hu : P.underlying u = some .string) (hz : T.siz q.e = some (q.esz, agg)) (hzz : T.zer q.e = some z) (hzl : z.length = 1) (hby : T.byt q.e = some q.by_) (hes : q.esz = 1) (hb1 : q.by_ = 1)
  {w : World} (hw : WOk C ⟨N, SL, BL, OW, FA⟩ w) (hq : OwnOk C w q) (l : Str) (hb : q.n + l.length ≤ 140737488355328) :
  ∃ A' c' b' w', (Builtin.append_ #[t, u] ty #[q.v, sV l]).run P w = .ok (.slice A' (q.n + l.length) c') w' ∧ OwnOk C w' ⟨.slice A' (q.n + l.length) c', b', q.e, q.esz, q.by_, q.n + l.length, q.xs ++ l.flatMap EByte.enc⟩ ∧ w.grownBy w' q.b ∧ (b' = q.b ∨ b' = none ∨ b' = some w.heap.size) := by
 obtain ⟨qv, qb, qe, qs, qby, qn, qx⟩ := q;simp only at ht hz hzz hby hes hb1 hb hq ⊢;subst hes; subst hb1;have hut := hT.slc _ _ ht;obtain ⟨ti, d, q1, q2, q3, q4⟩ := hT.siz _ _ _ hz;obtain ⟨ti', hi', hby'⟩ := hT.byt _ _ hby;obtain ⟨ti'', zv, hi'', hz'', hzc⟩ := hT.zer _ _ hzz;rw [q1] at hi' hi'';cases hi'; cases hi'';have hzs : zv.cells.size = 1 := by rw [← hzl, ← hzc]; simp
 have hsz := kU l;have hsc := vX l;have hfl : (l.flatMap EByte.enc).length = l.length := by rw [← hsc, Lib.strCells_length, hsz]
 obtain ⟨hl', hn', hbb⟩ := hq;simp only at hl' hn' hbb;rw [Nat.mul_one] at hl';have e1 : (Array.map (fun b => Value.int .u8 b.toNat) (ByteArray.mk l.toArray).data) = (Lib.strCells ⟨l.toArray⟩).toArray := by
  apply Array.ext';simp [Lib.strCells]
 have grown : ∀ (old : Nat), OwnOk C (w.drew.alloc (.cells (qx.toArray ++ (l.flatMap EByte.enc).toArray ++ Builtin.zeroCells zv.cells (grownCap w (qn + l.length) old qe - (qn + l.length))) qe)) ⟨.slice (some ⟨w.heap.size, 0, none⟩) (qn + l.length) (grownCap w (qn + l.length) old qe), some w.heap.size, qe, 1, 1, qn + l.length, qx ++ l.flatMap EByte.enc⟩ := by
  intro old;have hge := grownCap_ge w (qn + l.length) old qe;have hcm : grownCap w (qn + l.length) old qe ≤ maxLen := grownCap_le_maxLen w (qn + l.length) old qe (by simp only [maxLen]; omega);refine ⟨by simp only [List.length_append, hl', hfl, Nat.mul_one], ⟨(by show qn + l.length ≤ _; omega), (by show (qn + l.length) * 1 ≤ _; omega)⟩, .inl hw.be.size, _, _, rfl, heap_alloc_new w.drew _, hge, by simpa [maxLen] using hcm, ?_, ?_⟩
  ·simp only [Array.size_append, List.size_toArray, size_zeroCells, hzs, hl', hfl];omega
  ·simp only [Array.toList_append, List.append_assoc, Nat.mul_one];rw [← List.append_assoc, show qn + l.length = (qx ++ l.flatMap EByte.enc).length by rw [List.length_append, hl', hfl]];exact List.take_left
 have hgr : ∀ (o : Obj) (row : Option Nat), w.grownBy (w.drew.alloc o) row := fun o row => ⟨rfl, rfl, rfl, by simp, fun k hk _ => heap_alloc_old w.drew _ k hk⟩;have hnil : l.length = 0 → l = [] := fun h => List.eq_nil_of_length_eq_zero h;cases qb with
 | none =>
  simp only at hbb;obtain ⟨h0, A, rfl⟩ := hbb;subst h0;have hxs : qx = [] := List.eq_nil_of_length_eq_zero hl';subst hxs;by_cases hm : l.length = 0
  ·have := hnil hm;subst this;exact ⟨A, 0, none, w, z1 hut hu q1 w Nr hsz, ⟨rfl, ⟨N0, N0⟩, rfl, A, rfl⟩, ⟨rfl, rfl, rfl, Nr, fun _ _ _ => rfl⟩, .inl rfl⟩
  ·have hg := grown 0;cases A with
   | none =>
    have hr := run_append_nil_string (P := P) w t u ty qe ti zv hut hu q1 hz'' ⟨l.toArray⟩ (by rw [hsz]; omega) (by rw [hsz]; omega) (by rw [hby', hsz]; omega);rw [e1, hsc, hsz] at hr;simp only [Nat.zero_add, List.nil_append, Array.empty_append] at hg ⊢;exact ⟨_, _, some w.heap.size, _, hr, hg, hgr _ _, .inr (.inr rfl)⟩
   | some a =>
    have hr := Lib.run_append_grow_string (P := P) w t u ty qe ti zv hut hu q1 hz'' a 0 0 [] (by simp) (by simp) ⟨l.toArray⟩ (by rw [hsz]; omega) (by rw [hsz]; omega) (by rw [hby', hsz]; exact growslice_fits (by omega) (by omega));rw [hsc, hsz] at hr;exact ⟨_, _, some w.heap.size, _, hr, hg, hgr _ _, .inr (.inr rfl)⟩
 | some g =>
  simp only at hbb;obtain ⟨hg, cap, cur, rfl, hh, hnc, hcap, hcs, htake⟩ := hbb;rw [Nat.mul_one] at hcs htake;by_cases hroom : qn + l.length ≤ cap
  ·have hr := Lib.run_append_room_string (P := P) w t u ty qe ti hut hu q1 q2 g qn cap cur hh ⟨l.toArray⟩ (by rw [hsz]; exact hroom) (by rw [hsz]; omega);rw [hsc, hsz] at hr;refine ⟨_, _, some g, _, hr, ⟨by simp only [List.length_append, hl', hfl, Nat.mul_one], ⟨(by show qn + l.length ≤ _; omega), (by show (qn + l.length) * 1 ≤ _; omega)⟩, hg, cap, _, rfl, setRow_heap w g cur _ qe _ hh, hroom, hcap, ?_, ?_⟩, ⟨rfl, rfl, rfl, by simp, fun k _ hk => setRow_other w g k _ (fun e => hk (by simp [e]))⟩, .inl rfl⟩
   ·simp only [List.size_toArray, List.length_append, List.length_take, List.length_drop, Array.length_toList, hfl];omega
   ·simp only [Nat.mul_one];rw [htake, show qn + l.length = (qx ++ l.flatMap EByte.enc).length by rw [List.length_append, hl', hfl]];exact List.take_left
  ·have holds : ∀ j u, qx[j]? = some u → w.cell? ((⟨g, 0, none⟩ : Addr).add j) = some u := fun j u hj => by
    rw [jH, Nat.zero_add];simp only [World.cell?, hh];have hjl := (List.getElem?_eq_some_iff.1 hj).1;rw [← htake, List.getElem?_take, if_pos (by omega), Array.getElem?_toList] at hj;exact hj
   have hr := Lib.run_append_grow_string (P := P) w t u ty qe ti zv hut hu q1 hz'' ⟨g, 0, none⟩ qn cap qx (by rw [q2]; omega) holds ⟨l.toArray⟩ (by rw [hsz]; omega) (by rw [hsz]; omega) (by rw [hby', hsz]; exact growslice_fits (by omega) (by omega));rw [hsc, hsz] at hr;exact ⟨_, _, some w.heap.size, _, hr, grown cap, hgr _ _, .inr (.inr rfl)⟩
theorem pk (l m : Str) {X : SlV} {b : Option Nat} {d : Nat} {x y : Operand} {g0 g1 : Bool} {ow' : SlV → Option Nat → List Own} {D : List Nat} (hf : Front ops r o D r') (hbD : ∀ g, b = some g → (∃ l, r = .sq l) ∨ g ∈ D) (hg : Guard ops SL o true) (hd : o.dst = some d) (hn : Nat.blt d N = true)
  (ho : o.op = .call ⟨.builtin .append, ⟨[x, y]⟩, ⟨[t, u]⟩⟩) (hx : ev SL x = some (g0, X.val l.length)) (hg0 : g0 = true) (hy : ev SL y = some (g1, sV m)) (hg1 : g1 = true)
  (hut : P.underlying u = some .string) (hu : ∀ (X' : SlV) b', UpdO OW (ownL EByte e X b l) [ownL EByte e X' b' (l ++ m)] (ow' X' b'))
  (ht : T.slc t = some e) (hz : T.siz e = some (1, agg)) (hzz : T.zer e = some z) (hzl : z.length = 1) (hby : T.byt e = some 1)
  (hb : l.length + m.length ≤ 140737488355328)
  (h : ∀ (X' : SlV) (b' : Option Nat), RW P T C ops r' ⟨N, (d, .v (X'.val (l ++ m).length)) :: SL, BL, ow' X' b', FA⟩ Q) : RW P T C ops r ⟨N, SL, BL, OW, FA⟩ Q := by
 have key : Loud P T C ⟨N, SL, BL, OW, FA⟩ o b.toList (fun s' => ∃ (X : SlV) (b' : Option Nat), s' = ⟨N, (d, .v (X.val (l ++ m).length)) :: SL, BL, ow' X b', FA⟩) := by
  intro hT a w hrep;refine Oper.wp_mono ?_ (qH (D := b.toList) hd hn (K := fun u bl ow fa => ∃ (X : SlV) (b' : Option Nat), u = X.val (l ++ m).length ∧ bl = BL ∧ ow = ow' X b' ∧ fa = FA) ?_ hT a w hrep)
  ·rintro a' w' ⟨s', ⟨u, bl, ow, fa, ⟨X, b', e1, e2, e3, e4⟩, e5⟩, h2, h3⟩;subst e1; subst e2; subst e3; subst e4;exact ⟨s', ⟨X, b', e5⟩, h2, h3⟩
  ·intro hT a w hrep;have hm : ownL EByte e X b l ∈ OW := by obtain ⟨l', r, e, _⟩ := (hu ⟨none, 0⟩ none).spec; rw [e]; simp
   have hq := hrep.wo.ow _ hm;obtain ⟨A', c', b', w', hrun, ho', hgr, hbb⟩ := BI (ty := o.type) hT (q := ownL EByte e X b l) ht hut hz hzz hzl hby rfl rfl hrep.wo hq m hb;simp only at hrun ho' hgr hbb;have e1 : (l ++ m).length = l.length + m.length := List.length_append;have e2 : (l ++ m).flatMap EByte.enc = l.flatMap EByte.enc ++ m.flatMap EByte.enc := List.flatMap_append;have hu' := hu ⟨A', c'⟩ b';rw [ownL, ownL, e1, e2] at hu';refine ⟨.slice A' (l.length + m.length) c', w', BL, ow' ⟨A', c'⟩ b', FA, ?_, hrep.wo.swapO hu' ho' hgr hbb, ⟨hgr.size, fun k hk hn => hgr.block k hk fun e => hn (by rw [← e]; simp)⟩, ⟨A', c'⟩, b', by rw [e1]; rfl, rfl, rfl, rfl⟩;simp only [execOp, ho, resolve, invoke, builtin, Sem.run_bind, Sem.run_pure, Result.andThen_ok, List.map_toArray, List.map_cons, List.map_nil, ev_ok hrep.sl hx hg0, ev_ok hrep.sl hy hg1, hrun]
 cases hf with
 | sq => exact rO hg key (fun s' ⟨X, b', e⟩ => by subst e; exact h X b')
 | lo _ hi hDD => exact rw_l (.lo b.toList hi hDD) hg key (fun s' ⟨X, b', e⟩ => by subst e; exact h X b')
 | an hi hDD =>
  refine rw_l (.an hi hDD) hg (fun hT a w hrep => Oper.wp_mono (fun a' w' ⟨s', h1, h2, h3⟩ => ⟨s', h1, h2, h3.mono fun k hk => ?_⟩) (key hT a w hrep)) (fun s' ⟨X, b', e⟩ => by subst e; exact h X b');rcases hbD k (by simpa using hk) with ⟨_, e⟩ | e
  ·cases e
  ·exact e
end
end
end Go.Proofs.YtkjccbdeaflekaaGreatDoor.Fw
namespace Go.Proofs.YtkjccbdeaflekaaGreatDoor
open Go Go.Proofs.YtkjccbdeaflekaaGreatDoor.Fw Go.Proofs
def stamp (o : Op) : Stamp := ⟨o.time, o.who⟩
def before (a b : Op) : Bool := jL (stamp a) (stamp b)
theorem ln (a b : Op) : before a b = true ↔ a.time < b.time ∨ (a.time = b.time ∧ a.who < b.who) := by
 unfold before jL stamp;simp
theorem nD (a b : Op) : before a b = false ↔ ¬ (a.time < b.time ∨ (a.time = b.time ∧ a.who < b.who)) := by
 rw [← ln]; simp
theorem wM (a b c : Op) (h1 : before c b = false) (h2 : before b a = false) : before c a = false := by
 rw [nD] at *; omega
theorem tP (a b : Op) (h : before a b = true) : before b a = false := by
 rw [ln] at h; rw [nD]; omega
variable {a b : Op}
theorem r0 {c : Op} (h1 : before a b = true) (h2 : before b c = true) : before a c = true := by
 rw [ln] at *; omega
theorem tN (h1 : before a b = false) (h2 : before b a = false) : stamp a = stamp b := by
 rw [nD] at *;unfold stamp;congr 1 <;> omega
theorem zu (a : Op) : before a a = false := by rw [nD]; omega
theorem wN (h : before a b = true) : stamp a ≠ stamp b := fun e => by
 rw [ln] at h;unfold stamp at e;injection e with e1 e2;omega
theorem yA (a b : Op) : decide (br a b < 0) = before a b := by
 unfold br;show decide ((bif before a b then (-1 : Int) else bif before b a then 1 else 0) < 0) = before a b;cases before a b <;> cases before b a <;> rfl
def iT (l : List Op) : List Op := ar l br
variable {l : List Op}
theorem gi (h : l.length ≤ 30) : (iT l).Perm l := (ST_Op br before yA wM tP l h).1
theorem iQ (h : l.length ≤ 30) : Sorted before (iT l) := (ST_Op br before yA wM tP l h).2
def Dist (l : List Op) : Prop := (l.map stamp).Nodup
def Rise (l : List Op) : Prop := l.Pairwise (fun a b => before a b = true)
theorem Rise.dist (h : Rise l) : Dist l := by
 unfold Dist;rw [List.Nodup, List.pairwise_map];exact h.imp fun h => wN h
theorem sX (h1 : Sorted before l) (h2 : Dist l) : Rise l := by
 unfold Dist at h2;rw [List.Nodup, List.pairwise_map] at h2;have := List.Pairwise.and h1 h2;exact this.imp fun {a b} ⟨h, hne⟩ => by
  cases hh : before a b with
  | true => rfl
  | false => exact absurd (tN hh h) hne
theorem Rise.uniq : ∀ {l l' : List Op}, Rise l → Rise l' → l.Perm l' → l = l'
 | [], l', _, _, hp => (List.Perm.nil_eq hp)
 | a :: l, [], _, _, hp => absurd hp.length_eq (by simp)
 | a :: l, b :: l', h, h', hp => by
  have hab : a = b := by
   have h1 : a ∈ b :: l' := hp.mem_iff.1 (.head _);have h2 : b ∈ a :: l := hp.mem_iff.2 (.head _);rcases List.mem_cons.1 h1 with h1 | h1
   ·exact h1
   ·rcases List.mem_cons.1 h2 with h2 | h2
    ·exact h2.symm
    ·have e1 := (List.pairwise_cons.1 h).1 b h2;have e2 := (List.pairwise_cons.1 h').1 a h1;rw [tP _ _ e1] at e2; cases e2
  subst hab;rw [Rise.uniq (List.pairwise_cons.1 h).2 (List.pairwise_cons.1 h').2 ((List.perm_cons _).1 hp)]
theorem Dist.perm {l' : List Op} (h : l.Perm l') : Dist l ↔ Dist l' := (h.map stamp).nodup_iff
def run : History → List Op → History
 | h, [] => h
 | h, o :: r => run ⟨h.l ++ [(gz h.t o).2.1], (gz h.t o).1⟩ r
def e0 : History := ⟨[], []⟩
variable {o : Op} {t : List Place}
theorem ie (h1 : ed t = 0) (h2 : chkO o = 0) : (gz t o).2.2 = 0 := by
 rw [ro, h1, h2]; rfl
theorem run_app : ∀ (a b : List Op) (h : History), run h (a ++ b) = run (run h a) b
 | [], _, _ => rfl
 | o :: a, b, h => by rw [List.cons_append, run, run, run_app a b]
theorem pm : ∀ (l : List Op) (h : History), ed h.t = 0 → (∀ o ∈ l, chkO o = 0) → ed (run h l).t = 0
 | [], _, h, _ => h
 | o :: r, h, hc, hl => by
  rw [run];exact pm r _ (l4 (ie hc (hl o (.head _)))).tree fun q hq => hl q (.tail _ hq)
theorem Ay (t : List Place) (o : Op) (h1 : ed t = 0) (h2 : chkO o = 0) : (gz t o).2.1.o = o := (l4 (ie h1 h2)).op
theorem xj : ∀ (l : List Op) (h : History), ed h.t = 0 → (∀ o ∈ l, chkO o = 0) → (run h l).l.map (·.o) = h.l.map (·.o) ++ l
 | [], h, _, _ => by simp [run]
 | o :: r, h, hc, hl => by
  have h0 := hl o (.head _);rw [run, xj r _ (l4 (ie hc h0)).tree fun q hq => hl q (.tail _ hq)];simp [Ay h.t o hc h0]
theorem zY (l : List Op) (h : History) : (run h l).l.length = h.l.length + l.length := by
 induction l generalizing h with
 | nil => rfl
 | cons o r ih => rw [run, ih]; simp; omega
theorem rE (l : List Op) : ∀ r : List Op, (∀ o ∈ r, chkO o = 0) → fB l r = eZ l (iT l) 0 [] []
 | [], _ => rfl
 | o :: r, h => by
  rw [fB, fA, h o (.head _)];exact rE l r fun q hq => h q (.tail _ hq)
theorem AZ (o : Op) : chkO o = 0 ∨ chkO o = 3 := by
 unfold chkO;generalize (decide (o.time < 1) || decide (o.time > 10000) || decide (o.who < 0) || decide (o.who ≥ 3) || decide (o.node < 1) || decide (o.node ≥ 16) || decide (o.parent < 0) || decide (o.parent > 16) || decide (o.name < 0) || decide (o.name > 99) || decide (o.life < 1) || decide (o.life > 50) || decide (o.seq < 1) || decide (o.seq > 30)) = b;cases b <;> simp
theorem t6 (l : List Op) : ∀ r : List Op, (∃ o ∈ r, chkO o ≠ 0) → fB l r = (e0, 3)
 | [], h => by obtain ⟨o, h, _⟩ := h; cases h
 | o :: r, h => by
  rw [fB, fA];rcases AZ o with h0 | h0
  ·rw [h0];refine t6 l r ?_;obtain ⟨q, hq, hne⟩ := h;rcases List.mem_cons.1 hq with rfl | hq
   ·exact absurd h0 hne
   ·exact ⟨q, hq, hne⟩
  ·rw [h0]; rfl
theorem uX (l S : List Op) (hS : iT l = S) (hr : Rise S) (hc : ∀ o ∈ S, chkO o = 0) : ∀ (r : List Op) (n : Nat) (L : List Step) (T : List Place), r = S.drop n → ed T = 0 → eZ l r n L T = (run ⟨L, T⟩ r, 0)
 | [], n, L, T, _, _ => rfl
 | o :: r, n, L, T, hd, hT => by
  have hn : n < S.length := by
   rcases Nat.lt_or_ge n S.length with h | h
   ·exact h
   ·rw [Dl h] at hd; cases hd
  rw [aK hn] at hd;obtain ⟨rfl, hd'⟩ := List.cons.inj hd;have ho := hc _ (gJ hn);rw [eZ, show ar l br = S from hS, rn, ie hT ho];have hne : (decide ((n : Int) > 0) && decide ((⟨(gt S (n - 1)).time, (gt S (n - 1)).who⟩ : Stamp) = (⟨(gt S n).time, (gt S n).who⟩ : Stamp))) = false := by
   cases n with
   | zero => rfl
   | succ n =>
    have hb : before (gt S n) (gt S (n + 1)) = true := by
     rw [gt_eq (by omega), gt_eq hn];exact List.pairwise_iff_getElem.1 hr n (n + 1) (by omega) hn (by omega)
    have := wN hb;unfold stamp at this;simp [this]
  rw [hne];simp only [cond_false, bne_self_eq_false];rw [uX l S hS hr hc r (n + 1) _ _ hd' (l4 (ie hT ho)).tree];rfl
theorem t5 (l S : List Op) (hS : iT l = S) (hc : ∀ o ∈ S, chkO o = 0) : ∀ (r : List Op) (n : Nat) (L : List Step) (T : List Place), r = S.drop n → ed T = 0 → (∃ i, n ≤ i ∧ 0 < i ∧ i < S.length ∧ stamp (gt S (i - 1)) = stamp (gt S i)) → eZ l r n L T = (e0, 6)
 | [], n, L, T, hd, _, h => by
  obtain ⟨i, h1, _, h3, _⟩ := h;have := congrArg List.length hd;simp at this; omega
 | o :: r, n, L, T, hd, hT, h => by
  have hn : n < S.length := by
   rcases Nat.lt_or_ge n S.length with h | h
   ·exact h
   ·rw [Dl h] at hd; cases hd
  rw [aK hn] at hd;obtain ⟨rfl, hd'⟩ := List.cons.inj hd;have ho := hc _ (gJ hn);rw [eZ, show ar l br = S from hS, rn, ie hT ho];cases he : (decide ((n : Int) > 0) && decide ((⟨(gt S (n - 1)).time, (gt S (n - 1)).who⟩ : Stamp) = (⟨(gt S n).time, (gt S n).who⟩ : Stamp))) with
  | true => rfl
  | false =>
   simp only [cond_false, bne_self_eq_false];refine t5 l S hS hc r (n + 1) _ _ hd' (l4 (ie hT ho)).tree ?_;obtain ⟨i, h1, h2, h3, h4⟩ := h;rcases Nat.eq_or_lt_of_le h1 with rfl | h1
   ·unfold stamp at h4;rw [h4] at he;simp at he; omega
   ·exact ⟨i, h1, h2, h3, h4⟩
theorem neighbours : ∀ {S : List Op}, Sorted before S → ¬ Rise S → ∃ i, 0 < i ∧ i < S.length ∧ stamp (gt S (i - 1)) = stamp (gt S i)
 | [], _, h => absurd List.Pairwise.nil h
 | [a], _, h => absurd (by simp [Rise]) h
 | a :: b :: S, hs, h => by
  have h1 := (List.pairwise_cons.1 hs).1 b (.head _);cases hb : before a b with
  | false => exact ⟨1, by omega, by simp, tN (by simpa [gt] using hb) (by simpa [gt] using h1)⟩
  | true =>
   have hn : ¬ Rise (b :: S) := fun hr => h (List.pairwise_cons.2 ⟨fun c hc => by
    rcases List.mem_cons.1 hc with rfl | hc
    ·exact hb
    ·exact r0 hb ((List.pairwise_cons.1 hr).1 c hc), hr⟩)
   obtain ⟨i, h2, h3, h4⟩ := neighbours (List.pairwise_cons.1 hs).2 hn;refine ⟨i + 1, by omega, by simp at h3 ⊢; omega, ?_⟩;obtain ⟨j, rfl⟩ : ∃ j, i = j + 1 := ⟨i - 1, by omega⟩;simpa [gt] using h4
theorem t0 (h : 30 < l.length) : bW l = (e0, 2) := by
 unfold bW;have : decide ((l.length : Int) > 30) = true := by simp; omega
 rw [this]; rfl
theorem yW (h : l.length ≤ 30) (hb : ∃ o ∈ l, chkO o ≠ 0) : bW l = (e0, 3) := by
 unfold bW;have : decide ((l.length : Int) > 30) = false := by simp; omega
 rw [this]; exact t6 l l hb
theorem pi (h : l.length ≤ 30) (hc : ∀ o ∈ l, chkO o = 0) : ∀ o ∈ iT l, chkO o = 0 := fun o ho => hc o ((gi h).mem_iff.1 ho)
theorem vR (h : l.length ≤ 30) (hc : ∀ o ∈ l, chkO o = 0) (hd : Dist l) : bW l = (run e0 (iT l), 0) := by
 unfold bW;have : decide ((l.length : Int) > 30) = false := by simp; omega
 rw [this, cond_false, rE l l hc];exact uX l _ rfl (sX (iQ h) ((Dist.perm (gi h)).2 hd)) (pi h hc) _ 0 [] [] rfl rfl
theorem uW (h : l.length ≤ 30) (hc : ∀ o ∈ l, chkO o = 0) (hd : ¬ Dist l) : bW l = (e0, 6) := by
 unfold bW;have : decide ((l.length : Int) > 30) = false := by simp; omega
 rw [this, cond_false, rE l l hc];have hn : ¬ Rise (iT l) := fun hr => hd ((Dist.perm (gi h)).1 hr.dist);obtain ⟨i, h1, h2, h3⟩ := neighbours (iQ h) hn;exact t5 l _ rfl (pi h hc) _ 0 [] [] rfl rfl ⟨i, by omega, h1, h2, h3⟩
theorem Ct (h : (bW l).2 = 0) : l.length ≤ 30 ∧ (∀ o ∈ l, chkO o = 0) ∧ Dist l ∧ bW l = (run e0 (iT l), 0) := by
 rcases Nat.lt_or_ge 30 l.length with h1 | h1
 ·rw [t0 h1] at h; cases h
 by_cases hc : ∃ o ∈ l, chkO o ≠ 0
 ·rw [yW h1 hc] at h; cases h
 have hc : ∀ o ∈ l, chkO o = 0 := fun o ho => Classical.byContradiction fun hn => hc ⟨o, ho, hn⟩;by_cases hd : Dist l
 ·exact ⟨h1, hc, hd, vR h1 hc hd⟩
 ·rw [uW h1 hc hd] at h; cases h
variable {S : List Op}
theorem vY (h : S.length ≤ 30) (hr : Rise S) : iT S = S :=
 Rise.uniq (sX (iQ h) ((Dist.perm (gi h)).2 hr.dist)) hr (gi h)
theorem rM (h : l.length ≤ 30) (hr : Rise S) (hp : S.Perm l) : iT l = S :=
 Rise.uniq (sX (iQ h) ((Dist.perm (gi h)).2 ((Dist.perm hp).1 hr.dist))) hr ((gi h).trans hp.symm)
structure mh (h : History) (S : List Op) : Prop where
 len : S.length ≤ 30
 ok : ∀ o ∈ S, chkO o = 0
 rise : Rise S
 eq : h = run e0 S
theorem qS (a b : History) : gj a b = true ↔ a = b := by
 unfold gj;obtain ⟨l, t⟩ := a;obtain ⟨l', t'⟩ := b;simp
variable {h : History}
theorem mh.ops (hh : mh h S) : h.l.map (·.o) = S := by
 rw [hh.eq, xj S e0 rfl hh.ok]; rfl
theorem lN (h : History) : bz h = 0 ↔ mh h (h.l.map (·.o)) := by
 constructor
 ·intro hc;obtain ⟨h1, h2⟩ := l8 hc;obtain ⟨g1, g2, g3, g4⟩ := Ct h1;rw [qS, g4] at h2;rw [ky] at *;have e : h.l.map (·.o) = iT (h.l.map (·.o)) := by
   conv => lhs; rw [← h2]
   rw [xj _ e0 rfl (pi g1 g2)]; rfl
  refine ⟨g1, g2, ?_, by rw [e]; exact h2.symm⟩;rw [e];exact sX (iQ g1) ((Dist.perm (gi g1)).2 g3)
 ·intro hh;unfold bz;rw [ky, vR hh.len hh.ok hh.rise.dist, vY hh.len hh.rise];have : gj (run e0 (h.l.map (·.o))) h = true := by rw [qS]; exact hh.eq.symm
  rw [this]; rfl
theorem tV : ∀ (r : List Op) (L : List Step) (T : List Place), ed T = 0 → (∀ o ∈ r, chkO o = 0) → ig r L T = (run ⟨L, T⟩ r, 0)
 | [], _, _, _, _ => rfl
 | o :: r, L, T, hT, hc => by
  have ho := hc o (.head _);rw [ig, rn, ie hT ho];simp only [bne_self_eq_false, cond_false];rw [tV r _ _ (l4 (ie hT ho)).tree fun q hq => hc q (.tail _ hq)];rfl
theorem sB (A : List Op) (b : Op) : run e0 (A ++ [b]) = ⟨(run e0 A).l ++ [(gz (run e0 A).t b).2.1], (gz (run e0 A).t b).1⟩ := by
 rw [run_app]; rfl
theorem Bm (o : Op) (ho : chkO o = 0) : ∀ (n : Nat) (A R : List Op) (f : Nat), A.length = n → n < f → (∀ q ∈ A, chkO q = 0) → (∀ q ∈ R, chkO q = 0) → Rise A →
  ∃ A1 A2, A = A1 ++ A2 ∧ (∀ q ∈ A1, before o q = false) ∧ (∀ q ∈ A2, before o q = true) ∧ fT o f (o :: R) (n : Int) (run e0 A).l (run e0 A).t = (run e0 (A1 ++ o :: (A2 ++ R.reverse)), 0) := by
 intro n;induction n with
 | zero =>
  intro A R f hA hf hcA hcR hr;obtain ⟨f, rfl⟩ : ∃ g, f = g + 1 := ⟨f - 1, by omega⟩;have : A = [] := List.length_eq_zero_iff.1 hA;subst this;refine ⟨[], [], rfl, by simp, by simp, ?_⟩;rw [fT];have : decide (((0 : Nat) : Int) > 0) = false := rfl;rw [this, Bool.false_and, cond_false, RK_Op _ _ (by simp), tV _ _ _ rfl (fun q hq => by
   simp only [List.take_succ_cons, List.take_zero, List.drop_succ_cons, List.drop_zero, List.cons_append, List.nil_append, List.mem_cons, List.mem_reverse] at hq;rcases hq with rfl | hq
   ·exact ho
   ·exact hcR q hq)]
  rfl
 | succ n ih =>
  intro A R f hA hf hcA hcR hr;obtain ⟨f, rfl⟩ : ∃ g, f = g + 1 := ⟨f - 1, by omega⟩;obtain ⟨B, b, rfl⟩ : ∃ B b, A = B ++ [b] := ⟨A.dropLast, A.getLast (by intro e; rw [e] at hA; cases hA), (List.dropLast_concat_getLast _).symm⟩;simp only [Ln] at hA;have hcB : ∀ q ∈ B, chkO q = 0 := fun q hq => hcA q (List.mem_append_left _ hq);have hcb : chkO b = 0 := hcA b (by simp);have hTB : ed (run e0 B).t = 0 := pm B e0 rfl hcB;have hm := l4 (ie hTB hcb);have hlB : (run e0 B).l.length = n := by rw [zY]; simp [e0]; omega
  have hg : gt (run e0 (B ++ [b])).l (((n + 1 : Nat) : Int) - 1).toNat = (gz (run e0 B).t b).2.1 := by
   rw [sB];exact mX _ _ [] _ (by omega)
  have ht : (run e0 (B ++ [b])).l.take (((n + 1 : Nat) : Int) - 1).toNat = (run e0 B).l := by
   rw [sB];simp only;rw [show (((n + 1 : Nat) : Int) - 1).toNat = (run e0 B).l.length by omega, List.take_left]
  rw [fT, hg];have hop := hm.op;have h0 : decide (((n + 1 : Nat) : Int) > 0) = true := decide_eq_true (by omega);rw [h0, Bool.true_and, hop];show ∃ A1 A2, _ ∧ _ ∧ _ ∧ (bif before o b then _ else _) = _;cases hb : before o b with
  | false =>
   refine ⟨B ++ [b], [], by simp, fun q hq => ?_, by simp, ?_⟩
   ·rcases List.mem_append.1 hq with hq | hq
    ·have h1 := (List.pairwise_append.1 hr).2.2 q hq b (by simp);cases hh : before o q with
     | false => rfl
     | true => rw [r0 hh h1] at hb; cases hb
    ·rw [List.mem_singleton] at hq; rw [hq]; exact hb
   ·rw [cond_false, RK_Op _ _ (by simp), tV _ _ _ (pm _ e0 rfl hcA) (fun q hq => by
     simp only [List.take_succ_cons, List.take_zero, List.drop_succ_cons, List.drop_zero, List.cons_append, List.nil_append, List.mem_cons, List.mem_reverse] at hq;rcases hq with rfl | hq
     ·exact ho
     ·exact hcR q hq)]
    show (run (run e0 (B ++ [b])) _, (0 : Int)) = _;rw [← run_app];simp
  | true =>
   have hu : ee (run e0 (B ++ [b])).t (gz (run e0 B).t b).2.1 = ((run e0 B).t, 0) := by
    rw [wm, sB]; exact hm.undo
   rw [cond_true, hu];simp only [bne_self_eq_false, cond_false];rw [ht, show ((n + 1 : Nat) : Int) - 1 = (n : Int) by omega];obtain ⟨A1, A2, h1, h2, h3, h4⟩ := ih B (R ++ [b]) f (by omega) (by omega) hcB (fun q hq => by
    rcases List.mem_append.1 hq with hq | hq
    ·exact hcR q hq
    ·rw [List.mem_singleton] at hq; rw [hq]; exact hcb) (List.pairwise_append.1 hr).1
   refine ⟨A1, A2 ++ [b], by rw [h1]; simp, h2, fun q hq => ?_, ?_⟩
   ·rcases List.mem_append.1 hq with hq | hq
    ·exact h3 q hq
    ·rw [List.mem_singleton] at hq; rw [hq]; exact hb
   ·rw [List.cons_append, h4]; simp
theorem A3 (L : List Step) (o : Op) : L.any (fun a0_ => jk a0_ o) = true ↔ ∃ q ∈ L.map (·.o), stamp q = stamp o := by
 rw [List.any_eq_true];constructor
 ·rintro ⟨s, hs, h⟩; exact ⟨s.o, List.mem_map.2 ⟨s, hs, rfl⟩, of_decide_eq_true h⟩
 ·rintro ⟨q, hq, h⟩;obtain ⟨s, hs, rfl⟩ := List.mem_map.1 hq;exact ⟨s, hs, decide_eq_true h⟩
theorem Put_eq (hh : mh h S) (o : Op) : cv h o =
  bif chkO o != 0 then (e0, chkO o) else bif S.any (fun q => decide (stamp q = stamp o)) then (e0, 6) else bif S.length == 30 then (e0, 2) else (run e0 (iT (S ++ [o])), 0) := by
 unfold cv;rw [fA];cases h1 : chkO o != 0 with
 | true => rfl
 | false =>
  have ho := ag h1;simp only [cond_false];have ha : h.l.any (fun a0_ => jk a0_ o) = S.any (fun q => decide (stamp q = stamp o)) := by
   rw [Bool.eq_iff_iff, A3, hh.ops, List.any_eq_true];simp
  have hl : h.l.length = S.length := by rw [← hh.ops, List.length_map]
  rw [ha];cases h2 : S.any (fun q => decide (stamp q = stamp o)) with
  | true => rfl
  | false =>
   simp only [cond_false];have h30 : ((h.l.length : Int) == 30) = (S.length == 30) := by rw [hl, Bool.eq_iff_iff]; simp; omega
   rw [h30];cases h3 : S.length == 30 with
   | true => rfl
   | false =>
    have h3 : S.length ≠ 30 := by simpa using h3
    have hlen := hh.len;simp only [cond_false];obtain ⟨A1, A2, e1, e2, e3, e4⟩ := Bm o ho S.length S [] (h.l.length + 1) rfl (by omega) hh.ok (by simp) hh.rise;have hne : ∀ q ∈ S, stamp q ≠ stamp o := fun q hq he => by
     have : S.any (fun q => decide (stamp q = stamp o)) = true := List.any_eq_true.2 ⟨q, hq, decide_eq_true he⟩;rw [h2] at this; cases this
    have hrise : Rise (A1 ++ o :: A2) := by
     have hr := hh.rise;rw [e1] at hr;obtain ⟨r1, r2, r3⟩ := List.pairwise_append.1 hr;have hA1 : ∀ q ∈ A1, before q o = true := fun q hq => by
      cases hb : before q o with
      | true => rfl
      | false => exact absurd (tN hb (e2 q hq)) (hne q (by rw [e1]; exact List.mem_append_left _ hq))
     refine List.pairwise_append.2 ⟨r1, List.pairwise_cons.2 ⟨e3, r2⟩, fun q hq w hw => ?_⟩;rcases List.mem_cons.1 hw with rfl | hw
     ·exact hA1 q hq
     ·exact r3 q hq w hw
    have hs : iT (S ++ [o]) = A1 ++ o :: A2 := rM (by simp; omega) hrise (by
     rw [e1];refine List.perm_middle.trans ?_;exact (List.perm_append_comm (l₁ := [o]) (l₂ := A1 ++ A2)))
    rw [hs];have := e4;rw [List.reverse_nil, List.append_nil] at this;rw [← this, hl, hh.eq]
def fw (h1 : History) (o1 : Op) : History × Int :=
 (bif ((bz h1) != 0) then ((⟨([] : List Step), ([] : List Place)⟩ : History), (bz h1)) else ((cv h1 o1).1, (cv h1 o1).2))
theorem wW (hh : mh h S) (o : Op) : fw h o =
  bif chkO o != 0 then (e0, chkO o) else bif S.any (fun q => decide (stamp q = stamp o)) then (e0, 6) else bif S.length == 30 then (e0, 2) else (run e0 (iT (S ++ [o])), 0) := by
 have hS : S = h.l.map (·.o) := hh.ops.symm;have hc : bz h = 0 := (lN h).2 (hS ▸ hh);unfold fw;rw [hc, Put_eq hh]; rfl
theorem uV (hc : bz h ≠ 0) (o : Op) : fw h o = (e0, bz h) := by
 unfold fw;have : (bz h != 0) = true := by simpa using hc
 rw [this]; rfl
theorem mh.run {S : List Op} (h1 : S.length ≤ 30) (h2 : ∀ o ∈ S, chkO o = 0) (h3 : Rise S) : mh (run e0 S) S := ⟨h1, h2, h3, rfl⟩
theorem Aw (h : S.any (fun q => decide (stamp q = stamp o)) = false) : ∀ q ∈ S, stamp q ≠ stamp o := fun q hq he => by
 have : S.any (fun q => decide (stamp q = stamp o)) = true := List.any_eq_true.2 ⟨q, hq, decide_eq_true he⟩;rw [h] at this; cases this
theorem wI (h : Dist S) (hne : ∀ q ∈ S, stamp q ≠ stamp o) : Dist (S ++ [o]) := by
 unfold Dist at *;rw [List.map_append, List.nodup_append];refine ⟨h, by simp, fun a ha b hb => ?_⟩;obtain ⟨q, hq, rfl⟩ := List.mem_map.1 ha;simp only [List.map_cons, List.map_nil, List.mem_singleton] at hb;rw [hb]; exact hne q hq
theorem zL (h : l.length ≤ 30) (hd : Dist l) : Rise (iT l) := sX (iQ h) ((Dist.perm (gi h)).2 hd)
theorem zD (hi : (fw h o).2 = 0) : ∃ S, mh h S ∧ chkO o = 0 ∧ (∀ q ∈ S, stamp q ≠ stamp o) ∧ S.length < 30 ∧ fw h o = (run e0 (iT (S ++ [o])), 0) ∧ mh (fw h o).1 (iT (S ++ [o])) := by
 by_cases hc : bz h = 0
 ·have hh := (lN h).1 hc;refine ⟨_, hh, ?_⟩;rw [wW hh] at hi ⊢;cases h1 : chkO o != 0 with
  | true => rw [h1, cond_true] at hi; simp only at hi; rw [hi] at h1; simp at h1
  | false =>
   have ho := ag h1;rw [h1, cond_false] at hi;cases h2 : (h.l.map (·.o)).any (fun q => decide (stamp q = stamp o)) with
   | true => rw [h2, cond_true] at hi; cases hi
   | false =>
    rw [h2, cond_false] at hi;cases h3 : (h.l.map (·.o)).length == 30 with
    | true => rw [h3, cond_true] at hi; cases hi
    | false =>
     have h3 : (h.l.map (·.o)).length ≠ 30 := by simpa using h3
     have hl := hh.len;have hne := Aw h2;have hl2 : (h.l.map (·.o) ++ [o]).length ≤ 30 := by simp only [Ln]; omega
     refine ⟨ho, hne, by omega, rfl, ?_⟩;simp only [cond_false];refine mh.run (by rw [(gi hl2).length_eq]; exact hl2) (pi hl2 fun q hq => ?_) (zL hl2 (wI hh.rise.dist hne));rcases List.mem_append.1 hq with hq | hq
     ·exact hh.ok q hq
     ·rw [List.mem_singleton] at hq; rw [hq]; exact ho
 ·rw [uV hc] at hi; exact absurd hi hc
theorem mh.llen (hh : mh h S) : h.l.length = S.length := by rw [← hh.ops, List.length_map]
theorem mh.at_ (hh : mh h S) {i : Nat} (hi : i < h.l.length) : (gt h.l i).o = gt S i := by
 have := hh.llen;rw [gt_eq hi, gt_eq (by omega)];have e := hh.ops;subst e;simp
attribute [local irreducible] CW RW
theorem pigeon : ∀ (n : Nat) (l : List Int), l.Nodup → (∀ x ∈ l, 0 ≤ x ∧ x < n) → l.length ≤ n
 | 0, l, _, h => by
  cases l with
  | nil => simp
  | cons a r => have := h a (.head _); omega
 | n + 1, l, hn, h => by
  have h1 := pigeon n (l.erase (n : Int)) (hn.erase _) (fun x hx => by
   have h2 := h x (List.mem_of_mem_erase hx);have h3 : x ≠ (n : Int) := fun e => by subst e; exact hn.not_mem_erase hx
   omega)
  rw [List.length_erase] at h1;split at h1 <;> omega
theorem o6 {l : List Int} (hn : l.Nodup) (hm : ∀ x ∈ l.tail, 0 ≤ x ∧ x ≤ 16) : l.length ≤ 18 := by
 cases l with
 | nil => simp
 | cons a r =>
  have := pigeon 17 r (List.nodup_cons.1 hn).2 (fun x hx => by have := hm x hx; omega);simp only [List.length_cons]; omega
variable {x : Int}
theorem pr {l : List Int} (hn : l.Nodup) (hx : x ∉ l) : (l ++ [x]).Nodup := by
 rw [List.nodup_append];exact ⟨hn, by simp, fun a ha b hb e => by rw [List.mem_singleton] at hb; subst hb; subst e; exact hx ha⟩
theorem qt {l : List Int} (hm : ∀ y ∈ l.tail, 0 ≤ y ∧ y ≤ 16) (hx : 0 ≤ x ∧ x ≤ 16) : ∀ y ∈ (l ++ [x]).tail, 0 ≤ y ∧ y ≤ 16 := by
 cases l with
 | nil => simp
 | cons a r =>
  intro y hy;simp only [List.cons_append, List.tail_cons, List.mem_append, List.mem_singleton] at hy;rcases hy with hy | rfl
  ·exact hm y hy
  ·exact hx
theorem tx {l : List Place} {n : Int} (h : (bq l n).node ≠ 0) : bq l n ∈ l := by
 unfold bq at *;induction l with
 | nil => exact absurd rfl h
 | cons p r ih =>
  rw [gQ] at *;cases hb : p.node == n with
  | true => exact .head _
  | false => rw [hb, cond_false] at h; exact .tail _ (ih h)
def bo (l1 : List Place) : Nat → Int → (List Int) → (List Int)
 | 0, node2, out1 => default
 | f_k0 + 1, node2, out1 => (bif (((bq l1 node2).node == 0) || (decide ((bq l1 node2).parent ∈ out1))) then out1 else (bo l1 f_k0 (bq l1 node2).parent (out1 ++ [(bq l1 node2).parent])))
def aA (l1 : List Place) (node1 : Int) : List Int :=
 (bo l1 (19 - [node1].length) node1 [node1])
theorem gG (y1 : SlV) (l1 : List Place) (node1 : Int) (hpar : ∀ p ∈ l1, 0 ≤ p.parent ∧ p.parent ≤ 16) : Dw 78 [y1.val l1.length, .int .i64 node1] [RdL EPlace y1 l1] (fun (X : SlV) => X.val (aA l1 node1).length) (fun X => [RdL EInt X (aA l1 node1)]) := by
 refine Dp Tryz.func78 fun C => ?_;refine Qc y1 24 fun hlen1 => ?_;refine Bl EInt [node1] fun x1 x1b => ?_;refine Lq (Int × List Int × SlV × Option Nat) [0,4] [] (fun ⟨node2, out1, x2, x2b⟩ => ⟨[(1, .v (.int .i64 node2)), (5, .v (x2.val out1.length))], [], [ownL EInt 3 x2 x2b out1], [], out1.Nodup ∧ (∀ x ∈ out1.tail, 0 ≤ x ∧ x ≤ 16) ∧ (bo l1 (19 - out1.length) node2 out1) = (aA l1 node1), 19 - out1.length⟩) ⟨node1, [node1], x1, x1b⟩ ⟨(by simp), (by simp), (by simp only [aA, Cf, D0])⟩ ?_;rintro ⟨node2, out1, x2, x2b⟩ ⟨hnd, hmt, hf1⟩;simp only [Lc];have hol := o6 hnd hmt;have hlt0_ : (19 - out1.length - 1) + 1 = 19 - out1.length := by omega
 refine Ck (iu y1 l1 node2) fun _ => ?_;refine AlT fun g1 => ?_;refine Tx ?_;refine v4 (fun hG_ => de x2 out1 (bq l1 node2).parent) Zf .sq (fH rfl rfl rfl) rfl rfl rfl Kr rfl Bt (.own Mm (.nil _ _)) ?_;have hf := Ri hf1.symm;rw [← hlt0_, bo] at hf;refine Ch hf (fun hc1 hf => ?_) fun hc1 hf => ?_
 ·refine Tx ?_;refine Fz x2 ?_;refine Rx ?_; exact Rr x2
 ·obtain ⟨hnz, hnin⟩ := Bool.or_eq_false_iff.1 hc1;refine Bl EInt [(bq l1 node2).parent] fun x3 x3b => ?_;refine Ap EInt 8 out1 [(bq l1 node2).parent] x2b fun x4 x4b => ?_;refine Tx ?_;have hnx1 : 19 - (out1 ++ [(bq l1 node2).parent]).length = 19 - out1.length - 1 := by simp only [Ln]; omega
  refine ⟨⟨(bq l1 node2).parent, (out1 ++ [(bq l1 node2).parent]), x4, x4b⟩, ⟨(pr hnd (by simpa using hnin)), (qt hmt (hpar _ (tx (by simpa using hnz)))), (by rw [hnx1]; exact (hf : (aA l1 node1) = (bo l1 (19 - out1.length - 1) (bq l1 node2).parent (out1 ++ [(bq l1 node2).parent]))).symm)⟩, Oo, Le4⟩
theorem par_of {l : List Place} (h : ∀ i, i < l.length → aU (gt l i) = 0) : ∀ p ∈ l, 0 ≤ p.parent ∧ p.parent ≤ 16 := fun p hp => by
 obtain ⟨i, hi, rfl⟩ := List.getElem_of_mem hp;have h1 := h i hi;rw [gt_eq hi] at h1;unfold aU ak at h1;cases hb : (((!(decide (1 ≤ l[i].node) && decide (l[i].node ≤ 15))) || (!(decide (0 ≤ l[i].parent) && decide (l[i].parent ≤ 16)))) || (!(decide (0 ≤ l[i].name) && decide (l[i].name ≤ 99)))) with
 | true => rw [hb] at h1; simp at h1
 | false => simp at hb; omega
theorem x0 {p : Nat → Prop} {k : Nat} (h : ∀ i, i < k → p i) (h' : p k) (i : Nat) (hi : i < k + 1) : p i := by
 by_cases he : i = k
 ·rw [he]; exact h'
 ·exact h i (by omega)
def dS (t1 : List Place) : List Place → Int
 | [] => 0
 | pn2 :: rn2 => (bif (decide (pn2.node ∈ (aA t1 pn2.parent))) then 4 else (dS t1 rn2))
def cF (t1 : List Place) : List Place → Int → Int
 | [], last1 => (dS t1 t1)
 | pn1 :: rn1, last1 => (bif ((aU pn1) != 0) then (aU pn1) else (bif decide (pn1.node ≤ last1) then 6 else (cF t1 rn1 pn1.node)))
def bM (t1 : List Place) : Int :=
 (cF t1 t1 0)
theorem gL (y1 : SlV) (t1 : List Place) : Du 76 [.agg ⟨[y1.val t1.length]⟩] [RdL EPlace y1 t1] (.int .i64 (bM t1)) := by
 refine Dp Tryz.func76 fun C => ?_;refine Qc y1 24 fun hlen1 => ?_;refine BxT fun g1 => ?_;refine Lq (Int × Nat) [1,2,10,11] [true] (fun ⟨last1, n1⟩ => ⟨[(3, .v (.int .i64 last1)), (12, .v (.int .i64 (n1 : Int)))], [], [], [], (n1 ≤ t1.length) ∧ (∀ i, i < n1 → aU (gt t1 i) = 0) ∧ (cF t1 (t1.drop n1) last1) = (bM t1), t1.length - n1⟩) ⟨0, 0⟩ ⟨N0, (fun i hi => absurd hi (Nat.not_lt_zero i)), (by simp only [bM, Cf, D0])⟩ ?_;rintro ⟨last1, n1⟩ ⟨hkn1, hck, hf1⟩;simp only [Lc];refine Cu (fun hlt0 => ?_) fun hge0 => ?_
 ·refine Sy Tz (Xi n1) ?_;refine Sq Xa ?_;refine AlT fun g2 => ?_;refine Ck (gw (gt t1 n1)) fun _ => ?_;have hf := Ri hf1.symm;rw [aK hlt0, cF] at hf;refine Kn hf fun hc2 hc2p hf => ?_;have hcp := ag hc2;refine Kp hf fun hc3 hc3p hf => ?_;refine Tt ?_;refine ⟨⟨(gt t1 n1).node, (n1 + 1)⟩, ⟨hlt0, (fun i hi => x0 hck hcp i hi), hf.symm⟩, Oo, Le4⟩
 ·refine Lq Nat [1,2,29,30] [true] (fun n2 => ⟨[(31, .v (.int .i64 (n2 : Int)))], [], [], [], (n2 ≤ t1.length) ∧ (dS t1 (t1.drop n2)) = (bM t1), t1.length - n2⟩) 0 ⟨N0, (by rw [← hf1, Dl hge0]; simp only [cF, Cf, D0])⟩ ?_;rintro n2 ⟨hkn2, hf2⟩;simp only [Lc];refine Cu (fun hlt1 => ?_) fun hge1 => ?_
  ·refine Sy Tz (Xi n2) ?_;refine Sq Xa ?_;refine AlT fun g3 => ?_;refine Rg [] ?_;refine Dx [0,1,2,3,5,6] ?_;refine Rn 4 ?_;refine Ck (gG y1 t1 (gt t1 n2).parent (par_of (fun i hi => hck i (by omega)))) fun x1 => ?_;refine Pr EInt x1 (aA t1 (gt t1 n2).parent) 8 fun hlen2 => ?_;refine Rn 7 ?_;refine Ck (de x1 (aA t1 (gt t1 n2).parent) (gt t1 n2).node) fun _ => ?_;refine Re0 ?_;have hf := Ri hf2.symm;rw [aK hlt1, dS] at hf;refine Kh hf fun hc5 hf => ?_;refine Tt ?_;refine ⟨(n2 + 1), ⟨hlt1, hf.symm⟩, Oo, Le4⟩
  ·have hf := Ri hf2.symm;rw [Dl hge1, dS] at hf;exact Ru
variable {p : Place}
theorem nI (h1 : aU p = 0) : 1 ≤ p.node ∧ p.node ≤ 15 ∧ 0 ≤ p.parent ∧ p.parent ≤ 16 ∧ 0 ≤ p.name ∧ p.name ≤ 99 := by
 unfold aU ak at h1;cases hb : (((!(decide (1 ≤ p.node) && decide (p.node ≤ 15))) || (!(decide (0 ≤ p.parent) && decide (p.parent ≤ 16)))) || (!(decide (0 ≤ p.name) && decide (p.name ≤ 99)))) with
 | true => rw [hb] at h1; simp at h1
 | false => simp at hb; omega
theorem lP (t : List Place) : ∀ (r : List Place) (last : Int), cF t r last = 0 → ∀ p ∈ r, aU p = 0
 | [], _, _ => by simp
 | p :: r, last, h => by
  rw [cF] at h;cases h1 : (aU p != 0) with
  | true => rw [h1, cond_true] at h; rw [h] at h1; simp at h1
  | false =>
   rw [h1, cond_false] at h;cases h2 : decide (p.node ≤ last) with
   | true => rw [h2] at h; simp at h
   | false =>
    rw [h2, cond_false] at h;intro q hq;cases hq with
    | head => exact ag h1
    | tail _ hq => exact lP t r _ h q hq
theorem nG (h : bM t = 0) : ∀ p ∈ t, 0 ≤ p.parent ∧ p.parent ≤ 16 := fun p hp => by have := nI (lP t t 0 h p hp); omega
theorem kA (h : bM t = 0) : ∀ p ∈ t, 0 ≤ p.node ∧ p.node < 16 := fun p hp => by have := nI (lP t t 0 h p hp); omega
theorem sj (h : aG o = 0) : 0 ≤ o.node ∧ o.node < 16 := by
 unfold aG at h;generalize hb : (((((!(ak o.time 1 10000)) || (!(ak o.who 0 2))) || ((aU (⟨o.node, o.parent, o.name⟩ : Place)) != 0)) || (!(ak o.life 1 50))) || (!(ak o.seq 1 30))) = b at h;cases b with
 | true => simp at h
 | false =>
  simp only [Bool.or_eq_false_iff] at hb;have := nI (ag hb.1.1.2);simp only at this;omega
def fQ (l1 : List Place) (node1 : Int) (top1 : Int) : Bool :=
 (decide (top1 ∈ (aA l1 node1)))
theorem mN (y1 : SlV) (l1 : List Place) (node1 : Int) (top1 : Int) (hpar : ∀ p ∈ l1, 0 ≤ p.parent ∧ p.parent ≤ 16) : Du 185 [y1.val l1.length, .int .i64 node1, .int .i64 top1] [RdL EPlace y1 l1] (.bool (fQ l1 node1 top1)) := by
 refine Dp Tryz.func185 fun C => ?_;refine Qc y1 24 fun hlen1 => ?_;refine Ck (gG y1 l1 node1 Zc) fun x1 => ?_;refine Qr x1 8 fun hlen2 => ?_;refine Rp rfl rfl rfl rfl ?_;refine Ck (de x1 (aA l1 node1) top1) fun _ => ?_;have hf := Ri (fQ.eq_1 l1 node1 top1);exact Ru
def aQ  : List Place → (List Place) → (List Place)
 | [], tb2 => tb2
 | pn2 :: rn2, tb2 => (aQ rn2 (tb2.set pn2.node.toNat pn2))
def cd (l1 : List Place) : Nat → Nat → (List Place) → (List Place)
 | 0, n1, tb1 => (aQ l1 tb1)
 | fn1 + 1, n1, tb1 => (cd l1 fn1 (n1 + 1) (tb1.set n1 (⟨(gt tb1 n1).node, (-1), (gt tb1 n1).name⟩ : Place)))
def ap (l1 : List Place) : List Place :=
 (cd l1 (16 - 0) 0 (List.replicate 16 (⟨0, 0, 0⟩ : Place)))
theorem fL (y1 : SlV) (l1 : List Place) (hnode : ∀ p ∈ l1, 0 ≤ p.node ∧ p.node < 16) : Du 150 [y1.val l1.length] [RdL EPlace y1 l1] (.agg ⟨((ap l1).flatMap EPlace.enc)⟩) := by
 refine Dp Tryz.func150 fun C => ?_;refine Qc y1 24 fun hlen1 => ?_;refine AlT fun g1 => ?_;refine AlT fun g2 => ?_;refine Lq (Nat × List Place) [0,2,3] [false, true] (fun ⟨n1, tb1⟩ => ⟨[(7, .v (.int .i64 (n1 : Int)))], [⟨g2, 201, (tb1.flatMap EPlace.enc)⟩], [], [], (n1 ≤ 16) ∧ (tb1.length = 16) ∧ (cd l1 (16 - n1) n1 tb1) = (ap l1), 16 - n1⟩) ⟨0, (List.replicate 16 (⟨0, 0, 0⟩ : Place))⟩ ⟨N0, List.length_replicate, (by simp only [ap, Cf, D0])⟩ ?_;rintro ⟨n1, tb1⟩ ⟨hkn1, hl_tb1, hf1⟩;simp only [Lc];refine Cd' (fun hc1 => ?_) fun hc1 => ?_
 ·have hlt0 : n1 < 16 := by have := of_decide_eq_true hc1; omega
  have hlt0_ : 16 - n1 = (16 - (n1 + 1)) + 1 := by omega
  refine Sy Tz (qB n1 rfl rfl Zf rfl Zf rfl rfl rfl Zf (fun _ => by first | assumption | omega)) ?_;refine Rp rfl rfl rfl rfl ?_;refine zO EPlace tb1 n1 1 (⟨(gt tb1 n1).node, (-1), (gt tb1 n1).name⟩ : Place) .sq (.inl ⟨_, rfl⟩) (au rfl) rfl rfl rfl rfl rfl rfl rfl rfl rfl rfl rfl rfl (Nat.lt_of_lt_of_eq (m := 16) Zc (Eq.symm hl_tb1)) rfl Ub ?_;refine Tt ?_;refine ⟨⟨(n1 + 1), (tb1.set n1 (⟨(gt tb1 n1).node, (-1), (gt tb1 n1).name⟩ : Place))⟩, ⟨hlt0, (by rw [List.length_set]; exact hl_tb1), (by rw [← hf1]; (conv => lhs; rw [hlt0_]); simp only [cd, Cf] : (ap l1) = (cd l1 (16 - (n1 + 1)) (n1 + 1) (tb1.set n1 (⟨(gt tb1 n1).node, (-1), (gt tb1 n1).name⟩ : Place)))).symm⟩, Oo, Le4⟩
 ·have hge0 : 16 ≤ n1 := by have := of_decide_eq_false hc1; omega
  have hge0_ : 16 - n1 = 0 := by omega
  refine Lq (Nat × List Place) [2,3,14,15] [false, true] (fun ⟨n2, tb2⟩ => ⟨[(16, .v (.int .i64 (n2 : Int)))], [⟨g2, 201, (tb2.flatMap EPlace.enc)⟩], [], [], (n2 ≤ l1.length) ∧ (tb2.length = 16) ∧ (aQ (l1.drop n2) tb2) = (ap l1), l1.length - n2⟩) ⟨0, tb1⟩ ⟨N0, hl_tb1, (by rw [← hf1, hge0_]; simp only [cd, Cf, D0])⟩ ?_;rintro ⟨n2, tb2⟩ ⟨hkn2, hl_tb2, hf2⟩;simp only [Lc];refine Cu (fun hlt1 => ?_) fun hge1 => ?_
  ·have hnb := hnode _ (gJ hlt1);refine Sy Tz (Xi n2) ?_;refine Sq Xa ?_;refine AlT fun g3 => ?_;refine Sy Tz (qB (gt l1 n2).node.toNat rfl rfl Zf rfl Zf rfl rfl rfl Zo (fun _ => by first | assumption | omega)) ?_;refine zP EPlace tb2 (gt l1 n2).node.toNat (gt l1 n2) .sq (.inl ⟨_, rfl⟩) (au rfl) rfl rfl rfl rfl rfl rfl rfl rfl rfl (Nat.lt_of_lt_of_eq (m := 16) Zc (Eq.symm hl_tb2)) Ub ?_;refine Tt ?_;refine ⟨⟨(n2 + 1), (tb2.set (gt l1 n2).node.toNat (gt l1 n2))⟩, ⟨hlt1, (by rw [List.length_set]; exact hl_tb2), (by rw [← hf2, aK hlt1]; simp only [aQ, Cf, D0])⟩, Oo, Le4⟩
  ·refine Sy Tz (q_ldA rfl rfl Zf rfl Mm (pw EPlace (n := 16) hl_tb2 rfl)) ?_;refine sW EPlace tb2 (n := 16) .sq (.inl ⟨_, rfl⟩) (au rfl) rfl rfl rfl rfl rfl rfl rfl hl_tb2 rfl Ub (by rfl) ?_;refine Tx ?_;have hf := Ri hf2.symm;rw [Dl hge1, aQ] at hf;refine f4 ?_;rw [hf.to];exact ⟨(), _, (.cons (.agg rfl rfl Mm (pw EPlace (n := 16) hl_tb2 rfl)) .nil), rfl, Sm, .nil _, .nil _⟩
theorem rH : ∀ (l tb : List Place), (aQ l tb).length = tb.length
 | [], _ => rfl
 | p :: r, tb => by rw [aQ, rH r]; simp
theorem rJ (l : List Place) : ∀ (f k : Nat) (tb : List Place), (cd l f k tb).length = tb.length
 | 0, _, tb => rH l tb
 | f + 1, k, tb => by rw [cd, rJ l f]; simp
theorem gq (l : List Place) : (ap l).length = 16 := (rJ l _ _ _).trans List.length_replicate
def dD (t1 : List Place) : Nat → Nat → (List Place) → (List Place)
 | 0, n1, l1 => l1
 | fn1 + 1, n1, l1 => (bif (decide ((n1 : Int) > 0) && decide ((gt t1 n1).parent ≥ 0)) then (dD t1 fn1 (n1 + 1) (l1 ++ [(gt t1 n1)])) else (dD t1 fn1 (n1 + 1) l1))
def dE (t1 : List Place) : List Place :=
 (dD t1 (16 - 0) 0 [])
theorem iC (t1 : List Place) (hl_t1 : t1.length = 16) : Dw 151 [.agg ⟨(t1.flatMap EPlace.enc)⟩] [] (fun (X : SlV) => X.val (dE t1).length) (fun X => [RdL EPlace X (dE t1)]) := by
 refine Dp Tryz.func151 fun C => ?_;refine BxT fun g1 => ?_;refine Sy Tz (q_ldA rfl rfl Zf rfl Mm (pw EPlace (n := 16) hl_t1 rfl)) ?_;refine Lq (List Place × SlV × Option Nat × Nat) [2,6] [true] (fun ⟨l1, x1, x1b, n1⟩ => ⟨[(3, .v (x1.val l1.length)), (7, .v (.int .i64 (n1 : Int)))], [], [ownL EPlace 99 x1 x1b l1], [], (n1 ≤ 16) ∧ (l1.length ≤ n1) ∧ (dD t1 (16 - n1) n1 l1) = (dE t1), 16 - n1⟩) ⟨[], ⟨none, 0⟩, none, 0⟩ ⟨N0, Nz, (by simp only [dE, Cf, D0])⟩ ?_ (hs := Le.trans (eI EPlace 99) Le4);rintro ⟨l1, x1, x1b, n1⟩ ⟨hkn1, hl1, hf1⟩;simp only [Lc];refine Cd' (fun hc1 => ?_) fun hc1 => ?_
 ·have hlt0 : n1 < 16 := by have := of_decide_eq_true hc1; omega
  have hlt0_ : 16 - n1 = (16 - (n1 + 1)) + 1 := by omega
  refine Sy Tz (q_ixA EPlace n1 rfl rfl Zf rfl Zf rfl rfl rfl Zf hl_t1 (fun _ => by first | assumption | omega)) ?_;refine AlT fun g2 => ?_;have hf := Ri hf1.symm;rw [hlt0_, dD] at hf;refine Ch hf (fun hc2 hf => ?_) fun hc2 hf => ?_
  ·refine Bl EPlace [(gt t1 n1)] fun x2 x2b => ?_;refine Ap EPlace 24 l1 [(gt t1 n1)] x1b fun x3 x3b => ?_;refine Tt ?_;refine ⟨⟨(l1 ++ [(gt t1 n1)]), x3, x3b, (n1 + 1)⟩, ⟨hlt0, Zl, hf.symm⟩, Oo, Le4⟩
  ·refine Tt ?_;refine ⟨⟨l1, x1, x1b, (n1 + 1)⟩, ⟨hlt0, Zl, hf.symm⟩, Oo, Le4⟩
 ·have hge0 : 16 ≤ n1 := by have := of_decide_eq_false hc1; omega
  have hge0_ : 16 - n1 = 0 := by omega
  refine Tx ?_;refine Fz x1 ?_;have hf := Ri hf1.symm;rw [hge0_, dD] at hf;refine Rx ?_; exact Rr x1
def aD (l1 : List Place) (o1 : Op) : (List Place) × Step :=
 (bif (fQ l1 o1.parent o1.node) then (l1, (⟨o1, false, (bq l1 o1.node)⟩ : Step)) else ((dE ((ap l1).set o1.node.toNat (⟨o1.node, o1.parent, o1.name⟩ : Place))), (⟨o1, true, (bq l1 o1.node)⟩ : Step)))
theorem kJ (y1 : SlV) (l1 : List Place) (o1 : Op) (hpar : ∀ p ∈ l1, 0 ≤ p.parent ∧ p.parent ≤ 16) (hnode : ∀ p ∈ l1, 0 ≤ p.node ∧ p.node < 16) (ho : 0 ≤ o1.node ∧ o1.node < 16) : Dw 145 [y1.val l1.length, .agg ⟨cO o1⟩] [RdL EPlace y1 l1] (fun (X : SlV) => .tuple #[X.val (aD l1 o1).1.length, .agg ⟨cS (aD l1 o1).2⟩]) (fun X => [RdL EPlace X (aD l1 o1).1]) := by
 refine Dp Tryz.func145 fun C => ?_;refine Qc y1 24 fun hlen1 => ?_;refine BxT fun g1 => ?_;refine Rp rfl rfl rfl rfl ?_;refine AlT fun g2 => ?_;refine Tx ?_;refine my [0, 3, 4, 5] [true, true] (fun (g3 : Nat) => [(6, .v (.pointer (some ⟨g3, 0, none⟩)))]) (fun (g3 : Nat) => [⟨g3, 157, [.int .i64 o1.time, .int .i64 o1.who, .int .i64 o1.node, .int .i64 o1.parent, .int .i64 o1.name, .int .i64 o1.life, .int .i64 o1.seq, .bool false, .int .i64 (bq l1 o1.node).node, .int .i64 (bq l1 o1.node).parent, .int .i64 (bq l1 o1.node).name]⟩]) (fun (g3 : Nat) => []) (fun (g3 : Nat) => []) (fun _ => True) (.cons rfl (.cons rfl (.cons rfl (.cons rfl (.nil _))))) (.keep (.keep (.nil))) ?_ ?_
 ·refine Rg [(7,none)] ?_;refine Dx [0,1,2,3] ?_;refine Rw 4 6 ?_ ?_
  ·refine Ck (iu y1 l1 o1.node) fun _ => ?_;refine Ra 5 rfl Qp ?_;refine Rn 6 ?_;refine AlT fun g4 => ?_;refine Rn 7 ?_;refine Wa ?_;refine Re0 ?_;refine ⟨g4, trivial, Le4⟩
  ·refine AlT fun g5 => ?_;refine Rn 4 ?_;refine Ck (iu y1 l1 o1.node) fun _ => ?_;refine Ra 5 rfl Qp ?_;refine Rn 7 ?_;refine Wa ?_;refine Re0 ?_;refine ⟨g5, trivial, Le4⟩
 ·rintro g3 -;simp only [Lc];refine Ck (mN y1 l1 o1.parent o1.node hpar) fun _ => ?_;refine eF ?_;have hf := Ri (aD.eq_1 l1 o1);refine Ch hf (fun hc1 hf => ?_) fun hc1 hf => ?_
  ·refine Rg [(3,some [g2])] ?_;refine Dx [0,1,2] ?_;refine Rn 3 ?_;refine Wa ?_;refine Re0 ?_;refine Rx ?_; exact Rr y1
  ·refine Ck (fL y1 l1 hnode) fun _ => ?_;refine AlT fun g6 => ?_;refine sW EPlace (ap l1) (n := 16) .sq (.inl ⟨_, rfl⟩) (au rfl) rfl rfl rfl rfl rfl rfl rfl (gq l1) rfl Ub (by rfl) ?_;refine Sy Tz (qB o1.node.toNat rfl rfl Zf rfl Zf rfl rfl rfl Zo (fun _ => by first | assumption | omega)) ?_;refine zP EPlace (ap l1) o1.node.toNat (⟨o1.node, o1.parent, o1.name⟩ : Place) .sq (.inl ⟨_, rfl⟩) (au rfl) rfl rfl rfl rfl rfl rfl rfl rfl rfl (Nat.lt_of_lt_of_eq (m := 16) Zc (Eq.symm (gq l1))) Ub ?_;refine eF ?_;refine Rg [(4,some [g2])] ?_;refine Ra 0 rfl (q_ldA rfl rfl Zf rfl Mm (pw EPlace (n := 16) (by rw [List.length_set]; exact (gq l1)) rfl)) ?_;refine Ra 2 rfl XA ?_;refine Rn 1 ?_;refine Ck (iC ((ap l1).set o1.node.toNat (⟨o1.node, o1.parent, o1.name⟩ : Place)) (by rw [List.length_set]; exact gq _)) fun x1 => ?_;refine Qr x1 24 fun hlen2 => ?_;refine Ra 3 rfl Qp ?_;refine Rn 4 ?_;refine Wa ?_;refine Re0 ?_;refine Rx ?_; exact Rr x1
theorem DM (b : Bool) : ((bif b then (3 : Int) else 0) != 0) = b := by cases b <;> rfl
theorem ra (p : Place) : aU p = place p := by
 unfold aU place ak;congr 1;rw [Bool.eq_iff_iff];simp only [Bool.or_eq_true, Bool.not_eq_true', Bool.and_eq_false_iff, decide_eq_false_iff_not, decide_eq_true_eq];omega
theorem gO (o : Op) : aG o = chkO o := by
 unfold aG aU chkO ak;rw [DM];congr 1;rw [Bool.eq_iff_iff];simp only [Bool.or_eq_true, Bool.not_eq_true', Bool.and_eq_false_iff, decide_eq_false_iff_not, decide_eq_true_eq];omega
theorem qW {l : List Place} (hpar : ∀ p ∈ l, 0 ≤ p.parent ∧ p.parent ≤ 16) : ∀ (f : Nat) (node : Int) (out : List Int), f + out.length = 19 → out.Nodup → (∀ x ∈ out.tail, 0 ≤ x ∧ x ≤ 16) → node ∈ out →
  (∀ x ∈ out, x ≠ node → (find l x).node = 0 ∨ (find l x).parent ∈ out) →
  (∀ x ∈ out, x ∈ bo l f node out) ∧ (∀ x ∈ bo l f node out, (find l x).node = 0 ∨ (find l x).parent ∈ bo l f node out) ∧
  (∀ x ∈ bo l f node out, x ∈ out ∨ Up l node x)
 | 0, node, out, hf, hn, ht, _, _ => by have := o6 hn ht; omega
 | f + 1, node, out, hf, hn, ht, hm, hc => by
  rw [bo];simp only [i3];cases hb : ((find l node).node == 0 || decide ((find l node).parent ∈ out)) with
  | true =>
   simp only [cond_true];refine ⟨fun x hx => hx, fun x hx => ?_, fun x hx => .inl hx⟩;by_cases he : x = node
   ·subst he; simpa using hb
   ·exact hc x hx he
  | false =>
   simp only [cond_false];obtain ⟨h1, h2⟩ := Bool.or_eq_false_iff.1 hb;have h1 : (find l node).node ≠ 0 := by simpa using h1
   have h2 : (find l node).parent ∉ out := by simpa using h2
   have hp := hpar _ (gA h1).2;obtain ⟨a, b, c⟩ := qW hpar f (find l node).parent (out ++ [(find l node).parent]) (by simp; omega) (pr hn h2) (qt ht hp) (by simp) (fun x hx hne => by
    rcases List.mem_append.1 hx with hx | hx
    ·by_cases he : x = node
     ·subst he; exact .inr (by simp)
     ·rcases hc x hx he with h | h
      ·exact .inl h
      ·exact .inr (List.mem_append_left _ h)
    ·exact absurd (by simpa using hx) hne)
   refine ⟨fun x hx => a x (List.mem_append_left _ hx), b, fun x hx => ?_⟩;rcases c x hx with h | h
   ·rcases List.mem_append.1 h with h | h
    ·exact .inl h
    ·refine .inr ?_;rw [List.mem_singleton] at h;subst h;exact ⟨1, .up trivial h1 (.here _)⟩
   ·obtain ⟨k, h⟩ := h;exact .inr ⟨k + 1, .up trivial h1 h⟩
theorem qG {l : List Place} (hpar : ∀ p ∈ l, 0 ≤ p.parent ∧ p.parent ≤ 16) (a b : Int) : b ∈ aA l a ↔ Up l a b := by
 obtain ⟨h1, h2, h3⟩ := qW hpar 18 a [a] rfl (by simp) (by simp) (by simp) (fun x hx hne => absurd (by simpa using hx) hne);have e : aA l a = bo l 18 a [a] := rfl;rw [e];constructor
 ·intro h;rcases h3 b h with h | h
  ·rw [List.mem_singleton] at h; subst h; exact Up.refl l _
  ·exact h
 ·rintro ⟨k, h⟩;have key : ∀ (x y : Int) (k : Nat), Way l (fun _ => True) x y k → x ∈ bo l 18 a [a] → y ∈ bo l 18 a [a] := by
   intro x y k hw;induction hw with
   | here => exact fun h => h
   | up _ hn _ ih =>
    intro hx;rcases h2 _ hx with h | h
    ·exact absurd h hn
    ·exact ih h
  exact key a b k h (h1 a (by simp))
theorem uT {l : List Place} (hpar : ∀ p ∈ l, 0 ≤ p.parent ∧ p.parent ≤ 16) (a b : Int) : fQ l a b = stands l a b := by
 unfold fQ;rw [Bool.eq_iff_iff, decide_eq_true_eq, qG hpar, iP]
theorem pe {t : List Place} (hpar : ∀ p ∈ t, 0 ≤ p.parent ∧ p.parent ≤ 16) : ∀ l : List Place, dS t l = chk2 t l
 | [] => rfl
 | p :: r => by
  rw [dS, chk2, pe hpar r];have := uT hpar p.parent p.node;unfold fQ at this;rw [this]
theorem mi (t : List Place) : bM t = ed t := by
 have key : ∀ (r : List Place) (k : Nat) (last : Int), r = t.drop k → (∀ i, i < k → i < t.length → place (gt t i) = 0) → last = (if k = 0 then 0 else (gt t (k - 1)).node) → cF t r last = bif chk1 t (t.length - k) k != 0 then chk1 t (t.length - k) k else chk2 t t := by
  intro r;induction r with
  | nil =>
   intro k last hr hok _;have hk : t.length ≤ k := by have := congrArg List.length hr; simp at this; omega
   have : t.length - k = 0 := by omega
   rw [cF, this, chk1, pe]
   ·rfl
   ·intro p hp;obtain ⟨i, hi, rfl⟩ := List.getElem_of_mem hp;have := jT (hok i (by omega) hi);rw [gt_eq hi] at this;omega
  | cons p r ih =>
   intro k last hr hok hlast;have hk : k < t.length := by have := congrArg List.length hr; simp at this; omega
   rw [aK hk] at hr;obtain ⟨rfl, hr'⟩ := List.cons.inj hr;rw [cF, show t.length - k = (t.length - (k + 1)) + 1 by omega, chk1, ra];cases h1 : place (gt t k) != 0 with
   | true => simp only [cond_true, h1]
   | false =>
    have h0 : place (gt t k) = 0 := ag h1;have hp := jT h0;have hcond : decide ((gt t k).node ≤ last) = (decide ((k : Int) > 0) && decide ((gt t (k - 1)).node ≥ (gt t k).node)) := by
     rw [Bool.eq_iff_iff];simp only [Ba];rw [hlast];by_cases hz : k = 0
     ·subst hz; simp; omega
     ·simp [hz]; omega
    rw [hcond];simp only [cond_false];cases h2 : (decide ((k : Int) > 0) && decide ((gt t (k - 1)).node ≥ (gt t k).node)) with
    | true => rfl
    | false =>
     simp only [cond_false];exact ih (k + 1) _ hr' (fun i hi hl => by
      by_cases he : i = k
      ·rw [he]; exact h0
      ·exact hok i (by omega) hl) (by simp)
 unfold bM ed;exact key t 0 0 rfl (fun i hi => by omega) rfl
def pl (tb : List Place) : Nat → Nat → List Place
 | 0, _ => []
 | f + 1, k => bif (decide ((k : Int) > 0) && decide ((gt tb k).parent ≥ 0)) then gt tb k :: pl tb f (k + 1) else pl tb f (k + 1)
theorem oK (tb : List Place) : ∀ (f k : Nat) (acc : List Place), dD tb f k acc = acc ++ pl tb f k
 | 0, k, acc => by simp [dD, pl]
 | f + 1, k, acc => by
  rw [dD, pl];cases (decide ((k : Int) > 0) && decide ((gt tb k).parent ≥ 0)) with
  | true => simp only [cond_true]; rw [oK tb f]; simp
  | false => simp only [cond_false]; exact oK tb f (k + 1) acc
theorem wa (tb : List Place) : dE tb = pl tb 16 0 := (oK tb 16 0 []).trans (List.nil_append _)
def Tbl (tb : List Place) : Prop := ∀ n : Nat, 1 ≤ n → n < 16 → (gt tb n).parent ≥ 0 → (gt tb n).node = n
theorem pl_ge {tb : List Place} (ht : Tbl tb) : ∀ (f k : Nat), k + f = 16 → ∀ p ∈ pl tb f k, (k : Int) ≤ p.node ∧ 1 ≤ p.node
 | 0, k, _ => by simp [pl]
 | f + 1, k, h => by
  intro p hp;rw [pl] at hp;cases hb : (decide ((k : Int) > 0) && decide ((gt tb k).parent ≥ 0)) with
  | true =>
   rw [hb, cond_true] at hp;simp only [Ba] at hb;have hn := ht k (by omega) (by omega) hb.2;cases hp with
   | head => omega
   | tail _ hp => have := pl_ge ht f (k + 1) (by omega) p hp; omega
  | false =>
   rw [hb, cond_false] at hp;have := pl_ge ht f (k + 1) (by omega) p hp; omega
theorem pl_up {tb : List Place} (ht : Tbl tb) : ∀ (f k : Nat), k + f = 16 → (pl tb f k).Pairwise (fun a b => a.node < b.node)
 | 0, k, _ => by simp [pl]
 | f + 1, k, h => by
  rw [pl];cases hb : (decide ((k : Int) > 0) && decide ((gt tb k).parent ≥ 0)) with
  | true =>
   rw [cond_true];simp only [Ba] at hb;have hn := ht k (by omega) (by omega) hb.2;exact List.pairwise_cons.2 ⟨fun p hp => by have := pl_ge ht f (k + 1) (by omega) p hp; omega, pl_up ht f (k + 1) (by omega)⟩
  | false => exact pl_up ht f (k + 1) (by omega)
theorem xA {tb : List Place} (ht : Tbl tb) (n : Nat) (hn : 1 ≤ n) : ∀ (f k : Nat), k + f = 16 → find (pl tb f k) n = if k ≤ n ∧ n < 16 ∧ (gt tb n).parent ≥ 0 then gt tb n else ⟨0, 0, 0⟩
 | 0, k, h => by rw [pl, if_neg (by omega)]; rfl
 | f + 1, k, h => by
  rw [pl];have ih := xA ht n hn f (k + 1) (by omega);cases hb : (decide ((k : Int) > 0) && decide ((gt tb k).parent ≥ 0)) with
  | true =>
   simp only [Ba] at hb;have hk := ht k (by omega) (by omega) hb.2;rw [cond_true, find];by_cases he : k = n
   ·subst he;have : ((gt tb k).node == (k : Int)) = true := by simpa using hk
    rw [this, cond_true, if_pos ⟨Nr, by omega, hb.2⟩]
   ·have : ((gt tb k).node == (n : Int)) = false := by rw [hk]; simp; omega
    rw [this, cond_false, ih];by_cases h2 : k + 1 ≤ n ∧ n < 16 ∧ (gt tb n).parent ≥ 0
    ·rw [if_pos h2, if_pos ⟨by omega, h2.2⟩]
    ·rw [if_neg h2, if_neg (fun h3 => h2 ⟨by omega, h3.2⟩)]
  | false =>
   rw [cond_false, ih];by_cases he : k = n
   ·subst he;rw [if_neg (by omega), if_neg];intro h3;have h4 : (k : Int) > 0 := by omega
    rw [decide_eq_true h4, decide_eq_true h3.2.2] at hb;cases hb
   ·by_cases h2 : k + 1 ≤ n ∧ n < 16 ∧ (gt tb n).parent ≥ 0
    ·rw [if_pos h2, if_pos ⟨by omega, h2.2⟩]
    ·rw [if_neg h2, if_neg (fun h3 => h2 ⟨by omega, h3.2⟩)]
theorem oV (tb : List Place) (i n : Nat) (p : Place) (hi : i < tb.length) : gt (tb.set i p) n = if i = n then p else gt tb n := by
 simp only [gt, List.getD, List.getElem?_set];by_cases h : i = n
 ·subst h; simp [hi]
 ·simp [h]
theorem p8 : ∀ (l tb : List Place), tb.length = 16 → l.Pairwise (fun a b => a.node < b.node) → (∀ p ∈ l, 1 ≤ p.node ∧ p.node < 16) → ∀ n : Nat, 1 ≤ n → n < 16 →
  gt (aQ l tb) n = if (find l n).node = 0 then gt tb n else find l n
 | [], tb, _, _, _, n, _, _ => by rw [aQ]; rfl
 | p :: r, tb, ht, hu, hr, n, h1, h2 => by
  have hp := hr p (.head _);obtain ⟨hlt, hur⟩ := List.pairwise_cons.1 hu;rw [aQ, p8 r _ (by simp [ht]) hur (fun q hq => hr q (.tail _ hq)) n h1 h2, oV _ _ _ _ (by omega), find];by_cases he : p.node = n
  ·have hb : (p.node == (n : Int)) = true := by simpa using he
   have hz : find r n = ⟨0, 0, 0⟩ := qa fun q hq => by have := hlt q hq; omega
   rw [hb, cond_true, hz, if_pos rfl, if_pos (by omega), if_neg (by omega)]
  ·have hb : (p.node == (n : Int)) = false := by simpa using he
   rw [hb, cond_false, if_neg (by omega : ¬ p.node.toNat = n)]
theorem tu (l : List Place) : ∀ (f k : Nat) (tb : List Place), k + f = 16 → tb.length = 16 → ∃ tb', cd l f k tb = aQ l tb' ∧ tb'.length = 16 ∧
  (∀ n, n < 16 → k ≤ n → (gt tb' n).parent = -1) ∧ (∀ n, n < k → gt tb' n = gt tb n)
 | 0, k, tb, hf, ht => ⟨tb, rfl, ht, fun n h1 h2 => by omega, fun n _ => rfl⟩
 | f + 1, k, tb, hf, ht => by
  rw [cd];obtain ⟨tb', e, hl, ha, hb⟩ := tu l f (k + 1) (tb.set k ⟨(gt tb k).node, -1, (gt tb k).name⟩) (by omega) (by simp [ht]);refine ⟨tb', e, hl, fun n h1 h2 => ?_, fun n h => ?_⟩
  ·by_cases he : n = k
   ·rw [he, hb k (by omega), oV _ _ _ _ (by omega), if_pos rfl]
   ·exact ha n h1 (by omega)
  ·rw [hb n (by omega), oV _ _ _ _ (by omega), if_neg (by omega)]
theorem sD {l : List Place} (hu : l.Pairwise (fun a b => a.node < b.node)) (hr : ∀ p ∈ l, 1 ≤ p.node ∧ p.node < 16) (n : Nat) (h1 : 1 ≤ n) (h2 : n < 16) :
  ((find l n).node = 0 → (gt (ap l) n).parent = -1) ∧ ((find l n).node ≠ 0 → gt (ap l) n = find l n) := by
 obtain ⟨tb', e, hl, ha, _⟩ := tu l 16 0 (List.replicate 16 ⟨0, 0, 0⟩) rfl (by simp);have e2 : ap l = aQ l tb' := e;rw [e2, p8 l tb' hl hu hr n h1 h2];constructor
 ·intro h; rw [if_pos h]; exact ha n h2 (by omega)
 ·intro h; rw [if_neg h]
theorem zd {l : List Place} (hT : iw l) (hp : place p = 0) : dE ((ap l).set p.node.toNat p) = putT l p := by
 have hr : ∀ q ∈ l, 1 ≤ q.node ∧ q.node < 16 := fun q hq => by have := jT (hT.ok q hq); omega
 have hpo := jT hp;have hpn : ¬ p.parent < 0 := by omega
 have hlen : (ap l).length = 16 := gq l;have hg : ∀ n : Nat, 1 ≤ n → n < 16 → ((gt ((ap l).set p.node.toNat p) n) = if p.node = n then p else gt (ap l) n) := fun n h1 h2 => by
  rw [oV _ _ _ _ (by omega)];by_cases he : p.node = n
  ·rw [if_pos (by omega), if_pos he]
  ·rw [if_neg (by omega), if_neg he]
 have ht : Tbl ((ap l).set p.node.toNat p) := fun n h1 h2 hpar => by
  rw [hg n h1 h2] at hpar ⊢;by_cases he : p.node = n
  ·rw [if_pos he]; exact he
  ·rw [if_neg he] at hpar ⊢;obtain ⟨ha, hb⟩ := sD hT.up hr n h1 h2;by_cases hz : (find l n).node = 0
   ·rw [ha hz] at hpar; omega
   ·rw [hb hz]; exact (gA hz).1
 rw [wa];have hf : putT l p = put p false l := uu (by omega);refine py (pl_up ht 16 0 rfl) (by rw [hf]; exact qD p hT.up) (fun q hq => (pl_ge ht 16 0 rfl q hq).2) (fun q hq => ?_) fun n hn => ?_
 ·rw [hf] at hq;rcases lG p q l hq with rfl | h
  ·omega
  ·exact (hr q h.1).1
 ·obtain ⟨m, rfl⟩ := Int.eq_ofNat_of_zero_le (by omega : 0 ≤ n);rw [xA ht m (by omega) 16 0 rfl, iJ, decide_eq_false hpn, cond_false];by_cases hm : m < 16
  ·rw [hg m (by omega) hm];by_cases he : p.node = m
   ·have : ((m : Int) == p.node) = true := by simpa using he.symm
    rw [this, cond_true, if_pos he, if_pos ⟨by omega, hm, by omega⟩]
   ·have : ((m : Int) == p.node) = false := by simpa using fun h => he h.symm
    rw [this, cond_false, if_neg he];obtain ⟨ha, hb⟩ := sD hT.up hr m (by omega) hm;by_cases hz : (find l m).node = 0
    ·rw [ha hz, if_neg (by omega)];by_cases hz2 : find l m = ⟨0, 0, 0⟩
     ·exact hz2.symm
     ·exact absurd hz (by
       intro _;apply hz2;refine kN fun q hq hqn => ?_;have h3 := l9 hT.up q hq;rw [hqn] at h3;rw [h3] at hz;have := hr q hq;omega)
    ·rw [hb hz];have h5 := jT (hT.ok _ (gA hz).2);rw [if_pos ⟨by omega, hm, by omega⟩]
  ·have h1 : ((m : Int) == p.node) = false := by simp; omega
   rw [if_neg (by omega), h1, cond_false];exact (kN fun q hq hqn => by have := hr q hq; omega).symm
theorem DH {l : List Place} (hT : iw l) (ho : chkO o = 0) : aD l o = bif stands l o.parent o.node then (l, ⟨o, false, find l o.node⟩) else (putT l (fi o), ⟨o, true, find l o.node⟩) := by
 have hpar : ∀ p ∈ l, 0 ≤ p.parent ∧ p.parent ≤ 16 := fun p hp => by have := jT (hT.ok p hp); omega
 unfold aD;rw [uT hpar, i3];have := zd hT (ux ho);have e : (fi o).node = o.node := rfl;rw [e] at this;have e2 : (⟨o.node, o.parent, o.name⟩ : Place) = fi o := rfl;rw [e2, this]
theorem pF (h : aG o = 0) : 0 ≤ (⟨o.time, o.who⟩ : Stamp).time ∧ (⟨o.time, o.who⟩ : Stamp).time ≤ 10000 ∧ 0 ≤ (⟨o.time, o.who⟩ : Stamp).who ∧ (⟨o.time, o.who⟩ : Stamp).who ≤ 2 := by
 rw [gO] at h; have := lL h; simp only; omega
theorem xV (h : iw t) : ∀ p ∈ t, 0 ≤ p.parent ∧ p.parent ≤ 16 := fun p hp => by have := jT (h.ok p hp); omega
theorem vV (h : iw t) : ∀ p ∈ t, 0 ≤ p.node ∧ p.node < 16 := fun p hp => by have := jT (h.ok p hp); omega
theorem wG (h : iw t) (ho : aG o = 0) : aD t o = ((gz t o).1, (gz t o).2.1) := by
 rw [gO] at ho;rw [DH h ho, tf ((es t).2 h) ho];cases stands t o.parent o.node <;> rfl
theorem AQ (h : iw t) (ho : aG o = 0) : iw (aD t o).1 := by
 rw [wG h ho];rw [gO] at ho;exact (es _).1 (l4 (zk ((es t).2 h) ho)).tree
theorem BB : iw [] := (es []).1 rfl
def eE (s1 : Stamp) : Int :=
 ((s1.time * 3) + s1.who)
theorem gX (s1 : Stamp) (hs : 0 ≤ s1.time ∧ s1.time ≤ 10000 ∧ 0 ≤ s1.who ∧ s1.who ≤ 2) : Du 144 [.agg ⟨cT s1⟩] [] (.int .i64 (eE s1)) := by
 refine Dp Tryz.func144 fun C => ?_;refine BxT fun g1 => ?_;refine Sy Tz (q_mul rfl rfl Zf rfl Zf Zo) ?_;have hf := Ri (eE.eq_1 s1);exact Ru
def aj (l1 : List Op) (last1 : Int) : List Op → Nat → Int → Int
 | [], n2, best2 => best2
 | pn2 :: rn2, n2, best2 => (bif (decide ((eE (⟨pn2.time, pn2.who⟩ : Stamp)) > last1) && (decide (best2 < 0) || decide ((eE (⟨pn2.time, pn2.who⟩ : Stamp)) < (eE (⟨(gt l1 best2.toNat).time, (gt l1 best2.toNat).who⟩ : Stamp))))) then (aj l1 last1 rn2 (n2 + 1) (n2 : Int)) else (aj l1 last1 rn2 (n2 + 1) best2))
def dF (l1 : List Op) : Nat → Int → (List Step) → (List Place) → (History × Int)
 | 0, last1, l2, p1 => default
 | f_k1 + 1, last1, l2, p1 => (bif decide ((l2.length : Int) < (l1.length : Int)) then (bif decide ((aj l1 last1 l1 0 (-1)) < 0) then ((⟨[], []⟩ : History), 6) else (dF l1 f_k1 (eE (⟨(gt l1 (aj l1 last1 l1 0 (-1)).toNat).time, (gt l1 (aj l1 last1 l1 0 (-1)).toNat).who⟩ : Stamp)) (l2 ++ [(aD p1 (gt l1 (aj l1 last1 l1 0 (-1)).toNat)).2]) (aD p1 (gt l1 (aj l1 last1 l1 0 (-1)).toNat)).1)) else ((⟨l2, p1⟩ : History), 0))
def dG (l1 : List Op) : List Op → (History × Int)
 | [] => (dF l1 (l1.length + 1) (-1) [] [])
 | pn1 :: rn1 => (bif ((aG pn1) != 0) then ((⟨[], []⟩ : History), (aG pn1)) else (dG l1 rn1))
def aR (l1 : List Op) : History × Int :=
 (bif decide ((l1.length : Int) > 30) then ((⟨[], []⟩ : History), 2) else (dG l1 l1))
theorem cN (y1 : SlV) (l1 : List Op) : Dw 100 [y1.val l1.length] [RdL EOp y1 l1] (fun (X : SlV × SlV) => .tuple #[.agg ⟨cH X.1 X.2 (aR l1).1⟩, .int .i64 (aR l1).2]) (fun X => [RdL EStep X.1 (aR l1).1.l, RdL EPlace X.2 (aR l1).1.t]) := by
 refine Dp Tryz.func100 fun C => ?_;refine Qc y1 56 fun hlen1 => ?_;refine AlT fun g1 => ?_;have hf := Ri (aR.eq_1 l1);refine Cp hf (fun hc1 hc1p hf => ?_) fun hc1 hc1p hf => ?_
 ·refine Tx ?_;refine Fc EStep ?_;refine Fc EPlace ?_;refine Rx ?_; exact Rr ⟨Z0, Z0⟩
 ·refine Lq Nat [0,2,3,18,19] [true] (fun n1 => ⟨[(20, .v (.int .i64 (n1 : Int)))], [], [], [], (n1 ≤ l1.length) ∧ (∀ i, i < n1 → aG (gt l1 i) = 0) ∧ (dG l1 (l1.drop n1)) = (aR l1), l1.length - n1⟩) 0 ⟨N0, (fun i hi => absurd hi (Nat.not_lt_zero i)), hf.symm⟩ ?_;rintro n1 ⟨hkn1, hck, hf1⟩;simp only [Lc];refine Cu (fun hlt0 => ?_) fun hge0 => ?_
  ·refine Sy Tz (Xi n1) ?_;refine Sq Xa ?_;refine AlT fun g2 => ?_;refine Ck (fl (gt l1 n1)) fun _ => ?_;have hf := Ri hf1.symm;rw [aK hlt0, dG] at hf;refine Cn hf (fun hc3 hc3p hf => ?_) fun hc3 hc3p hf => ?_
   ·refine Tx ?_;refine Fc EStep ?_;refine Fc EPlace ?_;refine Rx ?_; exact Rr ⟨Z0, Z0⟩
   ·have hck1 := ag hc3;refine Tt ?_;refine ⟨(n1 + 1), ⟨hlt0, (fun i hi => x0 hck hck1 i hi), hf.symm⟩, Oo, Le4⟩
  ·have hca : ∀ i, i < l1.length → aG (gt l1 i) = 0 := fun i hi => hck i (by omega);refine AlT fun g3 => ?_;refine Lq (Int × List Step × SlV × Option Nat × List Place × SlV × Nat) [0,2,3,7] [false, true] (fun ⟨last1, l2, x1, x1b, p1, x2, fz1⟩ => ⟨[(8, .v (.int .i64 last1))], [⟨g3, 27, [x1.val l2.length, x2.val p1.length]⟩], [ownL EStep 157 x1 x1b l2], [RdL EPlace x2 p1], (iw p1 ∧ l2.length ≤ l1.length) ∧ (l1.length - l2.length < fz1) ∧ (dF l1 fz1 last1 l2 p1) = (aR l1), fz1⟩) ⟨(-1), [], ⟨none, 0⟩, none, [], ⟨none, 0⟩, l1.length + 1⟩ ⟨⟨BB, N0⟩, Nz, (by rw [← hf1, Dl hge0]; simp only [dG, Cf, D0])⟩ ?_ (hs := Le.trans (eI EStep 157) (Le.trans (th (RdL EPlace ⟨none, 0⟩ ([] : List Place)) [] (.nil _) (fun M w _ => RdL.nil _ _ _ (by omega) M w)) Le4));rintro ⟨last1, l2, x1, x1b, p1, x2, fz1⟩ ⟨hi, hzfz1, hf2⟩;simp only [Lc];have hlt1_ : (fz1 - 1) + 1 = fz1 := by omega
   have hf := Ri hf2.symm;rw [← hlt1_, dF] at hf;refine Cp hf (fun hc4 hc4p hf => ?_) fun hc4 hc4p hf => ?_
   ·(repeat refine er ?_); refine rx ?_;(repeat refine er ?_); refine pA ?_;refine Ty ?_;refine mb [0, 2, 3, 7, 8, 31, 32, 33, 34, 35, 36, 37, 38] [true, true] (fun (best1 : Int) => [(9, .v (.int .i64 best1))]) (fun (best1 : Int) => []) (fun (best1 : Int) => [ownL EStep 157 x1 x1b l2]) (fun (best1 : Int) => []) (fun (best1 : Int) => (-1 ≤ best1 ∧ best1 < (l1.length : Int)) ∧ best1 = (aj l1 last1 l1 0 (-1))) (.cons rfl (.cons rfl (.cons rfl (.cons rfl (.cons rfl (.cons rfl (.cons rfl (.cons rfl (.cons rfl (.cons rfl (.cons rfl (.cons rfl (.cons rfl (.nil _)))))))))))))) (.keep (.keep (.nil))) ?_ ?_
    ·refine Lq (Int × Nat) [0,2,3,7,8,31,32,33,34,35,36,37,38] [true, true] (fun ⟨best2, n2⟩ => ⟨[(9, .v (.int .i64 best2)), (39, .v (.int .i64 (n2 : Int)))], [], [ownL EStep 157 x1 x1b l2], [], (n2 ≤ l1.length) ∧ (-1 ≤ best2 ∧ best2 < (l1.length : Int)) ∧ (aj l1 last1 (l1.drop n2) n2 best2) = (aj l1 last1 l1 0 (-1)), l1.length - n2⟩) ⟨(-1), 0⟩ ⟨N0, Nz, (rfl : (aj l1 last1 l1 0 (-1)) = (aj l1 last1 l1 0 (-1))).symm⟩ ?_;rintro ⟨best2, n2⟩ ⟨hkn2, hbe, hf3⟩;simp only [Lc];refine Cu (fun hlt2 => ?_) fun hge2 => ?_
     ·refine Sy Tz (Xi n2) ?_;refine Sq Xa ?_;refine AlT fun g4 => ?_;refine Rg [] ?_;refine Dx [0,1,3] ?_;refine Rn 2 ?_;refine Ck (gX (⟨(gt l1 n2).time, (gt l1 n2).who⟩ : Stamp) (pF (hca _ (by omega)))) fun _ => ?_;refine Dx [4,5,6,7,8,9,10,12,13] ?_;refine Gb 14 rfl Gz (Xi best2.toNat) ?_;refine Gb 15 rfl Gz Xf ?_;refine Gb 16 rfl Gz (q_leP EOp rfl rfl Bt rfl rfl Mm (by first | (intro _; first | assumption | omega) | (intro h; simp at h; omega)) rfl) ?_;refine Rn 11 ?_;refine Cy (fun hG_ => gX (⟨(gt l1 n2).time, (gt l1 n2).who⟩ : Stamp) (pF (hca _ (by omega)))) ?_;refine Rn 17 ?_;refine Cy (fun hG_ => gX (⟨(gt l1 best2.toNat).time, (gt l1 best2.toNat).who⟩ : Stamp) (pF (hca _ (by omega)))) ?_;refine Dx [18,19,20] ?_;refine Re0 ?_;refine Cd' (fun hc6 => ?_) fun hc6 => ?_
      ·refine Tt ?_;refine ⟨⟨(n2 : Int), (n2 + 1)⟩, ⟨hlt2, Zl, (by rw [← hf3, aK hlt2]; simp only [aj, hc6, Cf, D0])⟩, Oo, Le4⟩
      ·refine Tt ?_;refine ⟨⟨best2, (n2 + 1)⟩, ⟨hlt2, Zl, (by rw [← hf3, aK hlt2]; simp only [aj, hc6, Cf, D0])⟩, Oo, Le4⟩
     ·refine Tx ?_;have hv1 : (aj l1 last1 l1 0 (-1)) = best2 := by rw [← hf3, Dl hge2]; simp only [aj, Cf]
      refine ⟨best2, ⟨(by assumption), hv1.symm⟩, Le4⟩
    ·rintro best1 ⟨hbp, rfl⟩;simp only [Lc];refine Cp hf (fun hc7 hc7p hf => ?_) fun hc7 hc7p hf => ?_
     ·refine Tx ?_;refine Fc EStep ?_;refine Fc EPlace ?_;refine Rx ?_; exact Rr ⟨Z0, Z0⟩
     ·refine Tx ?_
      refine Jn (SlV × Nat) [0, 2, 3, 7, 8, 9, 31, 32, 33, 34, 35, 36, 37, 38, 67, 68] [true, true] (fun ⟨x3, g5⟩ => ⟨[(12, .v (x3.val (aD p1 (gt l1 (aj l1 last1 l1 0 (-1)).toNat)).1.length)), (13, .v (.pointer (some ⟨g5, 0, none⟩))), (70, .v (.tuple #[x3.val (aD p1 (gt l1 (aj l1 last1 l1 0 (-1)).toNat)).1.length, .agg ⟨cS (aD p1 (gt l1 (aj l1 last1 l1 0 (-1)).toNat)).2⟩])), (71, .v (.pointer (some ⟨g3, 1, none⟩))), (72, .v (.pointer (some ⟨g3, 1, none⟩))), (73, .v (x2.val p1.length)), (74, .v (y1.val l1.length)), (75, .v (.int .i64 (aj l1 last1 l1 0 (-1)))), (77, .v (.agg ⟨cO (gt l1 (aj l1 last1 l1 0 (-1)).toNat)⟩)), (78, .v (.tuple #[x3.val (aD p1 (gt l1 (aj l1 last1 l1 0 (-1)).toNat)).1.length, .agg ⟨cS (aD p1 (gt l1 (aj l1 last1 l1 0 (-1)).toNat)).2⟩])), (79, .v (x3.val (aD p1 (gt l1 (aj l1 last1 l1 0 (-1)).toNat)).1.length)), (80, .v (.agg ⟨cS (aD p1 (gt l1 (aj l1 last1 l1 0 (-1)).toNat)).2⟩))], [⟨g5, 157, [.int .i64 (aD p1 (gt l1 (aj l1 last1 l1 0 (-1)).toNat)).2.o.time, .int .i64 (aD p1 (gt l1 (aj l1 last1 l1 0 (-1)).toNat)).2.o.who, .int .i64 (aD p1 (gt l1 (aj l1 last1 l1 0 (-1)).toNat)).2.o.node, .int .i64 (aD p1 (gt l1 (aj l1 last1 l1 0 (-1)).toNat)).2.o.parent, .int .i64 (aD p1 (gt l1 (aj l1 last1 l1 0 (-1)).toNat)).2.o.name, .int .i64 (aD p1 (gt l1 (aj l1 last1 l1 0 (-1)).toNat)).2.o.life, .int .i64 (aD p1 (gt l1 (aj l1 last1 l1 0 (-1)).toNat)).2.o.seq, .bool (aD p1 (gt l1 (aj l1 last1 l1 0 (-1)).toNat)).2.did, .int .i64 (aD p1 (gt l1 (aj l1 last1 l1 0 (-1)).toNat)).2.was.node, .int .i64 (aD p1 (gt l1 (aj l1 last1 l1 0 (-1)).toNat)).2.was.parent, .int .i64 (aD p1 (gt l1 (aj l1 last1 l1 0 (-1)).toNat)).2.was.name]⟩], [ownL EStep 157 x1 x1b l2], [RdL EPlace x3 (aD p1 (gt l1 (aj l1 last1 l1 0 (-1)).toNat)).1, RdL EPlace x2 p1, RdL EOp y1 l1], True, 0⟩) ?_ ?_
      ·refine Rg [(13,none)] ?_;refine Dx [0,1,2,3,4] ?_;refine Rb 5 rfl (Xi (aj l1 last1 l1 0 (-1)).toNat) ?_;refine Rb 6 rfl Xa ?_;refine Rw 7 11 ?_ ?_
       ·refine Ck (kJ x2 p1 (gt l1 (aj l1 last1 l1 0 (-1)).toNat) (xV hi.1) (vV hi.1) (sj (hca _ (by omega)))) fun x4 => ?_;refine Pr EPlace x4 (aD p1 (gt l1 (aj l1 last1 l1 0 (-1)).toNat)).1 24 fun hlen2 => ?_;refine Dx [8,9,10] ?_;refine Rn 11 ?_;refine AlT fun g6 => ?_;refine Ra 12 rfl Qp ?_;refine Rn 13 ?_;refine Wa ?_;refine Re0 ?_;refine ⟨⟨x4, g6⟩, trivial, Le4⟩
       ·refine AlT fun g7 => ?_;refine Rn 7 ?_;refine Ck (kJ x2 p1 (gt l1 (aj l1 last1 l1 0 (-1)).toNat) (xV hi.1) (vV hi.1) (sj (hca _ (by omega)))) fun x5 => ?_;refine Pr EPlace x5 (aD p1 (gt l1 (aj l1 last1 l1 0 (-1)).toNat)).1 24 fun hlen3 => ?_;refine Dx [8,9,10,12] ?_;refine Rn 13 ?_;refine Wa ?_;refine Re0 ?_;refine ⟨⟨x5, g7⟩, trivial, Le4⟩
      ·rintro ⟨x3, g5⟩ -;simp only [Lc];refine Bl EStep [(aD p1 (gt l1 (aj l1 last1 l1 0 (-1)).toNat)).2] fun x6 x6b => ?_;refine Ap EStep 88 l2 [(aD p1 (gt l1 (aj l1 last1 l1 0 (-1)).toNat)).2] x1b fun x7 x7b => ?_;refine Sy Tz (Xi (aj l1 last1 l1 0 (-1)).toNat) ?_;refine Sq Xf ?_;refine Sq (q_leP EOp rfl rfl Zf rfl rfl Mm (fun _ => by first | assumption | omega) rfl) ?_;refine Ck (gX (⟨(gt l1 (aj l1 last1 l1 0 (-1)).toNat).time, (gt l1 (aj l1 last1 l1 0 (-1)).toNat).who⟩ : Stamp) (pF (hca _ (by omega)))) fun _ => ?_;refine Tx ?_;refine ⟨⟨(eE (⟨(gt l1 (aj l1 last1 l1 0 (-1)).toNat).time, (gt l1 (aj l1 last1 l1 0 (-1)).toNat).who⟩ : Stamp)), (l2 ++ [(aD p1 (gt l1 (aj l1 last1 l1 0 (-1)).toNat)).2]), x7, x7b, (aD p1 (gt l1 (aj l1 last1 l1 0 (-1)).toNat)).1, x3, (fz1 - 1)⟩, ⟨⟨AQ hi.1 (hca _ (by omega)), Zl⟩, (by (try simp only []); first | omega | (simp only [Ln]; omega)), (hf : (aR l1) = (dF l1 (fz1 - 1) (eE (⟨(gt l1 (aj l1 last1 l1 0 (-1)).toNat).time, (gt l1 (aj l1 last1 l1 0 (-1)).toNat).who⟩ : Stamp)) (l2 ++ [(aD p1 (gt l1 (aj l1 last1 l1 0 (-1)).toNat)).2]) (aD p1 (gt l1 (aj l1 last1 l1 0 (-1)).toNat)).1)).symm⟩, Oo, Le4⟩
   ·refine Tx ?_;refine Fz x1 ?_;refine Rx ?_; exact Rr ⟨x1, x2⟩
def dN  : List Step → (List Op) → (List Op)
 | [], l1 => l1
 | pn1 :: rn1, l1 => (dN rn1 (l1 ++ [pn1.o]))
def av (h1 : History) : List Op :=
 (dN h1.l [])
theorem fM (y1 : SlV) (y2 : SlV) (h1 : History) : Dv 101 [.agg ⟨cH y1 y2 h1⟩] [RdL EStep y1 h1.l, RdL EPlace y2 h1.t] ⟨[], []⟩ (fun (X : SlV × Option Nat) => X.1.val (av h1).length) (fun X => []) (fun X => ⟨[], [ownL EOp 76 X.1 X.2 (av h1)]⟩) := by
 refine Dq Tryz.func101 fun C => ?_;refine Qc y1 88 fun hlen1 => ?_;refine Qc y2 24 fun hlen2 => ?_;refine BxT fun g1 => ?_;refine Lq (List Op × SlV × Option Nat × Nat) [2,7,8] [true] (fun ⟨l1, x1, x1b, n1⟩ => ⟨[(3, .v (x1.val l1.length)), (9, .v (.int .i64 (n1 : Int)))], [], [ownL EOp 76 x1 x1b l1], [], (n1 ≤ h1.l.length) ∧ (l1.length ≤ n1) ∧ (dN (h1.l.drop n1) l1) = (av h1), h1.l.length - n1⟩) ⟨[], ⟨none, 0⟩, none, 0⟩ ⟨N0, Nz, (by simp only [av, Cf, D0])⟩ ?_ (hs := Le.trans (eI EOp 76) Le4);rintro ⟨l1, x1, x1b, n1⟩ ⟨hkn1, hl1, hf1⟩;simp only [Lc];refine Cu (fun hlt0 => ?_) fun hge0 => ?_
 ·refine Sy Tz (Xi n1) ?_;refine Sq Xa ?_;refine AlT fun g2 => ?_;refine Bl EOp [(gt h1.l n1).o] fun x2 x2b => ?_;refine Ap EOp 56 l1 [(gt h1.l n1).o] x1b fun x3 x3b => ?_;refine Tt ?_;refine ⟨⟨(l1 ++ [(gt h1.l n1).o]), x3, x3b, (n1 + 1)⟩, ⟨hlt0, Zl, (by rw [← hf1, aK hlt0]; simp only [dN, Cf, D0])⟩, Oo, Le4⟩
 ·have hf := Ri hf1.symm;rw [Dl hge0, dN] at hf;refine Rx ?_; exact Rr ⟨x1, x1b⟩
def ge (a1 : History) (b1 : History) : Bool :=
 ((decide (a1.l = b1.l)) && (decide (a1.t = b1.t)))
theorem ld (y1 : SlV) (y2 : SlV) (a1 : History) (y3 : SlV) (y4 : SlV) (b1 : History) : Du 92 [.agg ⟨cH y1 y2 a1⟩, .agg ⟨cH y3 y4 b1⟩] [RdL EStep y1 a1.l, RdL EPlace y2 a1.t, RdL EStep y3 b1.l, RdL EPlace y4 b1.t] (.bool (ge a1 b1)) := by
 refine Dp Tryz.func92 fun C => ?_;refine Qc y1 88 fun hlen1 => ?_;refine Qc y2 24 fun hlen2 => ?_;refine Qc y3 88 fun hlen3 => ?_;refine Qc y4 24 fun hlen4 => ?_;refine BxT fun g1 => ?_;refine BxT fun g2 => ?_;refine Ck ((fun y1 a y2 b => j5 y1 y2 a b) y1 a1.l y3 b1.l) fun _ => ?_;refine Cy (fun hG_ => (fun y1 a y2 b => cf y1 y2 a b) y2 a1.t y4 b1.t) ?_;have hf := Ri (ge.eq_1 a1 b1);exact Ru
theorem oL (h : History) : (av h).length = h.l.length := by
 have key : ∀ (l : List Step) (acc : List Op), (dN l acc).length = acc.length + l.length := by
  intro l;induction l with
  | nil => intro acc; rfl
  | cons p r ih => intro acc; rw [dN, ih]; simp; omega
 unfold av;rw [key]; simp
theorem n7 (y : SlV) (l : List Place) (n : Int) (hy : y = ⟨none, 0⟩ ∧ l = []) (hn : 0 ≤ n ∧ n * 24 ≤ 140737488355328) : Dv 208 [y.val l.length, .int .i64 n] [RdL EPlace y l] ⟨[], []⟩ (fun (X : SlV × Option Nat) => X.1.val ([] : List Place).length) (fun _ => []) (fun X => ⟨[], [ownL EPlace 99 X.1 X.2 []]⟩) := by
 obtain ⟨hy1, hy2⟩ := hy;subst hy1; subst hy2;obtain ⟨k, rfl⟩ : ∃ k : Nat, n = k := ⟨n.toNat, by omega⟩;refine Dq Tryz.func208 fun C => ?_;refine cw_le (eI EPlace 99) ?_;refine Cd' (fun hc => ?_) fun hc => ?_
 ·exact absurd (of_decide_eq_true hc) (by omega)
 ·refine Sy Tz (q_cap rfl rfl Zf rfl) ?_;refine Tx ?_;refine Sq (q_is (v' := .int .i64 0) (q_sub rfl rfl Zf rfl Zf (fun _ => by decide)) rfl) ?_;refine Sq (q_is (v' := .int .i64 (k : Int)) (q_sub rfl rfl Zf rfl Zf Zo) (by simp)) ?_;refine Cd' (fun hc1 => ?_) fun hc1 => ?_
  ·have hk := of_decide_eq_true hc1;refine Sy Tz (q_cap rfl rfl Zf rfl) ?_;refine Sq (rR (h := 0) rfl rfl Zf rfl Zf rfl rfl Zf (fun _ => Nr)) ?_;refine Rp rfl rfl rfl rfl ?_;refine pj (n := k) (e := 99) (by_ := 24) .sq (au rfl) rfl rfl rfl rfl rfl rfl rfl rfl und_3 (fun _ _ _ => .here _ _ _) rfl rfl rfl rfl rfl rfl (by omega) (by omega) (by omega) fun x1 b1 zs => ?_;refine Tx ?_;refine qy (k := 0) .sq (au rfl) rfl rfl rfl rfl rfl rfl rfl rfl rfl (.here _ _ _) rfl N0 ?_;refine Tx ?_;refine Tr ?_; exact Rr (x1, b1)
  ·refine Tx ?_;refine Tr ?_; exact Rr (⟨none, 0⟩, none)
def dm  : List (List Place) → (List Place) → (List Place)
 | [], newslice1 => newslice1
 | pn2 :: rn2, newslice1 => (dm rn2 (newslice1 ++ pn2))
def el (slices1 : List (List Place)) : List (List Place) → Nat → (List Place)
 | [], size1 => (dm slices1 ([] : List Place))
 | pn1 :: rn1, size1 => (bif decide (((size1 : Int) + (pn1.length : Int)) < 0) then [] else (el slices1 rn1 (size1 + pn1.length)))
def fg (slices1 : List (List Place)) : List Place :=
 (el slices1 slices1 0)
theorem mI (y1 : SlV) (slices1 : List (List Place)) (hct : slices1.flatten.length * 24 ≤ 140737488355328) : Dv 184 [y1.val slices1.length] [RdN NPlaces y1 slices1] ⟨[], []⟩ (fun (X : SlV × Option Nat) => X.1.val (fg slices1).length) (fun X => []) (fun X => ⟨[], [ownL EPlace 99 X.1 X.2 (fg slices1)]⟩) := by
 refine Dq Tryz.func184 fun C => ?_;refine Qn y1 24 fun hlen1 => ?_;refine Lq (Nat × Nat) [0,2,9,10] [] (fun ⟨size1, n1⟩ => ⟨[(3, .v (.int .i64 (size1 : Int))), (11, .v (.int .i64 (n1 : Int)))], [], [], [], (n1 ≤ slices1.length) ∧ (size1 = ((slices1.take n1).flatten.length : Int)) ∧ (el slices1 (slices1.drop n1) size1) = (fg slices1), slices1.length - n1⟩) ⟨0, 0⟩ ⟨N0, (by simp), (by simp only [fg, Cf, D0])⟩ ?_;rintro ⟨size1, n1⟩ ⟨hkn1, hsz, hf1⟩;simp only [Lc];refine Cu (fun hlt0 => ?_) fun hge0 => ?_
 ·refine Tx ?_;refine Ex NPlaces y1 fun (γ1 : Nat → SlV) => ?_;refine Sq (Xn n1) ?_;refine Sq (i8 NPlaces γ1 (v := (γ1 n1).val (gt slices1 n1).length) rfl rfl Zf rfl rfl Mm (fun _ => by first | assumption | omega) rfl) ?_;refine Gg NPlaces γ1 n1 0 ?_;refine Tx ?_;refine Sq (q_add rfl rfl Zf rfl Zf (fun _ => by have := (ij slices1 hlt0).2; omega)) ?_;have hf := Ri hf1.symm;rw [aK hlt0, el] at hf;refine Cp hf (fun hc2 hc2p hf => ?_) fun hc2 hc2p hf => ?_
  ·exact absurd (of_decide_eq_true hc2) (by omega)
  ·refine Tt ?_;refine ⟨⟨(size1 + (gt slices1 n1).length), (n1 + 1)⟩, ⟨hlt0, (by rw [(ij slices1 hlt0).1, List.length_append]; simp only [hsz]; omega), hf.symm⟩, Oo, Le4⟩
 ·refine Tx ?_;refine Fr EPlace ?_;refine Cm (n7 Z0 ([] : List Place) (size1 : Int) ⟨rfl, rfl⟩ (by have h_ : (slices1.take n1).flatten.length ≤ slices1.flatten.length := (by rw [List.take_of_length_le hge0]; exact Nr); omega)) fun x1 => ?_;refine Lq (List Place × SlV × Option Nat × Nat) [2,25,26] [] (fun ⟨newslice1, x2, x2b, n2⟩ => ⟨[(6, .v (x2.val newslice1.length)), (27, .v (.int .i64 (n2 : Int)))], [], [ownL EPlace 99 x2 x2b newslice1], [], (n2 ≤ slices1.length) ∧ (newslice1.length = (slices1.take n2).flatten.length) ∧ (dm (slices1.drop n2) newslice1) = (fg slices1), slices1.length - n2⟩) ⟨([] : List Place), x1.1, x1.2, 0⟩ ⟨N0, (by simp), (by rw [← hf1, Dl hge0]; simp only [el, Cf, D0])⟩ ?_;rintro ⟨newslice1, x2, x2b, n2⟩ ⟨hkn2, hnl, hf2⟩;simp only [Lc];refine Cu (fun hlt1 => ?_) fun hge1 => ?_
  ·refine Tx ?_;refine Ex NPlaces y1 fun (γ2 : Nat → SlV) => ?_;refine Sq (Xn n2) ?_;refine Sq (i8 NPlaces γ2 (v := (γ2 n2).val (gt slices1 n2).length) rfl rfl Zf rfl rfl Mm (fun _ => by first | assumption | omega) rfl) ?_;refine Gg NPlaces γ2 n2 0 ?_;refine Ap EPlace 24 newslice1 (gt slices1 n2) x2b (hb := (by have := (ij slices1 hlt1).2; show (_ + _) * 24 ≤ _; omega)) fun x3 x3b => ?_;refine Tt ?_;refine ⟨⟨(newslice1 ++ (gt slices1 n2)), x3, x3b, (n2 + 1)⟩, ⟨hlt1, (by rw [(ij slices1 hlt1).1]; simp only [List.length_append]; omega), (by rw [← hf2, aK hlt1]; simp only [dm, Cf, D0])⟩, Oo, Le4⟩
  ·have hf := Ri hf2.symm;rw [Dl hge1, dm] at hf;refine Rx ?_; exact Rr ⟨x2, x2b⟩
theorem oe (ls : List (List Place)) : fg ls = ls.flatten := by
 have h1 : ∀ (l : List (List Place)) (acc : List Place), dm l acc = acc ++ l.flatten := by
  intro l;induction l with
  | nil => intro acc; simp [dm]
  | cons a r ih => intro acc; rw [dm, ih]; simp
 have h0 : ∀ (l : List (List Place)) (k : Nat), el ls l k = dm ls [] := by
  intro l;induction l with
  | nil => intro k; rfl
  | cons a r ih =>
   intro k;have : decide (((k : Int) + (a.length : Int)) < 0) = false := by simp; omega
   rw [el, this, cond_false, ih]
 rw [fg, h0, h1, List.nil_append]
theorem mo (y1 : SlV) (ls : List (List Place)) (hct : ls.flatten.length * 24 ≤ 140737488355328) : Dv 184 [y1.val ls.length] [RdN NPlaces y1 ls] ⟨[], []⟩ (fun (X : SlV × Option Nat) => X.1.val ls.flatten.length) (fun _ => []) (fun X => ⟨[], [ownL EPlace 99 X.1 X.2 ls.flatten]⟩) := by
 have := mI y1 ls hct;rw [oe] at this;exact this
def co  : List Int → Int → Int
 | [], last1 => 0
 | pn1 :: rn1, last1 => (bif (!(ak pn1 0 16)) then 5 else (bif decide (pn1 ≤ last1) then 6 else (co rn1 pn1)))
def bE (l1 : List Int) : Int :=
 (bif decide ((l1.length : Int) > 4) then 2 else (co l1 (-1)))
theorem gv (y1 : SlV) (l1 : List Int) : Du 77 [y1.val l1.length] [RdL EInt y1 l1] (.int .i64 (bE l1)) := by
 refine Dp Tryz.func77 fun C => ?_;refine Qc y1 8 fun hlen1 => ?_;have hf := Ri (bE.eq_1 l1);refine Kp hf fun hc1 hc1p hf => ?_;refine Lq (Int × Nat) [2,9,10] [] (fun ⟨last1, n1⟩ => ⟨[(3, .v (.int .i64 last1)), (11, .v (.int .i64 (n1 : Int)))], [], [], [], (n1 ≤ l1.length) ∧ (co (l1.drop n1) last1) = (bE l1), l1.length - n1⟩) ⟨(-1), 0⟩ ⟨N0, hf.symm⟩ ?_;rintro ⟨last1, n1⟩ ⟨hkn1, hf1⟩;simp only [Lc];refine Cu (fun hlt0 => ?_) fun hge0 => ?_
 ·refine Sy Tz (Xi n1) ?_;refine Sq X1 ?_;refine Ck (aB (gt l1 n1) 0 16) fun _ => ?_;have hf := Ri hf1.symm;rw [aK hlt0, co] at hf;refine Kh hf fun hc3 hf => ?_;refine Kp hf fun hc4 hc4p hf => ?_;refine Tt ?_;refine ⟨⟨(gt l1 n1), (n1 + 1)⟩, ⟨hlt0, hf.symm⟩, Oo, Le4⟩
 ·have hf := Ri hf1.symm;rw [Dl hge0, co] at hf;exact Ru
def fE (a1 : View) (b1 : View) : Bool :=
 (((decide (a1.roots = b1.roots)) && (decide (a1.known = b1.known))) && (decide (a1.way = b1.way)))
theorem ic (y1 : SlV) (y2 : SlV) (y3 : SlV) (a1 : View) (y4 : SlV) (y5 : SlV) (y6 : SlV) (b1 : View) : Du 26 [.agg ⟨cV y1 y2 y3 a1⟩, .agg ⟨cV y4 y5 y6 b1⟩] [RdL EInt y1 a1.roots, RdL EPlace y2 a1.known, RdL EPlace y3 a1.way, RdL EInt y4 b1.roots, RdL EPlace y5 b1.known, RdL EPlace y6 b1.way] (.bool (fE a1 b1)) := by
 refine Dp Tryz.func26 fun C => ?_;refine Qc y1 8 fun hlen1 => ?_;refine Qc y2 24 fun hlen2 => ?_;refine Qc y3 24 fun hlen3 => ?_;refine Qc y4 8 fun hlen4 => ?_;refine Qc y5 24 fun hlen5 => ?_;refine Qc y6 24 fun hlen6 => ?_;refine BxT fun g1 => ?_;refine BxT fun g2 => ?_;refine Ck ((fun y1 a y2 b => cl y1 y2 a b) y1 a1.roots y4 b1.roots) fun _ => ?_;refine Cy (fun hG_ => (fun y1 a y2 b => cf y1 y2 a b) y2 a1.known y5 b1.known) ?_;refine Cy (fun hG_ => (fun y1 a y2 b => cf y1 y2 a b) y3 a1.way y6 b1.way) ?_;have hf := Ri (fE.eq_1 a1 b1);exact Ru
theorem tJ {l : List Place} (hpar : ∀ p ∈ l, 0 ≤ p.parent ∧ p.parent ≤ 16) : ∀ (f : Nat) (node : Int) (out : List Int), f + out.length = 19 → 1 ≤ out.length → out.Nodup → (∀ x ∈ out.tail, 0 ≤ x ∧ x ≤ 16) →
  1 ≤ (bo l f node out).length ∧ (bo l f node out).length ≤ 18
 | 0, node, out, hf, h1, hn, ht => by have := o6 hn ht; omega
 | f + 1, node, out, hf, h1, hn, ht => by
  rw [bo];cases hb : (((bq l node).node == 0) || decide ((bq l node).parent ∈ out)) with
  | true => exact ⟨h1, o6 hn ht⟩
  | false =>
   obtain ⟨h2, h3⟩ := Bool.or_eq_false_iff.1 hb;refine tJ hpar f _ _ (by simp; omega) (by simp) (pr hn (by simpa using h3)) (qt ht (hpar _ (tx (by simpa using h2))))
theorem B4 {l : List Place} (hpar : ∀ p ∈ l, 0 ≤ p.parent ∧ p.parent ≤ 16) (n : Int) : 1 ≤ (aA l n).length ∧ (aA l n).length ≤ 18 :=
 tJ hpar 18 n [n] rfl (by simp) (by simp) (by simp)
theorem uh {l : List Int} (h : bE l = 0) : l.length ≤ 4 := by
 unfold bE at h;cases hb : decide ((l.length : Int) > 4) with
 | true => rw [hb] at h; simp at h
 | false => simp at hb; omega
def cJ (roots1 : List Int) : List Int → Bool → Bool
 | [], known3 => known3
 | pn3 :: rn3, known3 => (cJ roots1 rn3 (known3 || (decide (pn3 ∈ roots1))))
def dK (t1 : List Place) (roots1 : List Int) (up1 : List Int) : List Place → (List Place) → (List Place) → (View × Int)
 | [], known1, way1 => ((⟨roots1, known1, way1⟩ : View), 0)
 | pn2 :: rn2, known1, way1 => (bif (cJ roots1 (aA t1 pn2.node) false) then (dK t1 roots1 up1 rn2 (known1 ++ [pn2]) way1) else (bif (decide (pn2.node ∈ up1)) then (dK t1 roots1 up1 rn2 known1 (way1 ++ [pn2])) else (dK t1 roots1 up1 rn2 known1 way1)))
def eB (t1 : List Place) (roots1 : List Int) : List Int → (List Int) → (View × Int)
 | [], up1 => (dK t1 roots1 up1 t1 [] [])
 | pn1 :: rn1, up1 => (eB t1 roots1 rn1 (up1 ++ ((aA t1 pn1).drop 1)))
def bs (t1 : List Place) (roots1 : List Int) : View × Int :=
 (bif ((bM t1) != 0) then ((⟨[], [], []⟩ : View), (bM t1)) else (bif ((bE roots1) != 0) then ((⟨[], [], []⟩ : View), (bE roots1)) else (eB t1 roots1 roots1 [])))
theorem fV (y1 : SlV) (t1 : List Place) (y2 : SlV) (roots1 : List Int) : Dw 30 [.agg ⟨[y1.val t1.length]⟩, y2.val roots1.length] [RdL EPlace y1 t1, RdL EInt y2 roots1] (fun (X : SlV × SlV × SlV) => .tuple #[.agg ⟨cV X.1 X.2.1 X.2.2 (bs t1 roots1).1⟩, .int .i64 (bs t1 roots1).2]) (fun X => [RdL EInt X.1 (bs t1 roots1).1.roots, RdL EPlace X.2.1 (bs t1 roots1).1.known, RdL EPlace X.2.2 (bs t1 roots1).1.way]) := by
 refine Dp Tryz.func30 fun C => ?_;refine Qc y1 24 fun hlen1 => ?_;refine Qc y2 8 fun hlen2 => ?_;refine BxT fun g1 => ?_;refine AlT fun g2 => ?_;refine Ck (gL y1 t1) fun _ => ?_;have hf := Ri (bs.eq_1 t1 roots1);refine Cn hf (fun hc1 hc1p hf => ?_) fun hc1 hc1p hf => ?_
 ·refine Tx ?_;refine Fc EInt ?_;refine Fc EPlace ?_;refine Rx ?_; exact Rr ⟨Z0, Z0, Z0⟩
 ·have hct := ag hc1;refine Ck (gv y2 roots1) fun _ => ?_;refine Cn hf (fun hc2 hc2p hf => ?_) fun hc2 hc2p hf => ?_
  ·refine Tx ?_;refine Fc EInt ?_;refine Fc EPlace ?_;refine Rx ?_; exact Rr ⟨Z0, Z0, Z0⟩
  ·have hrl := uh (ag hc2);refine AlT fun g3 => ?_;refine Lq (List Int × SlV × Option Nat × Nat) [1,2,4,5,8,31,32] [true, true, true] (fun ⟨up1, x1, x1b, n1⟩ => ⟨[(9, .v (x1.val up1.length)), (33, .v (.int .i64 (n1 : Int)))], [], [ownL EInt 3 x1 x1b up1], [], (n1 ≤ roots1.length) ∧ (up1.length ≤ 18 * n1) ∧ (eB t1 roots1 (roots1.drop n1) up1) = (bs t1 roots1), roots1.length - n1⟩) ⟨[], ⟨none, 0⟩, none, 0⟩ ⟨N0, Nz, hf.symm⟩ ?_ (hs := Le.trans (eI EInt 3) Le4);rintro ⟨up1, x1, x1b, n1⟩ ⟨hkn1, hupl, hf1⟩;simp only [Lc];refine Cu (fun hlt0 => ?_) fun hge0 => ?_
   ·refine Sy Tz (Xi n1) ?_;refine Sq X1 ?_;refine Ck (gG y1 t1 (gt roots1 n1) (nG hct)) fun x2 => ?_;refine Pr EInt x2 (aA t1 (gt roots1 n1)) 8 fun hlen3 => ?_;have hch := B4 (nG hct) (gt roots1 n1);refine Sq (rS EInt 1 rfl rfl Zf rfl Zf rfl rfl Zo Zo) ?_;refine Dz x2 1 ?_;refine Ap EInt 8 up1 ((aA t1 (gt roots1 n1)).drop 1) x1b (hb := (by show (_ + _) * 8 ≤ _; simp only [List.length_drop]; omega)) fun x3 x3b => ?_;refine Tt ?_;refine ⟨⟨(up1 ++ ((aA t1 (gt roots1 n1)).drop 1)), x3, x3b, (n1 + 1)⟩, ⟨hlt0, (by simp only [List.length_append, List.length_drop]; omega), (by rw [← hf1, aK hlt0]; simp only [eB, Cf, D0])⟩, Oo, Le4⟩
   ·refine Lq (Nat × List Place × SlV × Option Nat × List Place × SlV × Option Nat) [1,2,4,5,8,9,46,47] [false, true, true] (fun ⟨n2, known1, x4, x4b, way1, x5, x5b⟩ => ⟨[(48, .v (.int .i64 (n2 : Int)))], [⟨g3, 61, [y2.val roots1.length, x4.val known1.length, x5.val way1.length]⟩], [ownL EInt 3 x1 x1b up1, ownL EPlace 99 x4 x4b known1, ownL EPlace 99 x5 x5b way1], [], (n2 ≤ t1.length) ∧ (known1.length ≤ n2) ∧ (way1.length ≤ n2) ∧ (dK t1 roots1 up1 (t1.drop n2) known1 way1) = (bs t1 roots1), t1.length - n2⟩) ⟨0, [], ⟨none, 0⟩, none, [], ⟨none, 0⟩, none⟩ ⟨N0, Nz, Nz, (by rw [← hf1, Dl hge0]; simp only [eB, Cf, D0])⟩ ?_ (hs := Le.trans (eI EPlace 99) (Le.trans (eI EPlace 99) Le4));rintro ⟨n2, known1, x4, x4b, way1, x5, x5b⟩ ⟨hkn2, hknown1, hway1, hf2⟩;simp only [Lc];refine Cu (fun hlt1 => ?_) fun hge1 => ?_
    ·refine Sy Tz (Xi n2) ?_;refine Sq Xa ?_;refine AlT fun g4 => ?_;refine Ck (gG y1 t1 (gt t1 n2).node (nG hct)) fun x6 => ?_;refine Pr EInt x6 (aA t1 (gt t1 n2).node) 8 fun hlen4 => ?_;refine Ty ?_;refine mb [1, 2, 4, 5, 8, 9, 13, 46, 47, 48, 49, 50, 51, 52, 53, 54, 55, 56, 57] [true, true, true, true] (fun (known2 : Bool) => [(14, .v (.bool known2))]) (fun (known2 : Bool) => []) (fun (known2 : Bool) => [ownL EInt 3 x1 x1b up1, ownL EPlace 99 x4 x4b known1, ownL EPlace 99 x5 x5b way1]) (fun (known2 : Bool) => []) (fun (known2 : Bool) => known2 = (cJ roots1 (aA t1 (gt t1 n2).node) false)) (.cons rfl (.cons rfl (.cons rfl (.cons rfl (.cons rfl (.cons rfl (.cons rfl (.cons rfl (.cons rfl (.cons rfl (.cons rfl (.cons rfl (.cons rfl (.cons rfl (.cons rfl (.cons rfl (.cons rfl (.cons rfl (.cons rfl (.nil _)))))))))))))))))))) (.keep (.keep (.keep (.keep (.nil))))) ?_ ?_
     ·refine Lq (Bool × Nat) [1,2,4,5,8,9,13,46,47,48,49,50,51,52,53,54,55,56,57] [true, true, true, true] (fun ⟨known3, n3⟩ => ⟨[(14, .v (.bool known3)), (58, .v (.int .i64 (n3 : Int)))], [], [ownL EInt 3 x1 x1b up1, ownL EPlace 99 x4 x4b known1, ownL EPlace 99 x5 x5b way1], [], (n3 ≤ (aA t1 (gt t1 n2).node).length) ∧ (cJ roots1 ((aA t1 (gt t1 n2).node).drop n3) known3) = (cJ roots1 (aA t1 (gt t1 n2).node) false), (aA t1 (gt t1 n2).node).length - n3⟩) ⟨false, 0⟩ ⟨N0, (rfl : (cJ roots1 (aA t1 (gt t1 n2).node) false) = (cJ roots1 (aA t1 (gt t1 n2).node) false)).symm⟩ ?_;rintro ⟨known3, n3⟩ ⟨hkn3, hf3⟩;simp only [Lc];refine Cu (fun hlt2 => ?_) fun hge2 => ?_
      ·refine Sy Tz (Xi n3) ?_;refine Sq X1 ?_;refine Cy (fun hG_ => de y2 roots1 (gt (aA t1 (gt t1 n2).node) n3)) ?_;refine Tt ?_;refine ⟨⟨(known3 || (decide ((gt (aA t1 (gt t1 n2).node) n3) ∈ roots1))), (n3 + 1)⟩, ⟨hlt2, (by rw [← hf3, aK hlt2]; simp only [cJ, Cf, D0])⟩, Oo, Le4⟩
      ·refine Tx ?_;have hv1 : (cJ roots1 (aA t1 (gt t1 n2).node) false) = known3 := by rw [← hf3, Dl hge2]; simp only [cJ, Cf]
       refine ⟨known3, hv1.symm, Le4⟩
     ·rintro known2 rfl;simp only [Lc];have hf := Ri hf2.symm;rw [aK hlt1, dK] at hf;refine Ch hf (fun hc6 hf => ?_) fun hc6 hf => ?_
      ·refine Bl EPlace [(gt t1 n2)] fun x7 x7b => ?_;refine Ap EPlace 24 known1 [(gt t1 n2)] x4b fun x8 x8b => ?_;refine Tt ?_;refine ⟨⟨(n2 + 1), (known1 ++ [(gt t1 n2)]), x8, x8b, way1, x5, x5b⟩, ⟨hlt1, Zl, Zl, hf.symm⟩, Oo, Le4⟩
      ·refine Tx ?_;refine nj (de x1 up1 (gt t1 n2).node) .sq (au rfl) rfl rfl rfl Kr rfl rfl (.own Mm (.nil _ _)) ?_;intro _;refine Ch hf (fun hc7 hf => ?_) fun hc7 hf => ?_
       ·refine Bl EPlace [(gt t1 n2)] fun x9 x9b => ?_;refine Ap EPlace 24 way1 [(gt t1 n2)] x5b fun x10 x10b => ?_;refine Tt ?_;refine ⟨⟨(n2 + 1), known1, x4, x4b, (way1 ++ [(gt t1 n2)]), x10, x10b⟩, ⟨hlt1, Zl, Zl, hf.symm⟩, Oo, Le4⟩
       ·refine Tt ?_;refine ⟨⟨(n2 + 1), known1, x4, x4b, way1, x5, x5b⟩, ⟨hlt1, Zl, Zl, hf.symm⟩, Oo, Le4⟩
    ·refine Tx ?_;refine Fz x4 ?_;refine Fz x5 ?_;have hf := Ri hf2.symm;rw [Dl hge1, dK] at hf;refine Rx ?_; exact Rr ⟨y2, x4, x5⟩
attribute [local irreducible] RdL RdN VarP
def bf (r1 : Rec) : Int :=
 (bif (r1.kind == 1) then (bif (((r1.who != 0) || (r1.life != 0)) || ((r1.roots.length : Int) != 0)) then 4 else (aG r1.o)) else (bif (r1.kind == 2) then (bif ((!(decide (r1.o = (⟨0, 0, 0, 0, 0, 0, 0⟩ : Op)))) || ((r1.roots.length : Int) != 0)) then 4 else (bif ((!(ak r1.who 0 2)) || (!(ak r1.life 1 50))) then 3 else 0)) else (bif (r1.kind == 3) then (bif ((!(decide (r1.o = (⟨0, 0, 0, 0, 0, 0, 0⟩ : Op)))) || (r1.life != 0)) then 4 else (bif (!(ak r1.who 0 2)) then 3 else (bE r1.roots))) else 4)))
theorem eg (y1 : SlV) (r1 : Rec) : Du 49 [.agg ⟨cR y1 r1⟩] [RdL EInt y1 r1.roots] (.int .i64 (bf r1)) := by
 refine Dp Tryz.func49 fun C => ?_;refine Qc y1 8 fun hlen1 => ?_;refine BxT fun g1 => ?_;have hf := Ri (bf.eq_1 r1);refine Ce hf (fun hc1 hc1p hf => ?_) fun hc1 hc1p hf => ?_
 ·refine Kh hf fun hc2 hf => ?_;refine Ck (fl r1.o) fun _ => ?_;exact Ru
 ·refine Ce hf (fun hc3 hc3p hf => ?_) fun hc3 hc3p hf => ?_
  ·refine Sy Tz (q_neE tC (lI r1.o (⟨0, 0, 0, 0, 0, 0, 0⟩ : Op)) rfl rfl Zf rfl Zf rfl rfl) ?_;refine Kh hf fun hc4 hf => ?_;refine Ck (aB r1.who 0 2) fun _ => ?_;refine Cy (fun hG_ => aB r1.life 1 50) ?_;refine Kh hf fun hc5 hf => ?_;exact Ru
  ·refine Ce hf (fun hc6 hc6p hf => ?_) fun hc6 hc6p hf => ?_
   ·refine Sy Tz (q_neE tC (lI r1.o (⟨0, 0, 0, 0, 0, 0, 0⟩ : Op)) rfl rfl Zf rfl Zf rfl rfl) ?_;refine Kh hf fun hc7 hf => ?_;refine Ck (aB r1.who 0 2) fun _ => ?_;refine Kh hf fun hc8 hf => ?_;refine Ck (gv y1 r1.roots) fun _ => ?_;exact Ru
   ·exact Ru
def gY (x1 : Peer) (y1 : Peer) : Bool :=
 (((x1.life == y1.life) && (x1.seq == y1.seq)) && (decide (x1.roots = y1.roots)))
theorem lU (y2 : SlV) (x1 : Peer) (y3 : SlV) (y1 : Peer) : Du 94 [.agg ⟨cE y2 x1⟩, .agg ⟨cE y3 y1⟩] [RdL EInt y2 x1.roots, RdL EInt y3 y1.roots] (.bool (gY x1 y1)) := by
 refine Dp Tryz.func94 fun C => ?_;refine Qc y2 8 fun hlen1 => ?_;refine Qc y3 8 fun hlen2 => ?_;refine BxT fun g1 => ?_;refine BxT fun g2 => ?_;refine Cy (fun hG_ => (fun y1 a y2 b => cl y1 y2 a b) y2 x1.roots y3 y1.roots) ?_;have hf := Ri (gY.eq_1 x1 y1);exact Ru
def eD (a1 : Hub) (b1 : Hub) : Bool :=
 (((ge a1.h b1.h) && (a1.version == b1.version)) && (dY a1.peers b1.peers gY))
theorem it (y1 : SlV) (y2 : SlV) (y3 : SlV) (a1 : Hub) (y4 : SlV) (y5 : SlV) (y6 : SlV) (b1 : Hub) : Du 35 [.agg ⟨cB y1 y2 y3 a1⟩, .agg ⟨cB y4 y5 y6 b1⟩] [RdL EStep y1 a1.h.l, RdL EPlace y2 a1.h.t, RdN NPeer y3 a1.peers, RdL EStep y4 b1.h.l, RdL EPlace y5 b1.h.t, RdN NPeer y6 b1.peers] (.bool (eD a1 b1)) := by
 refine Dp Tryz.func35 fun C => ?_;refine Qc y1 88 fun hlen1 => ?_;refine Qc y2 24 fun hlen2 => ?_;refine Qn y3 40 fun hlen3 => ?_;refine Qc y4 88 fun hlen4 => ?_;refine Qc y5 24 fun hlen5 => ?_;refine Qn y6 40 fun hlen6 => ?_;refine BxT fun g1 => ?_;refine BxT fun g2 => ?_;refine Ck (ld y1 y2 a1.h y4 y5 b1.h) fun _ => ?_;refine Cy (fun hG_ => jn y3 a1.peers y6 b1.peers _ _ _ gY Kr (fun z0a_ a0_ z1a_ a1_ => lU z0a_ a0_ z1a_ a1_)) ?_;have hf := Ri (eD.eq_1 a1 b1);exact Ru
def bP  : Hub :=
 (⟨(⟨[], []⟩ : History), 0, [(⟨0, 0, ([] : List Int)⟩ : Peer), (⟨0, 0, ([] : List Int)⟩ : Peer), (⟨0, 0, ([] : List Int)⟩ : Peer)]⟩ : Hub)
theorem jB  : Dw 56 [] [] (fun (X : SlV × SlV × SlV) => .agg ⟨cB X.1 X.2.1 X.2.2 bP⟩) (fun X => [RdL EStep X.1 bP.h.l, RdL EPlace X.2.1 bP.h.t, RdN NPeer X.2.2 bP.peers]) := by
 refine Dp Tryz.func56 fun C => ?_;refine AlT fun g1 => ?_;refine Tx ?_;refine ni NPeer.E (zipG (fun _ => Z0) 0 [(⟨0, 0, ([] : List Int)⟩ : Peer), (⟨0, 0, ([] : List Int)⟩ : Peer), (⟨0, 0, ([] : List Int)⟩ : Peer)]) .sq (au rfl) rfl rfl rfl rfl rfl rfl rfl rfl rfl rfl rfl rfl rfl rfl rfl rfl rfl fun x1 x1b => ?_;refine Fr EInt ?_;refine iq (F := FactsG NPeer (fun _ => Z0) [(⟨0, 0, ([] : List Int)⟩ : Peer), (⟨0, 0, ([] : List Int)⟩ : Peer), (⟨0, 0, ([] : List Int)⟩ : Peer)]) [RdL EInt Z0 ([] : List Int)] Sm (fun M w h => FactsG.const NPeer (by intro a ha; simp only [List.mem_cons, List.not_mem_nil, or_false, or_self] at ha; subst ha; exact pD Sm h)) ?_;refine Tx ?_;refine Fc EStep ?_;refine Fc EPlace ?_;refine Fz x1 ?_;refine Fj NPeer x1 (fun _ => Z0) [(⟨0, 0, ([] : List Int)⟩ : Peer), (⟨0, 0, ([] : List Int)⟩ : Peer), (⟨0, 0, ([] : List Int)⟩ : Peer)] ?_;have hf := Ri bP.eq_1;refine Rx ?_; exact Rr ⟨Z0, Z0, x1⟩
end Go.Proofs.YtkjccbdeaflekaaGreatDoor
namespace Go.Proofs.YtkjccbdeaflekaaGreatDoor.Fw
open Go
section
open Go.Lib
theorem ns {k : Nat} (h : k < 256) : (UInt8.ofNat k).toNat = k := by simp [UInt8.toNat_ofNat']; omega
theorem tF : ∀ (u : Nat), ∀ c ∈ decDigits u, 48 ≤ c.toNat ∧ c.toNat ≤ 57 := by
 intro u;induction u using Nat.strongRecOn with
 | _ u ih =>
  intro c hc;rw [decDigits] at hc;split at hc
  ·rename_i h;simp only [List.mem_singleton] at hc;subst hc;rw [ns (by omega)]; omega
  ·rename_i h;rcases List.mem_append.1 hc with hc | hc
   ·exact ih _ (by omega) c hc
   ·simp only [List.mem_singleton] at hc;subst hc;rw [ns (by omega)]; omega
theorem AU (u : Nat) : decDigits u ≠ [] := by
 rw [decDigits]; split <;> simp
theorem wc : ∀ (l : Str) (acc v : Nat) (r : Str), parseUint10 acc l = .ok v → parseUint10 acc (l ++ r) = parseUint10 v r
 | [], acc, v, r, h => by simp only [parseUint10, NumEnd.ok.injEq] at h; subst h; rfl
 | c :: l, acc, v, r, h => by
  rw [List.cons_append];rw [parseUint10] at h ⊢;split at h
  ·rename_i h1;rw [if_pos h1];split at h
   ·cases h
   ·rename_i h2;rw [if_neg h2];split at h
    ·cases h
    ·rename_i h3;rw [if_neg h3];exact wc l _ v r h
  ·cases h
theorem wb : ∀ (u : Nat), u < 18446744073709551616 → parseUint10 0 (decDigits u) = .ok u := by
 intro u;induction u using Nat.strongRecOn with
 | _ u ih =>
  intro hu;rw [decDigits];split
  ·rename_i h;rw [parseUint10, ns (by omega), if_pos (by omega), if_neg (by omega), if_neg (by omega), parseUint10];congr 1; omega
  ·rename_i h;rw [wc _ _ _ _ (ih (u / 10) (by omega) (by omega)), parseUint10, ns (by omega), if_pos (by omega), if_neg (by omega), if_neg (by omega), parseUint10];congr 1; omega
variable {n : Int}
theorem wO (h : -9223372036854775808 ≤ n ∧ n ≤ 9223372036854775807) : atoiAll (itoa n) = .ok n := by
 unfold itoa;split
 ·rename_i hn;have hp := wb n.natAbs (by omega);have hm : parseMag (decDigits n.natAbs) = .ok n.natAbs := by rw [parseMag, if_neg (AU _)]; exact hp
  rw [atoiAll_minus, hm];simp only [signed];rw [if_neg (by omega)];congr 1; omega
 ·rename_i hn;have hp := wb n.toNat (by omega);have hd := tF n.toNat;have hm : parseMag (decDigits n.toNat) = .ok n.toNat := by rw [parseMag, if_neg (AU _)]; exact hp
  cases hc : decDigits n.toNat with
  | nil => exact absurd hc (AU _)
  | cons c r =>
   have hcd := hd c (by rw [hc]; exact .head _);rw [hc] at hm;rw [atoiAll_plain c r (by omega) (by omega), hm];simp only [signless];rw [if_neg (by omega)];congr 1; omega
theorem B8 (h : -9223372036854775808 ≤ n ∧ n ≤ 9223372036854775807) : ate (itoa n) = false := by rw [ate, wO h]
theorem B7 (h : -9223372036854775808 ≤ n ∧ n ≤ 9223372036854775807) : atv (itoa n) = n := by rw [atv, wO h]
theorem AH {c : UInt8} (h : c.toNat < 45) : c ∉ itoa n := by
 unfold itoa;intro hc;split at hc
 ·rcases List.mem_cons.1 hc with rfl | hc
  ·exact absurd h (by decide)
  ·have := tF _ c hc; omega
 ·have := tF _ c hc; omega
def glue (c : UInt8) (l : List Str) : Str := l.flatMap (fun t => c :: t)
theorem xZ {c : UInt8} : ∀ (w : Str) (l : List Str), c ∉ w → (∀ t ∈ l, c ∉ t) → spl c (w ++ glue c l) = w :: l
 | w, [], hw, _ => by simp only [glue, List.flatMap_nil, List.append_nil]; exact un hw
 | w, t :: l, hw, hl => by
  have e : w ++ glue c (t :: l) = w ++ c :: (t ++ glue c l) := by simp [glue]
  rw [e, rj _ hw, xZ t l (hl t (.head _)) (fun u hu => hl u (.tail _ hu))]
theorem yy (c : UInt8) : ∀ (n : Nat) (s : Str), s.length ≤ n → ∃ w l, spl c s = w :: l ∧ s = w ++ glue c l
 | n, s, hn => by
  rcases at_c c s with h | ⟨p, r, h1, h2⟩
  ·exact ⟨s, [], un h, by simp [glue]⟩
  ·cases n with
   | zero => rw [h1] at hn; simp at hn
   | succ n =>
    obtain ⟨w, l, h3, h4⟩ := yy c n r (by rw [h1] at hn; simp at hn; omega);refine ⟨p, w :: l, by rw [h1, rj r h2, h3], ?_⟩;rw [h1];conv => lhs; rw [h4]
    simp [glue]
end
end Go.Proofs.YtkjccbdeaflekaaGreatDoor.Fw
