/- Part of this claim. No condition. -/
import Derived.Test.YtkjccbdeaflekaaGreatDoorR7
import Derived.Test.YtkjccbdeaflekaaGreatDoorR5
import Derived.Test.YtkjccbdeaflekaaGreatDoorR3
import Derived.Test.YtkjccbdeaflekaaGreatDoorR4
set_option linter.unusedVariables false
set_option linter.unusedSimpArgs false
set_option maxHeartbeats 2000000
namespace Go.Proofs.YtkjccbdeaflekaaGreatDoor
open Go Go.Proofs.YtkjccbdeaflekaaGreatDoor.Fw Go.Proofs
attribute [local irreducible] CW RW RdL RdN VarP
theorem ww : ∀ {l : List Peer}, hQ l = 0 → ∀ p ∈ l, (0 ≤ p.life ∧ p.life ≤ 50 ∧ 0 ≤ p.seq ∧ p.seq ≤ 30) ∧ (p.life = 0 → p.seq = 0 ∧ p.roots = []) ∧ cm p.roots = 0
 | [], _ => by simp
 | q :: l, h => by
  rw [hQ] at h;cases h1 : (((decide (q.life < 0) || decide (q.life > 50)) || decide (q.seq < 0)) || decide (q.seq > 30)) with
  | true => rw [h1, cond_true] at h; cases h
  | false =>
  rw [h1, cond_false] at h;cases h2 : ((q.life == 0) && (decide (q.seq > 0) || decide ((q.roots.length : Int) > 0))) with
  | true => rw [h2, cond_true] at h; cases h
  | false =>
  rw [h2, cond_false] at h;cases h3 : (cm q.roots != 0) with
  | true => rw [h3, cond_true] at h; rw [h] at h3; cases h3
  | false =>
  rw [h3, cond_false] at h;intro p hp;rcases List.mem_cons.1 hp with rfl | hp
  ·simp only [Bo] at h1;refine ⟨by omega, fun hl => ?_, ag h3⟩;simp only [Bool.and_eq_false_iff, beq_eq_false_iff_ne, Bo] at h2;rcases h2 with h2 | h2
   ·exact absurd hl h2
   ·exact ⟨by omega, List.length_eq_zero_iff.1 (by omega)⟩
  ·exact ww h p hp
variable {h : Hub}
theorem mR (hc : dj h = 0) : ∀ p ∈ h.peers, (0 ≤ p.life ∧ p.life ≤ 50 ∧ 0 ≤ p.seq ∧ p.seq ≤ 30) ∧ (p.life = 0 → p.seq = 0 ∧ p.roots = []) ∧ cm p.roots = 0 := by
 obtain ⟨h1, h2, h3, h4⟩ := gf hc;have e1 : (bz h.h != 0) = false := by rw [h1]; rfl
 have e2 : (decide (h.version < 0) || decide (h.version > 60)) = false := by simp; omega
 have e3 : ((h.peers.length : Int) != 3) = false := by rw [h4]; rfl
 unfold dj at hc;rw [e1, cond_false, e2, cond_false, e3, cond_false] at hc;exact ww hc
theorem DF (hc : dj h = 0) : ∀ p ∈ h.peers, 0 ≤ p.seq ∧ p.seq ≤ 30 := fun p hp => by have := (mR hc p hp).1; omega
variable {r : Rec}
theorem sC (h : aH r = 0) : (r.kind = 1 → 0 ≤ r.o.who ∧ r.o.who < 3) ∧ (r.kind ≠ 1 → 0 ≤ r.who ∧ r.who < 3) ∧ 1 ≤ r.kind ∧ r.kind ≤ 3 ∧ (r.kind ≠ 1 → cm r.roots = 0) := by
 unfold aH at h;cases h1 : (decide (r.kind < 1) || decide (r.kind > 3)) with
 | true => rw [h1, cond_true] at h; cases h
 | false =>
 rw [h1, cond_false] at h;simp only [Bo] at h1;cases h2 : (r.kind == 1) with
 | true =>
  rw [h2, cond_true] at h;have h2 := eq_of_beq h2;cases h3 : (((r.who != 0) || (r.life != 0)) || decide ((r.roots.length : Int) > 0)) with
  | true => rw [h3, cond_true] at h; cases h
  | false =>
   rw [h3, cond_false, fA] at h;have := lL h;exact ⟨fun _ => by omega, fun hn => absurd h2 hn, by omega, by omega, fun hn => absurd h2 hn⟩
 | false =>
  rw [h2, cond_false] at h;have h2 := beq_eq_false_iff_ne.1 h2;cases h3 : (((!(decide (r.o = (⟨0, 0, 0, 0, 0, 0, 0⟩ : Op)))) || ((r.kind == 3) && (r.life != 0))) || ((r.kind == 2) && decide ((r.roots.length : Int) > 0))) with
  | true => rw [h3, cond_true] at h; cases h
  | false =>
   rw [h3, cond_false] at h;cases h4 : ((decide (r.who < 0) || decide (r.who ≥ 3)) || ((r.kind == 2) && (decide (r.life < 1) || decide (r.life > 50)))) with
   | true => rw [h4, cond_true] at h; cases h
   | false =>
    rw [h4, cond_false] at h;simp only [Bo] at h4;exact ⟨fun he => absurd he h2, fun _ => by omega, by omega, by omega, fun _ => h⟩
def ep (h1 : Hub) (o1 : Op) : Int × Hub :=
 (bif (((gt h1.peers o1.who.toNat).life != o1.life) || (((gt h1.peers o1.who.toNat).seq + 1) != o1.seq)) then (7, h1) else (bif ((cv h1.h o1).2 == 0) then ((cv h1.h o1).2, (⟨(cv h1.h o1).1, h1.version, (h1.peers.set o1.who.toNat (⟨(gt h1.peers o1.who.toNat).life, o1.seq, (gt h1.peers o1.who.toNat).roots⟩ : Peer))⟩ : Hub)) else ((cv h1.h o1).2, h1)))
theorem tq (c1 : Nat) (y1 : SlV) (y2 : SlV) (y3 : SlV) (y3b : Option Nat) (γ1 : Nat → SlV) (h1 : Hub) (o1 : Op) (hp : h1.peers.length = 3) (hw : 0 ≤ o1.who ∧ o1.who < 3) (hl : h1.h.l.length ≤ 1000) (hs : ∀ p ∈ h1.peers, 0 ≤ p.seq ∧ p.seq ≤ 30) : Dv 156 [.pointer (some ⟨c1, 0, none⟩), .agg ⟨cO o1⟩] [RdL EStep y1 h1.h.l, RdL EPlace y2 h1.h.t, FactsG NPeer γ1 h1.peers] ⟨[⟨c1, 30, [y1.val h1.h.l.length, y2.val h1.h.t.length, .int .i64 h1.version, y3.val h1.peers.length]⟩], [ownL NPeer.E 84 y3 y3b (zipG γ1 0 h1.peers)]⟩ (fun (X : SlV × SlV × SlV × Option Nat × (Nat → SlV)) => .int .i64 (ep h1 o1).1) (fun X => [RdL EStep X.1 (ep h1 o1).2.h.l, RdL EPlace X.2.1 (ep h1 o1).2.h.t, FactsG NPeer X.2.2.2.2 (ep h1 o1).2.peers]) (fun X => ⟨[⟨c1, 30, [X.1.val (ep h1 o1).2.h.l.length, X.2.1.val (ep h1 o1).2.h.t.length, .int .i64 (ep h1 o1).2.version, X.2.2.1.val (ep h1 o1).2.peers.length]⟩], [ownL NPeer.E 84 X.2.2.1 X.2.2.2.1 (zipG X.2.2.2.2 0 (ep h1 o1).2.peers)]⟩) := by
 refine Dq Tryz.func156 fun C => ?_;refine BxT fun g1 => ?_;refine Tx ?_;have hsb := hs (gt h1.peers o1.who.toNat) (gJ (by omega));refine Rg [] ?_;refine Dx (.range 7) ?_;refine Oq NPeer.E y3 (zipG γ1 0 h1.peers) (Fa 7 []) (Xn o1.who.toNat) ?_;refine Ra 8 rfl Qp ?_;refine Re0 ?_;refine Rg [] ?_;refine Dx [0,1,2] ?_;refine Oq NPeer.E y3 (zipG γ1 0 h1.peers) (Fb 3 [4,5]) (i8 NPeer γ1 (v := .int .i64 (gt h1.peers o1.who.toNat).life) rfl rfl Zf rfl rfl (.head _) Za rfl) ?_;refine Dx (.range' 4 7) ?_;refine rN NPeer.E (e := 84) (X := y3) (b := y3b) (l := zipG γ1 0 h1.peers) Mm (.ab (i := 11) (js := [13, 14]) [12, 15, 16] rfl Kr Kr Kr Kr Kr) (fH rfl rfl rfl) rfl rfl (i8 NPeer γ1 (v := .int .i64 (gt h1.peers o1.who.toNat).seq) rfl rfl Bt rfl rfl (.head _) (by first | (intro _; first | assumption | omega | (simp only [List.length_set]; omega)) | (intro h; simp at h; omega)) rfl) ?_;refine Dx [12,13,14,15,16] ?_;refine Re0 ?_;have hf := Ri (ep.eq_1 h1 o1);refine Ch hf (fun hc1 hf => ?_) fun hc1 hf => ?_
 ·refine Rx ?_; exact Rr ⟨y1, y2, y3, y3b, γ1⟩
 ·refine Tx ?_;refine Jn (Nat × SlV × SlV) [0, 3, 4, 5] [true, true] (fun ⟨g2, x1, x2⟩ => ⟨[(6, .v (.pointer (some ⟨g2, 0, none⟩))), (7, .v (.int .i64 (cv h1.h o1).2))], [⟨g2, 27, [x1.val (cv h1.h o1).1.l.length, x2.val (cv h1.h o1).1.t.length]⟩], [ownL NPeer.E 84 y3 y3b (zipG γ1 0 h1.peers)], [RdL EStep x1 (cv h1.h o1).1.l, RdL EPlace x2 (cv h1.h o1).1.t], True, 0⟩) ?_ ?_
  ·refine Rg [(10,none)] ?_;refine Dx [0,1,2,3,4] ?_;refine Rw 5 9 ?_ ?_
   ·refine Ck (nS y1 y2 h1.h o1 Zc) fun x3 => ?_;refine Qr x3.1 88 fun hlen1 => ?_;refine Qr x3.2 24 fun hlen2 => ?_;refine Dx [6,7] ?_;refine Rp' (Fa 8 [9,10]) ?_;refine Rn 9 ?_;refine AlT fun g3 => ?_;refine Rn 10 ?_;refine Wa ?_;refine Ra 11 rfl Qp ?_;refine Re0 ?_;refine ⟨⟨g3, x3.1, x3.2⟩, trivial, Le4⟩
   ·refine AlT fun g4 => ?_;refine Rn 5 ?_;refine Ck (nS y1 y2 h1.h o1 Zc) fun x4 => ?_;refine Qr x4.1 88 fun hlen3 => ?_;refine Qr x4.2 24 fun hlen4 => ?_;refine Dx [6,7] ?_;refine Rp' (Fa 8 [10]) ?_;refine Rn 10 ?_;refine Wa ?_;refine Ra 11 rfl Qp ?_;refine Re0 ?_;refine ⟨⟨g4, x4.1, x4.2⟩, trivial, Le4⟩
  ·rintro ⟨g2, x1, x2⟩ -;simp only [Lc];refine Ce hf (fun hc2 hc2p hf => ?_) fun hc2 hc2p hf => ?_
   ·refine Rg [(7,none),(10,none)] ?_;refine Ra 0 rfl Qp ?_;refine Rp' (Fa 1 [2,3,4,5,6,7]) ?_;refine Ra 2 rfl XA ?_;refine Rp' (Fa 3 [5,6,7]) ?_;refine Dx [5,6] ?_;refine Rw 4 7 ?_ ?_
    ·refine pO rfl rfl rfl rfl (q_ld1 rfl rfl Zf rfl Mm rfl) ?_;refine Rn 7 ?_;refine Wp ?_;refine Dx [8,9] ?_;refine Rn 10 ?_;refine Wn NPeer γ1 h1.peers o1.who.toNat 1 (γ1 o1.who.toNat) (⟨(gt h1.peers o1.who.toNat).life, o1.seq, (gt h1.peers o1.who.toNat).roots⟩ : Peer) y3b ?_;refine Gg NPeer γ1 o1.who.toNat 0 ?_;refine Fu NPeer γ1 h1.peers o1.who.toNat (γ1 o1.who.toNat) (⟨(gt h1.peers o1.who.toNat).life, o1.seq, (gt h1.peers o1.who.toNat).roots⟩ : Peer) ?_;have hv1 : y3.val h1.peers.length = y3.val (h1.peers.set o1.who.toNat (⟨(gt h1.peers o1.who.toNat).life, o1.seq, (gt h1.peers o1.who.toNat).roots⟩ : Peer)).length := congrArg (SlV.val y3) List.length_set.symm;(try simp only [cB, cC, cW]); try rw [hv1]
     refine Re0 ?_;refine Rx ?_; exact Rr ⟨x1, x2, y3, y3b, (updG γ1 o1.who.toNat (γ1 o1.who.toNat))⟩
    ·refine Wp ?_;refine Dx [4,8,9] ?_;refine Rn 10 ?_;refine Wn NPeer γ1 h1.peers o1.who.toNat 1 (γ1 o1.who.toNat) (⟨(gt h1.peers o1.who.toNat).life, o1.seq, (gt h1.peers o1.who.toNat).roots⟩ : Peer) y3b ?_;refine Gg NPeer γ1 o1.who.toNat 0 ?_;refine Fu NPeer γ1 h1.peers o1.who.toNat (γ1 o1.who.toNat) (⟨(gt h1.peers o1.who.toNat).life, o1.seq, (gt h1.peers o1.who.toNat).roots⟩ : Peer) ?_;have hv2 : y3.val h1.peers.length = y3.val (h1.peers.set o1.who.toNat (⟨(gt h1.peers o1.who.toNat).life, o1.seq, (gt h1.peers o1.who.toNat).roots⟩ : Peer)).length := congrArg (SlV.val y3) List.length_set.symm;(try simp only [cB, cC, cW]); try rw [hv2]
     refine Re0 ?_;refine Rx ?_; exact Rr ⟨x1, x2, y3, y3b, (updG γ1 o1.who.toNat (γ1 o1.who.toNat))⟩
   ·refine Rx ?_; exact Rr ⟨y1, y2, y3, y3b, γ1⟩
def bd (h1 : Hub) (r1 : Rec) : Hub × Int :=
 (bif ((aH r1) != 0) then ((⟨(⟨[], []⟩ : History), 0, ([] : List Peer)⟩ : Hub), (aH r1)) else (bif (h1.version == 60) then ((⟨(⟨[], []⟩ : History), 0, ([] : List Peer)⟩ : Hub), 2) else (bif (r1.kind == 1) then (bif ((ep (⟨h1.h, (h1.version + 1), h1.peers⟩ : Hub) r1.o).1 != 0) then ((⟨(⟨[], []⟩ : History), 0, ([] : List Peer)⟩ : Hub), (ep (⟨h1.h, (h1.version + 1), h1.peers⟩ : Hub) r1.o).1) else ((ep (⟨h1.h, (h1.version + 1), h1.peers⟩ : Hub) r1.o).2, 0)) else (bif (r1.kind == 2) then (bif (r1.life != ((gt h1.peers r1.who.toNat).life + 1)) then ((⟨(⟨[], []⟩ : History), 0, ([] : List Peer)⟩ : Hub), 7) else ((⟨h1.h, (h1.version + 1), (h1.peers.set r1.who.toNat (⟨r1.life, 0, ([] : List Int)⟩ : Peer))⟩ : Hub), 0)) else (bif (r1.kind == 3) then (bif ((gt h1.peers r1.who.toNat).life == 0) then ((⟨(⟨[], []⟩ : History), 0, ([] : List Peer)⟩ : Hub), 5) else ((⟨h1.h, (h1.version + 1), (h1.peers.set r1.who.toNat (⟨(gt h1.peers r1.who.toNat).life, (gt h1.peers r1.who.toNat).seq, r1.roots⟩ : Peer))⟩ : Hub), 0)) else ((⟨h1.h, (h1.version + 1), h1.peers⟩ : Hub), 0))))))
theorem qM (y1 : SlV) (y2 : SlV) (y3 : SlV) (h1 : Hub) (y4 : SlV) (r1 : Rec) (hk : dj h1 = 0) : Dw 109 [.agg ⟨cB y1 y2 y3 h1⟩, .agg ⟨cR y4 r1⟩] [RdL EStep y1 h1.h.l, RdL EPlace y2 h1.h.t, RdN NPeer y3 h1.peers, RdL EInt y4 r1.roots] (fun (X : SlV × SlV × SlV) => .tuple #[.agg ⟨cB X.1 X.2.1 X.2.2 (bd h1 r1).1⟩, .int .i64 (bd h1 r1).2]) (fun X => [RdL EStep X.1 (bd h1 r1).1.h.l, RdL EPlace X.2.1 (bd h1 r1).1.h.t, RdN NPeer X.2.2 (bd h1 r1).1.peers]) := by
 refine Dp Tryz.func109 fun C => ?_;refine Qc y1 88 fun hlen1 => ?_;refine Qc y2 24 fun hlen2 => ?_;refine Qn y3 40 fun hlen3 => ?_;refine Qc y4 8 fun hlen4 => ?_;refine BxT fun g1 => ?_;refine BxT fun g2 => ?_;refine AlT fun g3 => ?_;refine Ck (jb y4 r1) fun _ => ?_;have hf := Ri (bd.eq_1 h1 r1);refine Cn hf (fun hc1 hc1p hf => ?_) fun hc1 hc1p hf => ?_
 ·refine Tx ?_;refine Fc EStep ?_;refine Fc EPlace ?_;refine Ft NPeer ?_;refine Rx ?_; exact Rr ⟨Z0, Z0, Z0⟩
 ·have hnw := sC (ag hc1);have hcl := gf hk;have hcq := mW hcl.1;have hsq := DF hk;refine Ce hf (fun hc2 hc2p hf => ?_) fun hc2 hc2p hf => ?_
  ·refine Tx ?_;refine Fc EStep ?_;refine Fc EPlace ?_;refine Ft NPeer ?_;refine Rx ?_; exact Rr ⟨Z0, Z0, Z0⟩
  ·refine Cm (pT y1 y2 y3 h1) fun x1 => ?_;refine Qr x1.1 88 fun hlen5 => ?_;refine Qr x1.2.1 24 fun hlen6 => ?_;refine Ce hf (fun hc3 hc3p hf => ?_) fun hc3 hc3p hf => ?_
   ·refine Cm (tq g1 x1.1 x1.2.1 x1.2.2.1 x1.2.2.2.1 x1.2.2.2.2 (⟨h1.h, (h1.version + 1), h1.peers⟩ : Hub) r1.o hcl.2.2.2 (hnw.1 (by assumption)) (Nat.le_trans hcq (by omega)) hsq) fun x2 => ?_;refine Cn hf (fun hc4 hc4p hf => ?_) fun hc4 hc4p hf => ?_
    ·refine Tx ?_;refine Fc EStep ?_;refine Fc EPlace ?_;refine Ft NPeer ?_;refine Rx ?_; exact Rr ⟨Z0, Z0, Z0⟩
    ·refine Tx ?_;refine Fz x2.2.2.1 ?_;refine Fj NPeer x2.2.2.1 x2.2.2.2.2 (ep (⟨h1.h, (h1.version + 1), h1.peers⟩ : Hub) r1.o).2.peers ?_;refine Rx ?_; exact Rr ⟨x2.1, x2.2.1, x2.2.2.1⟩
   ·refine Ce hf (fun hc5 hc5p hf => ?_) fun hc5 hc5p hf => ?_
    ·have hlb := (mR hk (gt h1.peers r1.who.toNat) (gJ (by omega))).1;refine Rg [] ?_;refine Dx (.range 6) ?_;refine Oq NPeer.E x1.2.2.1 (zipG x1.2.2.2.2 0 h1.peers) (Fb 6 []) (Xn r1.who.toNat) ?_;refine Rb 7 rfl Xf ?_;refine Oq NPeer.E x1.2.2.1 (zipG x1.2.2.2.2 0 h1.peers) (Fb 8 []) (i8 NPeer x1.2.2.2.2 (v := .int .i64 (gt h1.peers r1.who.toNat).life) rfl rfl Zf rfl rfl (.head _) Za rfl) ?_;refine Dx [9,10] ?_;refine Re0 ?_;refine Cn hf (fun hc6 hc6p hf => ?_) fun hc6 hc6p hf => ?_
     ·refine Tx ?_;refine Oq NPeer.E x1.2.2.1 (zipG x1.2.2.2.2 0 h1.peers) .sq (Xn r1.who.toNat) ?_;refine Fr EInt ?_;refine Wn NPeer x1.2.2.2.2 h1.peers r1.who.toNat 0 Z0 (⟨r1.life, 0, ([] : List Int)⟩ : Peer) x1.2.2.2.1 ?_;refine Fu NPeer x1.2.2.2.2 h1.peers r1.who.toNat Z0 (⟨r1.life, 0, ([] : List Int)⟩ : Peer) ?_;have hv1 : x1.2.2.1.val h1.peers.length = x1.2.2.1.val (h1.peers.set r1.who.toNat (⟨r1.life, 0, ([] : List Int)⟩ : Peer)).length := congrArg (SlV.val x1.2.2.1) List.length_set.symm;(try simp only [cB, cC, cW]); try rw [hv1]
      refine Cd' (fun hc7 => ?_) fun hc7 => ?_
      ·refine Tx ?_;refine Fc EStep ?_;refine Fc EPlace ?_;refine Ft NPeer ?_;refine Rx ?_; exact Rr ⟨Z0, Z0, Z0⟩
      ·exact Bool.noConfusion (hc7.symm.trans (show ((7 : Int) != 0) = true by decide))
     ·refine Tx ?_;refine Oq NPeer.E x1.2.2.1 (zipG x1.2.2.2.2 0 h1.peers) .sq (Xn r1.who.toNat) ?_;refine Fr EInt ?_;refine Wn NPeer x1.2.2.2.2 h1.peers r1.who.toNat 0 Z0 (⟨r1.life, 0, ([] : List Int)⟩ : Peer) x1.2.2.2.1 ?_;refine Fu NPeer x1.2.2.2.2 h1.peers r1.who.toNat Z0 (⟨r1.life, 0, ([] : List Int)⟩ : Peer) ?_;have hv2 : x1.2.2.1.val h1.peers.length = x1.2.2.1.val (h1.peers.set r1.who.toNat (⟨r1.life, 0, ([] : List Int)⟩ : Peer)).length := congrArg (SlV.val x1.2.2.1) List.length_set.symm;(try simp only [cB, cC, cW]); try rw [hv2]
      refine Cd' (fun hc8 => ?_) fun hc8 => ?_
      ·exact Bool.noConfusion (hc8.symm.trans (show ((0 : Int) != 0) = false by decide))
      ·refine Tx ?_;refine Fz x1.2.2.1 ?_;refine Fj NPeer x1.2.2.1 (updG x1.2.2.2.2 r1.who.toNat Z0) (h1.peers.set r1.who.toNat (⟨r1.life, 0, ([] : List Int)⟩ : Peer)) ?_;refine Rx ?_; exact Rr ⟨x1.1, x1.2.1, x1.2.2.1⟩
    ·refine Ce hf (fun hc9 hc9p hf => ?_) fun hc9 hc9p hf => ?_
     ·refine Tx ?_;refine Oq NPeer.E x1.2.2.1 (zipG x1.2.2.2.2 0 h1.peers) .sq (Xn r1.who.toNat) ?_;refine Sq Xf ?_;refine Oq NPeer.E x1.2.2.1 (zipG x1.2.2.2.2 0 h1.peers) .sq (i8 NPeer x1.2.2.2.2 (v := .int .i64 (gt h1.peers r1.who.toNat).life) rfl rfl Zf rfl rfl (.head _) Za rfl) ?_;refine Ce hf (fun hc10 hc10p hf => ?_) fun hc10 hc10p hf => ?_
      ·refine Rg [(9,some x1.2.2.2.1.toList)] ?_;refine Dx (.range 6) ?_;refine Rn 6 ?_;refine Cm (dC y4 r1.roots) fun x3 => ?_;refine Oq NPeer.E x1.2.2.1 (zipG x1.2.2.2.2 0 h1.peers) (Fb 7 []) (Xn r1.who.toNat) ?_;refine Ra 8 rfl Xf ?_;refine Rn 9 ?_;refine Fx x3.1 ?_;refine Wn NPeer x1.2.2.2.2 h1.peers r1.who.toNat 2 x3.1 (⟨(gt h1.peers r1.who.toNat).life, (gt h1.peers r1.who.toNat).seq, r1.roots⟩ : Peer) x1.2.2.2.1 ?_;refine Fu NPeer x1.2.2.2.2 h1.peers r1.who.toNat x3.1 (⟨(gt h1.peers r1.who.toNat).life, (gt h1.peers r1.who.toNat).seq, r1.roots⟩ : Peer) ?_;have hv3 : x1.2.2.1.val h1.peers.length = x1.2.2.1.val (h1.peers.set r1.who.toNat (⟨(gt h1.peers r1.who.toNat).life, (gt h1.peers r1.who.toNat).seq, r1.roots⟩ : Peer)).length := congrArg (SlV.val x1.2.2.1) List.length_set.symm;(try simp only [cB, cC, cW]); try rw [hv3]
       refine Re0 ?_;refine Cd' (fun hc11 => ?_) fun hc11 => ?_
       ·refine Tx ?_;refine Fc EStep ?_;refine Fc EPlace ?_;refine Ft NPeer ?_;refine Rx ?_; exact Rr ⟨Z0, Z0, Z0⟩
       ·exact Bool.noConfusion (hc11.symm.trans (show ((5 : Int) != 0) = true by decide))
      ·refine Rg [(9,some x1.2.2.2.1.toList)] ?_;refine Dx (.range 6) ?_;refine Rn 6 ?_;refine Cm (dC y4 r1.roots) fun x4 => ?_;refine Oq NPeer.E x1.2.2.1 (zipG x1.2.2.2.2 0 h1.peers) (Fb 7 []) (Xn r1.who.toNat) ?_;refine Ra 8 rfl Xf ?_;refine Rn 9 ?_;refine Fx x4.1 ?_;refine Wn NPeer x1.2.2.2.2 h1.peers r1.who.toNat 2 x4.1 (⟨(gt h1.peers r1.who.toNat).life, (gt h1.peers r1.who.toNat).seq, r1.roots⟩ : Peer) x1.2.2.2.1 ?_;refine Fu NPeer x1.2.2.2.2 h1.peers r1.who.toNat x4.1 (⟨(gt h1.peers r1.who.toNat).life, (gt h1.peers r1.who.toNat).seq, r1.roots⟩ : Peer) ?_;have hv4 : x1.2.2.1.val h1.peers.length = x1.2.2.1.val (h1.peers.set r1.who.toNat (⟨(gt h1.peers r1.who.toNat).life, (gt h1.peers r1.who.toNat).seq, r1.roots⟩ : Peer)).length := congrArg (SlV.val x1.2.2.1) List.length_set.symm;(try simp only [cB, cC, cW]); try rw [hv4]
       refine Re0 ?_;refine Cd' (fun hc12 => ?_) fun hc12 => ?_
       ·exact Bool.noConfusion (hc12.symm.trans (show ((0 : Int) != 0) = false by decide))
       ·refine Tx ?_;refine Fz x1.2.2.1 ?_;refine Fj NPeer x1.2.2.1 (updG x1.2.2.2.2 r1.who.toNat x4.1) (h1.peers.set r1.who.toNat (⟨(gt h1.peers r1.who.toNat).life, (gt h1.peers r1.who.toNat).seq, r1.roots⟩ : Peer)) ?_;refine Rx ?_; exact Rr ⟨x1.1, x1.2.1, x1.2.2.1⟩
     ·refine Cd' (fun hc13 => ?_) fun hc13 => ?_
      ·exact Bool.noConfusion (hc13.symm.trans (show ((0 : Int) != 0) = false by decide))
      ·refine Tx ?_;refine Fz x1.2.2.1 ?_;refine Fj NPeer x1.2.2.1 x1.2.2.2.2 h1.peers ?_;refine Rx ?_; exact Rr ⟨x1.1, x1.2.1, x1.2.2.1⟩
def hJ (h1 : Hub) (r1 : Rec) : Hub × Int :=
 (bif ((dj h1) != 0) then ((⟨(⟨[], []⟩ : History), 0, ([] : List Peer)⟩ : Hub), (dj h1)) else ((bd h1 r1).1, (bd h1 r1).2))
theorem qO (y1 : SlV) (y2 : SlV) (y3 : SlV) (h1 : Hub) (y4 : SlV) (r1 : Rec) : Dw 176 [.agg ⟨cB y1 y2 y3 h1⟩, .agg ⟨cR y4 r1⟩] [RdL EStep y1 h1.h.l, RdL EPlace y2 h1.h.t, RdN NPeer y3 h1.peers, RdL EInt y4 r1.roots] (fun (X : SlV × SlV × SlV) => .tuple #[.agg ⟨cB X.1 X.2.1 X.2.2 (hJ h1 r1).1⟩, .int .i64 (hJ h1 r1).2]) (fun X => [RdL EStep X.1 (hJ h1 r1).1.h.l, RdL EPlace X.2.1 (hJ h1 r1).1.h.t, RdN NPeer X.2.2 (hJ h1 r1).1.peers]) := by
 refine Dp Tryz.func176 fun C => ?_;refine Qc y1 88 fun hlen1 => ?_;refine Qc y2 24 fun hlen2 => ?_;refine Qn y3 40 fun hlen3 => ?_;refine Qc y4 8 fun hlen4 => ?_;refine BxT fun g1 => ?_;refine BxT fun g2 => ?_;refine AlT fun g3 => ?_;refine Ck (pV y1 y2 y3 h1) fun _ => ?_;have hf := Ri (hJ.eq_1 h1 r1);refine Cn hf (fun hc1 hc1p hf => ?_) fun hc1 hc1p hf => ?_
 ·refine Tx ?_;refine Fc EStep ?_;refine Fc EPlace ?_;refine Ft NPeer ?_;refine Rx ?_; exact Rr ⟨Z0, Z0, Z0⟩
 ·refine Ck (qM y1 y2 y3 h1 y4 r1 (ag (by assumption))) fun x1 => ?_;refine Qr x1.1 88 fun hlen5 => ?_;refine Qr x1.2.1 24 fun hlen6 => ?_;refine Pm NPeer x1.2.2 (bd h1 r1).1.peers 40 fun hlen7 => ?_;refine Rx ?_; exact Rr ⟨x1.1, x1.2.1, x1.2.2⟩
structure yR (p : Peer) : Prop where
 rng : 0 ≤ p.life ∧ p.life ≤ 50 ∧ 0 ≤ p.seq ∧ p.seq ≤ 30
 new : p.life = 0 → p.seq = 0 ∧ p.roots = []
 roots : cm p.roots = 0
structure IsHub (h : Hub) : Prop where
 hist : bz h.h = 0
 vers : 0 ≤ h.version ∧ h.version ≤ 60
 three : h.peers.length = 3
 peers : ∀ p ∈ h.peers, yR p
theorem wx : ∀ {l : List Peer}, (∀ p ∈ l, yR p) → hQ l = 0
 | [], _ => rfl
 | q :: l, h => by
  obtain ⟨h1, h2, h3⟩ := h q (.head _);have e1 : (((decide (q.life < 0) || decide (q.life > 50)) || decide (q.seq < 0)) || decide (q.seq > 30)) = false := by
   simp only [Bo]; omega
  have e2 : ((q.life == 0) && (decide (q.seq > 0) || decide ((q.roots.length : Int) > 0))) = false := by
   cases hl : (q.life == 0) with
   | false => rfl
   | true =>
    obtain ⟨h4, h5⟩ := h2 (eq_of_beq hl);rw [h4, h5]; rfl
  rw [hQ, e1, cond_false, e2, cond_false, h3];exact wx fun p hp => h p (.tail _ hp)
theorem eo (h : Hub) : dj h = 0 ↔ IsHub h := by
 constructor
 ·intro hc;obtain ⟨h1, h2, h3, h4⟩ := gf hc;exact ⟨h1, ⟨h2, h3⟩, h4, fun p hp => by obtain ⟨a, b, c⟩ := mR hc p hp; exact ⟨a, b, c⟩⟩
 ·intro ⟨h1, h2, h3, h4⟩;have e1 : (bz h.h != 0) = false := by rw [h1]; rfl
  have e2 : (decide (h.version < 0) || decide (h.version > 60)) = false := by simp only [Bo]; omega
  have e3 : ((h.peers.length : Int) != 3) = false := by rw [h3]; rfl
  unfold dj;rw [e1, cond_false, e2, cond_false, e3, cond_false];exact wx h4
theorem s6 (hh : IsHub h) {i : Nat} {q : Peer} (hq : yR q) : ∀ p ∈ h.peers.set i q, yR p := fun p hp => by
 rcases List.mem_or_eq_of_mem_set hp with h1 | h1
 ·exact hh.peers p h1
 ·rw [h1]; exact hq
theorem uU {h : History} (hc : bz h = 0) (o : Op) : fw h o = cv h o := by
 unfold fw;have e1 : (bz h != 0) = false := by rw [hc]; rfl
 rw [e1, cond_false]
variable {o : Op}
theorem Bk {h : History} (hc : bz h = 0) (h0 : (cv h o).2 = 0) : bz (cv h o).1 = 0 := by
 rw [← uU hc] at h0 ⊢;obtain ⟨S, h1, h2, h3, h4, h5, h6⟩ := zD h0;rw [lN, h6.ops];exact h6
theorem A5 (hh : IsHub h) (ho : chkO o = 0) (h0 : (ep h o).1 = 0) : IsHub (ep h o).2 ∧ (ep h o).2.version = h.version := by
 unfold ep at h0 ⊢;cases h1 : (((gt h.peers o.who.toNat).life != o.life) || ((gt h.peers o.who.toNat).seq + 1 != o.seq)) with
 | true => rw [h1, cond_true] at h0; cases h0
 | false =>
 rw [h1, cond_false] at h0;rw [cond_false];cases h2 : ((cv h.h o).2 == 0) with
 | false =>
  rw [h2, cond_false] at h0;simp only at h0;rw [h0] at h2; cases h2
 | true =>
  rw [cond_true];have hc := lL ho;have hm : gt h.peers o.who.toNat ∈ h.peers := gJ (by rw [hh.three]; omega);have hp := hh.peers _ hm;simp only [Bool.or_eq_false_iff, bne_eq_false_iff_eq] at h1;have hr := hp.rng;refine ⟨⟨Bk hh.hist (eq_of_beq h2), hh.vers, by rw [List.length_set]; exact hh.three, s6 hh ⟨?_, ?_, hp.roots⟩⟩, rfl⟩
  ·simp only; omega
  ·simp only; intro hl; omega
theorem vr (hh : IsHub h) (h0 : (bd h r).2 = 0) : IsHub (bd h r).1 ∧ (bd h r).1.version = h.version + 1 := by
 unfold bd at h0 ⊢;cases h1 : (aH r != 0) with
 | true => rw [h1, cond_true] at h0; simp only at h0; rw [h0] at h1; cases h1
 | false =>
 rw [h1, cond_false] at h0;rw [cond_false];obtain ⟨w1, w2, w3, w4, w5⟩ := sC (ag h1);cases h2 : (h.version == 60) with
 | true => rw [h2, cond_true] at h0; cases h0
 | false =>
 rw [h2, cond_false] at h0;rw [cond_false];have hv := hh.vers;have h2 := beq_eq_false_iff_ne.1 h2;have hh' : IsHub ⟨h.h, h.version + 1, h.peers⟩ := ⟨hh.hist, by simp only; omega, hh.three, hh.peers⟩;cases h3 : (r.kind == 1) with
 | true =>
  rw [h3, cond_true] at h0;rw [cond_true];cases h4 : ((ep ⟨h.h, h.version + 1, h.peers⟩ r.o).1 != 0) with
  | true => rw [h4, cond_true] at h0; simp only at h0; rw [h0] at h4; cases h4
  | false =>
   have ho : chkO r.o = 0 := by
    have hn := ag h1;unfold aH at hn;rw [h3, cond_true] at hn;cases h5 : (decide (r.kind < 1) || decide (r.kind > 3)) with
    | true => rw [h5, cond_true] at hn; cases hn
    | false =>
     rw [h5, cond_false] at hn;cases h6 : (((r.who != 0) || (r.life != 0)) || decide ((r.roots.length : Int) > 0)) with
     | true => rw [h6, cond_true] at hn; cases hn
     | false => rw [h6, cond_false, fA] at hn; exact hn
   exact A5 hh' ho (ag h4)
 | false =>
  rw [h3, cond_false] at h0;rw [cond_false];have h3 := beq_eq_false_iff_ne.1 h3;have hw := w2 h3;have hm : gt h.peers r.who.toNat ∈ h.peers := gJ (by rw [hh.three]; omega);have hp := hh.peers _ hm;have hr := hp.rng;cases h4 : (r.kind == 2) with
  | true =>
   rw [h4, cond_true] at h0;rw [cond_true];cases h5 : (r.life != (gt h.peers r.who.toNat).life + 1) with
   | true => rw [h5, cond_true] at h0; cases h0
   | false =>
    have h5 := ag h5;rw [cond_false];have hl : 1 ≤ r.life ∧ r.life ≤ 50 := by
     have hn := ag h1;unfold aH at hn;have e1 : (r.kind == 1) = false := beq_eq_false_iff_ne.2 h3;rw [e1, h4] at hn;cases h6 : (decide (r.kind < 1) || decide (r.kind > 3)) with
     | true => rw [h6, cond_true] at hn; cases hn
     | false =>
      rw [h6, cond_false, cond_false] at hn;simp only [Bool.true_and] at hn;cases h7 : (((!(decide (r.o = (⟨0, 0, 0, 0, 0, 0, 0⟩ : Op)))) || ((r.kind == 3) && (r.life != 0))) || decide ((r.roots.length : Int) > 0)) with
      | true => rw [h7, cond_true] at hn; cases hn
      | false =>
       rw [h7, cond_false] at hn;cases h8 : ((decide (r.who < 0) || decide (r.who ≥ 3)) || (decide (r.life < 1) || decide (r.life > 50))) with
       | true => rw [h8, cond_true] at hn; cases hn
       | false => simp only [Bo] at h8; omega
    exact ⟨⟨hh.hist, by simp only; omega, by rw [List.length_set]; exact hh.three, s6 hh ⟨by simp only; omega, fun hz => by simp only at hz; omega, rfl⟩⟩, rfl⟩
  | false =>
   rw [h4, cond_false] at h0;rw [cond_false];cases h5 : (r.kind == 3) with
   | false => exact ⟨hh', rfl⟩
   | true =>
    rw [h5, cond_true] at h0;rw [cond_true];cases h6 : ((gt h.peers r.who.toNat).life == 0) with
    | true => rw [h6, cond_true] at h0; cases h0
    | false =>
     have h6 := beq_eq_false_iff_ne.1 h6;rw [cond_false];exact ⟨⟨hh.hist, by simp only; omega, by rw [List.length_set]; exact hh.three, s6 hh ⟨hp.rng, fun hz => absurd hz h6, w5 h3⟩⟩, rfl⟩
theorem mT : IsHub ⟨⟨[], []⟩, 0, [⟨0, 0, []⟩, ⟨0, 0, []⟩, ⟨0, 0, []⟩]⟩ :=
 ⟨by decide +kernel, by decide, rfl, fun p hp => by
  simp only [List.mem_cons, List.not_mem_nil, or_false, or_self] at hp;subst hp;exact ⟨by decide, fun _ => ⟨rfl, rfl⟩, by decide +kernel⟩⟩
def ey (h1 : Hub) (r1 : Rec) : List Step → (Hub × Int)
 | [] => (bif ((aR ((av h1.h) ++ [r1.o])).2 != 0) then ((⟨(⟨[], []⟩ : History), 0, ([] : List Peer)⟩ : Hub), (aR ((av h1.h) ++ [r1.o])).2) else ((⟨(aR ((av h1.h) ++ [r1.o])).1, (h1.version + 1), (h1.peers.set r1.o.who.toNat (⟨(gt h1.peers r1.o.who.toNat).life, ((gt h1.peers r1.o.who.toNat).seq + 1), (gt h1.peers r1.o.who.toNat).roots⟩ : Peer))⟩ : Hub), 0))
 | pn1 :: rn1 => (bif decide ((⟨pn1.o.time, pn1.o.who⟩ : Stamp) = (⟨r1.o.time, r1.o.who⟩ : Stamp)) then ((⟨(⟨[], []⟩ : History), 0, ([] : List Peer)⟩ : Hub), 6) else (ey h1 r1 rn1))
def aM (h1 : Hub) (r1 : Rec) : Hub × Int :=
 (bif (h1.version == 60) then ((⟨(⟨[], []⟩ : History), 0, ([] : List Peer)⟩ : Hub), 2) else (bif (r1.kind == 1) then (bif ((r1.o.life != (gt h1.peers r1.o.who.toNat).life) || (r1.o.seq != ((gt h1.peers r1.o.who.toNat).seq + 1))) then ((⟨(⟨[], []⟩ : History), 0, ([] : List Peer)⟩ : Hub), 7) else (ey h1 r1 h1.h.l)) else (bif (r1.kind == 2) then (bif (((gt h1.peers r1.who.toNat).life + 1) != r1.life) then ((⟨(⟨[], []⟩ : History), 0, ([] : List Peer)⟩ : Hub), 7) else ((⟨h1.h, (h1.version + 1), (h1.peers.set r1.who.toNat (⟨r1.life, 0, ([] : List Int)⟩ : Peer))⟩ : Hub), 0)) else (bif (r1.kind == 3) then (bif decide ((gt h1.peers r1.who.toNat).life < 1) then ((⟨(⟨[], []⟩ : History), 0, ([] : List Peer)⟩ : Hub), 5) else ((⟨h1.h, (h1.version + 1), (h1.peers.set r1.who.toNat (⟨(gt h1.peers r1.who.toNat).life, (gt h1.peers r1.who.toNat).seq, r1.roots⟩ : Peer))⟩ : Hub), 0)) else ((⟨h1.h, (h1.version + 1), h1.peers⟩ : Hub), 0)))))
theorem j8 (y1 : SlV) (y2 : SlV) (y3 : SlV) (h1 : Hub) (y4 : SlV) (r1 : Rec) (hk : dj h1 = 0) (hn : aH r1 = 0) : Dw 50 [.agg ⟨cB y1 y2 y3 h1⟩, .agg ⟨cR y4 r1⟩] [RdL EStep y1 h1.h.l, RdL EPlace y2 h1.h.t, RdN NPeer y3 h1.peers, RdL EInt y4 r1.roots] (fun (X : SlV × SlV × SlV) => .tuple #[.agg ⟨cB X.1 X.2.1 X.2.2 (aM h1 r1).1⟩, .int .i64 (aM h1 r1).2]) (fun X => [RdL EStep X.1 (aM h1 r1).1.h.l, RdL EPlace X.2.1 (aM h1 r1).1.h.t, RdN NPeer X.2.2 (aM h1 r1).1.peers]) := by
 refine Dp Tryz.func50 fun C => ?_;refine Qc y1 88 fun hlen1 => ?_;refine Qc y2 24 fun hlen2 => ?_;refine Qn y3 40 fun hlen3 => ?_;refine Qc y4 8 fun hlen4 => ?_;have hcl := gf hk;have hcq := mW hcl.1;have hnw := sC hn;have hpb := mR hk;have hpl := hcl.2.2.2;have hol := oL h1.h;refine BxT fun g1 => ?_;refine BxT fun g2 => ?_;refine AlT fun g3 => ?_;have hf := Ri (aM.eq_1 h1 r1);refine Ce hf (fun hc1 hc1p hf => ?_) fun hc1 hc1p hf => ?_
 ·refine Tx ?_;refine Fc EStep ?_;refine Fc EPlace ?_;refine Ft NPeer ?_;refine Rx ?_; exact Rr ⟨Z0, Z0, Z0⟩
 ·refine Bl NPeer.E [] fun x1 x1b => ?_;refine Tx ?_;refine Ex NPeer y3 fun (γ1 : Nat → SlV) => ?_;refine Aq NPeer y3 x1b fun x2 x2b => ?_;refine AlT fun g4 => ?_;refine Ce hf (fun hc2 hc2p hf => ?_) fun hc2 hc2p hf => ?_
  ·have hw1 := hnw.1 (eq_of_beq hc2);have hsb := (hpb (gt h1.peers r1.o.who.toNat) (gJ (by omega))).1;refine Tx ?_;refine Oq NPeer.E x2 (zipG γ1 0 h1.peers) .sq (Xn r1.o.who.toNat) ?_;refine Rg [] ?_;refine Dx (.range 6) ?_;refine Oq NPeer.E x2 (zipG γ1 0 h1.peers) (Fb 6 []) (i8 NPeer γ1 (v := .int .i64 (gt h1.peers r1.o.who.toNat).life) rfl rfl Zf rfl rfl (.head _) Za rfl) ?_;refine Dx (.range' 7 8) ?_;refine rN NPeer.E (e := 84) (X := x2) (b := x2b) (l := zipG γ1 0 h1.peers) Mm (.ab (i := 15) (js := []) [16, 17, 18] rfl Kr Kr Kr Kr Kr) (fH rfl rfl rfl) rfl rfl (i8 NPeer γ1 (v := .int .i64 (gt h1.peers r1.o.who.toNat).seq) rfl rfl Bt rfl rfl (.head _) (by first | (intro _; first | assumption | omega | (simp only [List.length_set]; omega)) | (intro h; simp at h; omega)) rfl) ?_;refine Dx [16,17,18] ?_;refine Re0 ?_;refine Ch hf (fun hc3 hf => ?_) fun hc3 hf => ?_
   ·refine Tx ?_;refine Fc EStep ?_;refine Fc EPlace ?_;refine Ft NPeer ?_;refine Rx ?_; exact Rr ⟨Z0, Z0, Z0⟩
   ·refine Lq Nat [2,3,4,5,7,8,60,61] [true, true, true, true] (fun n1 => ⟨[(62, .v (.int .i64 (n1 : Int)))], [], [ownL NPeer.E 84 x2 x2b (zipG γ1 0 h1.peers)], [], (n1 ≤ h1.h.l.length) ∧ (ey h1 r1 (h1.h.l.drop n1)) = (aM h1 r1), h1.h.l.length - n1⟩) 0 ⟨N0, hf.symm⟩ ?_;rintro n1 ⟨hkn1, hf1⟩;simp only [Lc];refine Cu (fun hlt0 => ?_) fun hge0 => ?_
    ·refine Sy Tz (Xi n1) ?_;refine Sq Xa ?_;refine AlT fun g5 => ?_;refine Sy Tz (q_eqE tB (oW (⟨(gt h1.h.l n1).o.time, (gt h1.h.l n1).o.who⟩ : Stamp) (⟨r1.o.time, r1.o.who⟩ : Stamp)) rfl rfl Zf rfl Zf rfl rfl) ?_;refine eF ?_;have hf := Ri hf1.symm;rw [aK hlt0, ey] at hf;refine Cp hf (fun hc5 hc5p hf => ?_) fun hc5 hc5p hf => ?_
     ·refine Tx ?_;refine Fc EStep ?_;refine Fc EPlace ?_;refine Ft NPeer ?_;refine Rx ?_; exact Rr ⟨Z0, Z0, Z0⟩
     ·refine Tt ?_;refine ⟨(n1 + 1), ⟨hlt0, hf.symm⟩, Oo, Le4⟩
    ·refine Tx ?_;refine Jn (Nat × SlV × SlV) [4, 5, 7, 8] [true, true, true, true] (fun ⟨g6, x3, x4⟩ => ⟨[(11, .v (.pointer (some ⟨g6, 0, none⟩))), (12, .v (.int .i64 (aR ((av h1.h) ++ [r1.o])).2))], [⟨g6, 27, [x3.val (aR ((av h1.h) ++ [r1.o])).1.l.length, x4.val (aR ((av h1.h) ++ [r1.o])).1.t.length]⟩], [ownL NPeer.E 84 x2 x2b (zipG γ1 0 h1.peers)], [RdL EStep x3 (aR ((av h1.h) ++ [r1.o])).1.l, RdL EPlace x4 (aR ((av h1.h) ++ [r1.o])).1.t], True, 0⟩) ?_ ?_
     ·refine Rg [(6,none),(12,none)] ?_;refine Dx [0,1,3,4] ?_;refine vi 2 5 11 Kr ?_ ?_ ?_
      ·refine Cm (fM y1 y2 h1.h) fun x5 => ?_;refine Rw 5 11 ?_ ?_
       ·refine Bl EOp [r1.o] fun x6 x6b => ?_;refine Rw 6 11 ?_ ?_
        ·refine Ap EOp 56 (av h1.h) [r1.o] x5.2 fun x7 x7b => ?_;refine Rw 7 11 ?_ ?_
         ·refine Fx x7 ?_;refine Ck (cN x7 ((av h1.h) ++ [r1.o])) fun x8 => ?_;refine Qr x8.1 88 fun hlen5 => ?_;refine Qr x8.2 24 fun hlen6 => ?_;refine Dx [8,9] ?_;refine Rp' (Fa 10 [11,12]) ?_;refine Rn 11 ?_;refine AlT fun g7 => ?_;refine Rn 12 ?_;refine Wa ?_;refine Ra 13 rfl Qp ?_;refine Re0 ?_;refine ⟨⟨g7, x8.1, x8.2⟩, trivial, Le4⟩
         ·refine AlT fun g8 => ?_;refine Rn 7 ?_;refine Fx x7 ?_;refine Ck (cN x7 ((av h1.h) ++ [r1.o])) fun x9 => ?_;refine Qr x9.1 88 fun hlen7 => ?_;refine Qr x9.2 24 fun hlen8 => ?_;refine Dx [8,9] ?_;refine Rp' (Fa 10 [12]) ?_;refine Rn 12 ?_;refine Wa ?_;refine Ra 13 rfl Qp ?_;refine Re0 ?_;refine ⟨⟨g8, x9.1, x9.2⟩, trivial, Le4⟩
        ·refine AlT fun g9 => ?_;refine Rn 6 ?_;refine Ap EOp 56 (av h1.h) [r1.o] x5.2 fun x10 x10b => ?_;refine Rn 7 ?_;refine Fx x10 ?_;refine Ck (cN x10 ((av h1.h) ++ [r1.o])) fun x11 => ?_;refine Qr x11.1 88 fun hlen9 => ?_;refine Qr x11.2 24 fun hlen10 => ?_;refine Dx [8,9] ?_;refine Rp' (Fa 10 [12]) ?_;refine Rn 12 ?_;refine Wa ?_;refine Ra 13 rfl Qp ?_;refine Re0 ?_;refine ⟨⟨g9, x11.1, x11.2⟩, trivial, Le4⟩
       ·refine AlT fun g10 => ?_;refine Rn 5 ?_;refine Bl EOp [r1.o] fun x12 x12b => ?_;refine Rn 6 ?_;refine Ap EOp 56 (av h1.h) [r1.o] x5.2 fun x13 x13b => ?_;refine Rn 7 ?_;refine Fx x13 ?_;refine Ck (cN x13 ((av h1.h) ++ [r1.o])) fun x14 => ?_;refine Qr x14.1 88 fun hlen11 => ?_;refine Qr x14.2 24 fun hlen12 => ?_;refine Dx [8,9] ?_;refine Rp' (Fa 10 [12]) ?_;refine Rn 12 ?_;refine Wa ?_;refine Ra 13 rfl Qp ?_;refine Re0 ?_;refine ⟨⟨g10, x14.1, x14.2⟩, trivial, Le4⟩
      ·refine Bl EOp [r1.o] fun x15 x15b => ?_;refine Rw 2 11 ?_ ?_
       ·refine Cm (fM y1 y2 h1.h) fun x16 => ?_;refine Rw 6 11 ?_ ?_
        ·refine Ap EOp 56 (av h1.h) [r1.o] x16.2 fun x17 x17b => ?_;refine Rw 7 11 ?_ ?_
         ·refine Fx x17 ?_;refine Ck (cN x17 ((av h1.h) ++ [r1.o])) fun x18 => ?_;refine Qr x18.1 88 fun hlen13 => ?_;refine Qr x18.2 24 fun hlen14 => ?_;refine Dx [8,9] ?_;refine Rp' (Fa 10 [11,12]) ?_;refine Rn 11 ?_;refine AlT fun g11 => ?_;refine Rn 12 ?_;refine Wa ?_;refine Ra 13 rfl Qp ?_;refine Re0 ?_;refine ⟨⟨g11, x18.1, x18.2⟩, trivial, Le4⟩
         ·refine AlT fun g12 => ?_;refine Rn 7 ?_;refine Fx x17 ?_;refine Ck (cN x17 ((av h1.h) ++ [r1.o])) fun x19 => ?_;refine Qr x19.1 88 fun hlen15 => ?_;refine Qr x19.2 24 fun hlen16 => ?_;refine Dx [8,9] ?_;refine Rp' (Fa 10 [12]) ?_;refine Rn 12 ?_;refine Wa ?_;refine Ra 13 rfl Qp ?_;refine Re0 ?_;refine ⟨⟨g12, x19.1, x19.2⟩, trivial, Le4⟩
        ·refine AlT fun g13 => ?_;refine Rn 6 ?_;refine Ap EOp 56 (av h1.h) [r1.o] x16.2 fun x20 x20b => ?_;refine Rn 7 ?_;refine Fx x20 ?_;refine Ck (cN x20 ((av h1.h) ++ [r1.o])) fun x21 => ?_;refine Qr x21.1 88 fun hlen17 => ?_;refine Qr x21.2 24 fun hlen18 => ?_;refine Dx [8,9] ?_;refine Rp' (Fa 10 [12]) ?_;refine Rn 12 ?_;refine Wa ?_;refine Ra 13 rfl Qp ?_;refine Re0 ?_;refine ⟨⟨g13, x21.1, x21.2⟩, trivial, Le4⟩
       ·refine AlT fun g14 => ?_;refine Rn 2 ?_;refine Cm (fM y1 y2 h1.h) fun x22 => ?_;refine Rn 6 ?_;refine Ap EOp 56 (av h1.h) [r1.o] x22.2 fun x23 x23b => ?_;refine Rn 7 ?_;refine Fx x23 ?_;refine Ck (cN x23 ((av h1.h) ++ [r1.o])) fun x24 => ?_;refine Qr x24.1 88 fun hlen19 => ?_;refine Qr x24.2 24 fun hlen20 => ?_;refine Dx [8,9] ?_;refine Rp' (Fa 10 [12]) ?_;refine Rn 12 ?_;refine Wa ?_;refine Ra 13 rfl Qp ?_;refine Re0 ?_;refine ⟨⟨g14, x24.1, x24.2⟩, trivial, Le4⟩
      ·refine AlT fun g15 => ?_;refine Rw 2 5 ?_ ?_
       ·refine Cm (fM y1 y2 h1.h) fun x25 => ?_;refine Rn 5 ?_;refine Bl EOp [r1.o] fun x26 x26b => ?_;refine Rn 6 ?_;refine Ap EOp 56 (av h1.h) [r1.o] x25.2 fun x27 x27b => ?_;refine Rn 7 ?_;refine Fx x27 ?_;refine Ck (cN x27 ((av h1.h) ++ [r1.o])) fun x28 => ?_;refine Qr x28.1 88 fun hlen21 => ?_;refine Qr x28.2 24 fun hlen22 => ?_;refine Dx [8,9] ?_;refine Rp' (Fa 10 [12]) ?_;refine Rn 12 ?_;refine Wa ?_;refine Ra 13 rfl Qp ?_;refine Re0 ?_;refine ⟨⟨g15, x28.1, x28.2⟩, trivial, Le4⟩
       ·refine Bl EOp [r1.o] fun x29 x29b => ?_;refine Rn 2 ?_;refine Cm (fM y1 y2 h1.h) fun x30 => ?_;refine Rn 6 ?_;refine Ap EOp 56 (av h1.h) [r1.o] x30.2 fun x31 x31b => ?_;refine Rn 7 ?_;refine Fx x31 ?_;refine Ck (cN x31 ((av h1.h) ++ [r1.o])) fun x32 => ?_;refine Qr x32.1 88 fun hlen23 => ?_;refine Qr x32.2 24 fun hlen24 => ?_;refine Dx [8,9] ?_;refine Rp' (Fa 10 [12]) ?_;refine Rn 12 ?_;refine Wa ?_;refine Ra 13 rfl Qp ?_;refine Re0 ?_;refine ⟨⟨g15, x32.1, x32.2⟩, trivial, Le4⟩
     ·rintro ⟨g6, x3, x4⟩ -;simp only [Lc];have hf := Ri hf1.symm;rw [Dl hge0, ey] at hf;refine Cn hf (fun hc6 hc6p hf => ?_) fun hc6 hc6p hf => ?_
      ·refine Tx ?_;refine Fc EStep ?_;refine Fc EPlace ?_;refine Ft NPeer ?_;refine Rx ?_; exact Rr ⟨Z0, Z0, Z0⟩
      ·refine Tx ?_;refine Wp ?_;refine Sy Tz Xf ?_;refine Oq NPeer.E x2 (zipG γ1 0 h1.peers) .sq (i8 NPeer γ1 (v := .int .i64 (gt h1.peers r1.o.who.toNat).seq) rfl rfl Zf rfl rfl (.head _) Za rfl) ?_;refine Sy Tz Xf ?_;refine Wn NPeer γ1 h1.peers r1.o.who.toNat 1 (γ1 r1.o.who.toNat) (⟨(gt h1.peers r1.o.who.toNat).life, ((gt h1.peers r1.o.who.toNat).seq + 1), (gt h1.peers r1.o.who.toNat).roots⟩ : Peer) x2b ?_;refine Gg NPeer γ1 r1.o.who.toNat 0 ?_;refine Fu NPeer γ1 h1.peers r1.o.who.toNat (γ1 r1.o.who.toNat) (⟨(gt h1.peers r1.o.who.toNat).life, ((gt h1.peers r1.o.who.toNat).seq + 1), (gt h1.peers r1.o.who.toNat).roots⟩ : Peer) ?_;have hv1 : x2.val h1.peers.length = x2.val (h1.peers.set r1.o.who.toNat (⟨(gt h1.peers r1.o.who.toNat).life, ((gt h1.peers r1.o.who.toNat).seq + 1), (gt h1.peers r1.o.who.toNat).roots⟩ : Peer)).length := congrArg (SlV.val x2) List.length_set.symm;try rw [hv1]
       refine Tx ?_;refine Fz x2 ?_;refine Fj NPeer x2 (updG γ1 r1.o.who.toNat (γ1 r1.o.who.toNat)) (h1.peers.set r1.o.who.toNat (⟨(gt h1.peers r1.o.who.toNat).life, ((gt h1.peers r1.o.who.toNat).seq + 1), (gt h1.peers r1.o.who.toNat).roots⟩ : Peer)) ?_;refine Rx ?_; exact Rr ⟨x3, x4, x2⟩
  ·have hw2 := hnw.2.1 (ne_of_beq_false hc2);have hlb := (hpb (gt h1.peers r1.who.toNat) (gJ (by omega))).1;refine Ce hf (fun hc7 hc7p hf => ?_) fun hc7 hc7p hf => ?_
   ·refine Rg [] ?_;refine Dx [0,1,2] ?_;refine Oq NPeer.E x2 (zipG γ1 0 h1.peers) (Fb 3 [7,8]) (Xn r1.who.toNat) ?_;refine Rb 4 rfl Xf ?_;refine Oq NPeer.E x2 (zipG γ1 0 h1.peers) (Fb 5 [7,8]) (i8 NPeer γ1 (v := .int .i64 (gt h1.peers r1.who.toNat).life) rfl rfl Zf rfl rfl (.head _) Za rfl) ?_;refine Dx [6,7,8,9] ?_;refine Re0 ?_;refine Cn hf (fun hc8 hc8p hf => ?_) fun hc8 hc8p hf => ?_
    ·refine Tx ?_;refine Fc EStep ?_;refine Fc EPlace ?_;refine Ft NPeer ?_;refine Rx ?_; exact Rr ⟨Z0, Z0, Z0⟩
    ·refine Tx ?_;refine Oq NPeer.E x2 (zipG γ1 0 h1.peers) .sq (Xn r1.who.toNat) ?_;refine Fr EInt ?_;refine Wn NPeer γ1 h1.peers r1.who.toNat 0 Z0 (⟨r1.life, 0, ([] : List Int)⟩ : Peer) x2b ?_;refine Fu NPeer γ1 h1.peers r1.who.toNat Z0 (⟨r1.life, 0, ([] : List Int)⟩ : Peer) ?_;have hv2 : x2.val h1.peers.length = x2.val (h1.peers.set r1.who.toNat (⟨r1.life, 0, ([] : List Int)⟩ : Peer)).length := congrArg (SlV.val x2) List.length_set.symm;try rw [hv2]
     refine Tx ?_;refine Fz x2 ?_;refine Fj NPeer x2 (updG γ1 r1.who.toNat Z0) (h1.peers.set r1.who.toNat (⟨r1.life, 0, ([] : List Int)⟩ : Peer)) ?_;refine Rx ?_; exact Rr ⟨y1, y2, x2⟩
   ·refine Ce hf (fun hc9 hc9p hf => ?_) fun hc9 hc9p hf => ?_
    ·refine Tx ?_;refine Oq NPeer.E x2 (zipG γ1 0 h1.peers) .sq (Xn r1.who.toNat) ?_;refine Sq Xf ?_;refine Oq NPeer.E x2 (zipG γ1 0 h1.peers) .sq (i8 NPeer γ1 (v := .int .i64 (gt h1.peers r1.who.toNat).life) rfl rfl Zf rfl rfl (.head _) Za rfl) ?_;refine Cp hf (fun hc10 hc10p hf => ?_) fun hc10 hc10p hf => ?_
     ·refine Tx ?_;refine Fc EStep ?_;refine Fc EPlace ?_;refine Ft NPeer ?_;refine Rx ?_; exact Rr ⟨Z0, Z0, Z0⟩
     ·refine Tx ?_;refine Oq NPeer.E x2 (zipG γ1 0 h1.peers) .sq (Xn r1.who.toNat) ?_;refine Sq Xf ?_;refine Wn NPeer γ1 h1.peers r1.who.toNat 2 y4 (⟨(gt h1.peers r1.who.toNat).life, (gt h1.peers r1.who.toNat).seq, r1.roots⟩ : Peer) x2b ?_;refine Fu NPeer γ1 h1.peers r1.who.toNat y4 (⟨(gt h1.peers r1.who.toNat).life, (gt h1.peers r1.who.toNat).seq, r1.roots⟩ : Peer) ?_;have hv3 : x2.val h1.peers.length = x2.val (h1.peers.set r1.who.toNat (⟨(gt h1.peers r1.who.toNat).life, (gt h1.peers r1.who.toNat).seq, r1.roots⟩ : Peer)).length := congrArg (SlV.val x2) List.length_set.symm;try rw [hv3]
      refine Tx ?_;refine Fz x2 ?_;refine Fj NPeer x2 (updG γ1 r1.who.toNat y4) (h1.peers.set r1.who.toNat (⟨(gt h1.peers r1.who.toNat).life, (gt h1.peers r1.who.toNat).seq, r1.roots⟩ : Peer)) ?_;refine Rx ?_; exact Rr ⟨y1, y2, x2⟩
    ·refine Tx ?_;refine Fz x2 ?_;refine Fj NPeer x2 γ1 h1.peers ?_;refine Rx ?_; exact Rr ⟨y1, y2, x2⟩
def fZ (h1 : History) : Int :=
 (bif (((aR (av h1)).2 == 0) && (!(ge (aR (av h1)).1 h1))) then 4 else (aR (av h1)).2)
def dc (h1 : History) (o1 : Op) : List Step → (History × Int)
 | [] => ((aR ((av h1) ++ [o1])).1, (aR ((av h1) ++ [o1])).2)
 | pn1 :: rn1 => (bif decide ((⟨pn1.o.time, pn1.o.who⟩ : Stamp) = (⟨o1.time, o1.who⟩ : Stamp)) then ((⟨([] : List Step), ([] : List Place)⟩ : History), 6) else (dc h1 o1 rn1))
def ju (h1 : History) (o1 : Op) : History × Int :=
 (bif ((fZ h1) != 0) then ((⟨([] : List Step), ([] : List Place)⟩ : History), (fZ h1)) else (bif ((aG o1) != 0) then ((⟨([] : List Step), ([] : List Place)⟩ : History), (aG o1)) else (dc h1 o1 h1.l)))
def rk (o : Op) : Int := eE (⟨o.time, o.who⟩ : Stamp)
theorem rk_eq (o : Op) : rk o = o.time * 3 + o.who := rfl
variable {a b : Op}
theorem rk_lt (ha : chkO a = 0) (hb : chkO b = 0) : rk a < rk b ↔ before a b = true := by
 have h1 := lL ha;have h2 := lL hb;rw [ln, rk_eq, rk_eq]; omega
theorem rk_inj (ha : chkO a = 0) (hb : chkO b = 0) (h : rk a = rk b) : stamp a = stamp b := by
 have h1 := lL ha;have h2 := lL hb;rw [rk_eq, rk_eq] at h;unfold stamp;congr 1 <;> omega
theorem mA (l : List Op) (last : Int) : ∀ (r : List Op) (n : Nat) (best : Int), r = l.drop n → (best = -1 ∧ (∀ i, i < n → i < l.length → rk (gt l i) ≤ last) ∨ (0 ≤ best ∧ best < l.length ∧ rk (gt l best.toNat) > last ∧ ∀ i, i < n → i < l.length → rk (gt l i) > last → rk (gt l best.toNat) ≤ rk (gt l i))) →
  let b := aj l last r n best
  (b = -1 ∧ (∀ i, i < l.length → rk (gt l i) ≤ last) ∨ (0 ≤ b ∧ b < l.length ∧ rk (gt l b.toNat) > last ∧ ∀ i, i < l.length → rk (gt l i) > last → rk (gt l b.toNat) ≤ rk (gt l i)))
 | [], n, best, hd, h => by
  have hn : l.length ≤ n := by have := congrArg List.length hd; simp at this; omega
  simp only [aj];rcases h with ⟨h1, h2⟩ | ⟨h1, h2, h3, h4⟩
  ·exact .inl ⟨h1, fun i hi => h2 i (by omega) hi⟩
  ·exact .inr ⟨h1, h2, h3, fun i hi => h4 i (by omega) hi⟩
 | p :: r, n, best, hd, h => by
  have hn : n < l.length := by
   rcases Nat.lt_or_ge n l.length with h | h
   ·exact h
   ·rw [Dl h] at hd; cases hd
  rw [aK hn] at hd;obtain ⟨rfl, hd'⟩ := List.cons.inj hd;simp only [aj];simp only [show ∀ o : Op, eE (⟨o.time, o.who⟩ : Stamp) = rk o from fun _ => rfl];cases hc : (decide (rk (gt l n) > last) && (decide (best < 0) || decide (rk (gt l n) < rk (gt l best.toNat)))) with
  | true =>
   simp only [Bool.and_eq_true, Bq] at hc;simp only [cond_true];refine mA l last r (n + 1) (n : Int) hd' (.inr ⟨by omega, by omega, by simpa using hc.1, fun i hi hil hgt => ?_⟩);rw [show (n : Int).toNat = n by simp];by_cases hin : i = n
   ·rw [hin]; exact Int.le_refl _
   ·rcases h with ⟨h1, h2⟩ | ⟨h1, h2, h3, h4⟩
    ·have := h2 i (by omega) hil; omega
    ·have := h4 i (by omega) hil hgt;rcases hc.2 with hc2 | hc2 <;> omega
  | false =>
   simp only [Bool.and_eq_false_iff, Bo] at hc;simp only [cond_false];refine mA l last r (n + 1) best hd' ?_;rcases h with ⟨h1, h2⟩ | ⟨h1, h2, h3, h4⟩
   ·refine .inl ⟨h1, fun i hi hil => ?_⟩;by_cases hin : i = n
    ·rw [hin]; omega
    ·exact h2 i (by omega) hil
   ·refine .inr ⟨h1, h2, h3, fun i hi hil hgt => ?_⟩;by_cases hin : i = n
    ·rw [hin] at hgt ⊢; omega
    ·exact h4 i (by omega) hil hgt
theorem s5 : ∀ {A B : List Op}, A.Nodup → (∀ x ∈ A, x ∈ B) → B.length ≤ A.length → A.Perm B
 | [], B, _, _, hl => by
  have : B = [] := List.length_eq_zero_iff.1 (by simpa using hl);rw [this]
 | a :: A, B, hn, hs, hl => by
  obtain ⟨hna, hn'⟩ := List.nodup_cons.1 hn;have ha := hs a (.head _);have h1 : ∀ x ∈ A, x ∈ B.erase a := fun x hx => (List.mem_erase_of_ne (fun e : x = a => hna (by rw [← e]; exact hx))).2 (hs x (.tail _ hx));have h2 : (B.erase a).length = B.length - 1 := List.length_erase_of_mem ha;simp only [List.length_cons] at hl;exact ((s5 hn' h1 (by omega)).cons a).trans (List.perm_cons_erase ha).symm
theorem Rise.nodup {l : List Op} (h : Rise l) : l.Nodup := h.imp fun {a b} hab e => by rw [e, zu] at hab; cases hab
theorem pY (l : List Op) (hc : ∀ o ∈ l, chkO o = 0) : ∀ (f : Nat) (last : Int) (P : List Op), l.length - P.length < f → P.length ≤ l.length → Rise P → (∀ p ∈ P, p ∈ l) → (∀ p ∈ P, rk p ≤ last) → (∀ o ∈ l, rk o ≤ last → ∃ p ∈ P, stamp p = stamp o) →
  (dF l f last (run e0 P).l (run e0 P).t = (e0, 6) ∧ ¬ Dist l) ∨ ∃ S, Rise S ∧ S.Perm l ∧ dF l f last (run e0 P).l (run e0 P).t = (run e0 S, 0)
 | 0, _, _, h, _, _, _, _, _ => by omega
 | f + 1, last, P, hf, hl, hr, hs, hle, hall => by
  have hlen : (run e0 P).l.length = P.length := by rw [zY]; simp [e0]
  have hcP : ∀ p ∈ P, chkO p = 0 := fun p hp => hc p (hs p hp);rw [dF];cases h1 : decide (((run e0 P).l.length : Int) < (l.length : Int)) with
  | false =>
   have h1 := of_decide_eq_false h1;exact .inr ⟨P, hr, s5 hr.nodup hs (by omega), rfl⟩
  | true =>
   have h1 := of_decide_eq_true h1;simp only [cond_true];have hb := mA l last l 0 (-1) rfl (.inl ⟨rfl, fun i hi => by omega⟩);simp only at hb;generalize aj l last l 0 (-1) = b at hb ⊢;rcases hb with ⟨hb1, hb2⟩ | ⟨hb1, hb2, hb3, hb4⟩
   ·left;have : decide (b < 0) = true := decide_eq_true (by omega);rw [this];refine ⟨rfl, fun hd => ?_⟩;have hsub : ∀ s ∈ l.map stamp, s ∈ P.map stamp := fun s hs' => by
     obtain ⟨o, ho, rfl⟩ := List.mem_map.1 hs';obtain ⟨i, hi, rfl⟩ := List.getElem_of_mem ho;obtain ⟨p, hp, he⟩ := hall _ (List.getElem_mem hi) (by have := hb2 i hi; rwa [gt_eq hi] at this);exact List.mem_map.2 ⟨p, hp, he⟩
    have hle2 : (l.map stamp).length ≤ (P.map stamp).length := by
     have : ∀ (A B : List Stamp), A.Nodup → (∀ x ∈ A, x ∈ B) → A.length ≤ B.length := by
      intro A;induction A with
      | nil => intro B _ _; simp
      | cons a A ih =>
       intro B hn hs;obtain ⟨hna, hn'⟩ := List.nodup_cons.1 hn;have ha := hs a (.head _);have h3 := ih (B.erase a) hn' fun x hx => (List.mem_erase_of_ne (fun e : x = a => hna (by rw [← e]; exact hx))).2 (hs x (.tail _ hx));rw [List.length_erase_of_mem ha] at h3;have : 0 < B.length := List.length_pos_of_mem ha;simp only [List.length_cons]; omega
     exact this _ _ hd hsub
    simp only [List.length_map] at hle2;omega
   ·have : decide (b < 0) = false := decide_eq_false (by omega);rw [this];simp only [cond_false];have hbm : gt l b.toNat ∈ l := gJ (by omega);have hbc := hc _ hbm;have hT : iw (run e0 P).t := (es _).1 (pm P e0 rfl hcP);rw [wG hT (by rw [gO]; exact hbc)];have hP' : run e0 (P ++ [gt l b.toNat]) = ⟨(run e0 P).l ++ [(gz (run e0 P).t (gt l b.toNat)).2.1], (gz (run e0 P).t (gt l b.toNat)).1⟩ := sB P _;have ih := pY l hc f (rk (gt l b.toNat)) (P ++ [gt l b.toNat]) (by simp; omega) (by simp; omega) (List.pairwise_append.2 ⟨hr, by simp, fun p hp q hq => by
     rw [List.mem_singleton] at hq;rw [hq];exact (rk_lt (hcP p hp) hbc).1 (by have := hle p hp; omega)⟩) (fun p hp => by
     rcases List.mem_append.1 hp with hp | hp
     ·exact hs p hp
     ·rw [List.mem_singleton] at hp; rw [hp]; exact hbm) (fun p hp => by
     rcases List.mem_append.1 hp with hp | hp
     ·have := hle p hp; omega
     ·rw [List.mem_singleton] at hp; rw [hp]; exact Int.le_refl _) (fun o ho hro => by
     by_cases hlast : rk o ≤ last
     ·obtain ⟨p, hp, he⟩ := hall o ho hlast;exact ⟨p, List.mem_append_left _ hp, he⟩
     ·obtain ⟨i, hi, rfl⟩ := List.getElem_of_mem ho;have h5 := hb4 i hi (by rw [gt_eq hi]; omega);rw [gt_eq hi] at h5;exact ⟨gt l b.toNat, by simp, rk_inj hbc (hc _ ho) (by omega)⟩)
    rw [hP'] at ih;exact ih
theorem si (l : List Op) : ∀ r : List Op, (∀ o ∈ r, chkO o = 0) → dG l r = dF l (l.length + 1) (-1) [] []
 | [], _ => rfl
 | o :: r, h => by
  rw [dG, gO, h o (.head _)];exact si l r fun q hq => h q (.tail _ hq)
theorem q9 (l : List Op) : ∀ r : List Op, (∃ o ∈ r, chkO o ≠ 0) → dG l r = (e0, 3)
 | [], h => by obtain ⟨o, h, _⟩ := h; cases h
 | o :: r, h => by
  rw [dG, gO];rcases AZ o with h0 | h0
  ·rw [h0];refine q9 l r ?_;obtain ⟨q, hq, hne⟩ := h;rcases List.mem_cons.1 hq with rfl | hq
   ·exact absurd h0 hne
   ·exact ⟨q, hq, hne⟩
  ·rw [h0]; rfl
theorem wX (l : List Op) : aR l = bW l := by
 rcases Nat.lt_or_ge 30 l.length with h1 | h1
 ·rw [t0 h1];unfold aR;have : decide ((l.length : Int) > 30) = true := by simp; omega
  rw [this]; rfl
 have h30 : decide ((l.length : Int) > 30) = false := by simp; omega
 unfold aR;rw [h30, cond_false];by_cases hc : ∃ o ∈ l, chkO o ≠ 0
 ·rw [yW h1 hc, q9 l l hc]
 have hc : ∀ o ∈ l, chkO o = 0 := fun o ho => Classical.byContradiction fun hn => hc ⟨o, ho, hn⟩;rw [si l l hc];have hrk : ∀ o ∈ l, ¬ rk o ≤ -1 := fun o ho => by have := lL (hc o ho); rw [rk_eq]; omega
 rcases pY l hc (l.length + 1) (-1) [] (by simp) (by simp) (by simp [Rise]) (by simp) (by simp) (fun o ho h => absurd h (hrk o ho)) with ⟨h2, h3⟩ | ⟨S, h2, h3, h4⟩
 ·rw [uW h1 hc h3]; exact h2
 ·rw [vR h1 hc ((Dist.perm h3).1 h2.dist), rM h1 h2 h3]; exact h4
theorem yS (h : History) : av h = eM h := by
 have key : ∀ (l : List Step) (acc : List Op), dN l acc = fv l acc := by
  intro l;induction l with
  | nil => intro acc; rfl
  | cons p r ih => intro acc; rw [dN, fv, ih]
 exact key _ _
theorem pg (h : History) : fZ h = bz h := by
 unfold fZ bz;rw [yS, wX]; rfl
theorem xQ (h : History) (o : Op) : ju h o = fw h o := by
 unfold ju;rw [pg, gO];by_cases hc : bz h = 0
 ·have hh := (lN h).1 hc;rw [hc, wW hh];cases h1 : chkO o != 0 with
  | true => rfl
  | false =>
   have ho := ag h1;simp only [bne_self_eq_false, cond_false];have key : ∀ r : List Step, dc h o r = bif (r.map (·.o)).any (fun q => decide (stamp q = stamp o)) then (e0, 6) else ((aR ((av h) ++ [o])).1, (aR ((av h) ++ [o])).2) := by
    intro r;induction r with
    | nil => rfl
    | cons s r ih =>
     rw [dc, List.map_cons, List.any_cons, ih];show (bif decide (stamp s.o = stamp o) then _ else _) = _;cases decide (stamp s.o = stamp o) <;> rfl
   rw [key];cases h2 : (h.l.map (·.o)).any (fun q => decide (stamp q = stamp o)) with
   | true => rfl
   | false =>
    simp only [cond_false];have hne := Aw h2;have hck : ∀ q ∈ h.l.map (·.o) ++ [o], chkO q = 0 := fun q hq => by
     rcases List.mem_append.1 hq with hq | hq
     ·exact hh.ok q hq
     ·rw [List.mem_singleton] at hq; rw [hq]; exact ho
    rw [yS, ky, wX];have hl := hh.len;cases h3 : (h.l.map (·.o)).length == 30 with
    | true =>
     have h3 : (h.l.map (·.o)).length = 30 := by simpa using h3
     rw [t0 (by simp only [Ln]; omega)]; rfl
    | false =>
     have h3 : (h.l.map (·.o)).length ≠ 30 := by simpa using h3
     rw [vR (by simp only [Ln]; omega) hck (wI hh.rise.dist hne)];rfl
 ·rw [uV hc];have : (bz h != 0) = true := by simpa using hc
  rw [this]; rfl
structure TabOf (tb l : List Place) : Prop where
 len : tb.length = 16
 no : ∀ n : Nat, 1 ≤ n → n < 16 → (find l n).node = 0 → (gt tb n).parent < 0
 yes : ∀ n : Nat, 1 ≤ n → n < 16 → (find l n).node ≠ 0 → gt tb n = find l n
variable {l : List Place}
theorem TabOf.table (h : Rising l) : TabOf (ap l) l :=
 ⟨gq l, fun n h1 h2 h3 => by rw [(sD h.up h.rng n h1 h2).1 h3]; omega, fun n h1 h2 h3 => (sD h.up h.rng n h1 h2).2 h3⟩
variable {tb : List Place}
theorem TabOf.places (ht : TabOf tb l) (h : Rising l) : dE tb = l := by
 have hT : Tbl tb := fun n h1 h2 hpar => by
  by_cases hz : (find l n).node = 0
  ·have := ht.no n h1 h2 hz; omega
  ·rw [ht.yes n h1 h2 hz]; exact (gA hz).1
 rw [wa];have hg : ∀ q ∈ pl tb 16 0, 1 ≤ q.node := fun q hq => (pl_ge hT 16 0 rfl q hq).2;refine py (pl_up hT 16 0 rfl) h.up hg (fun p hp => (h.rng p hp).1) fun n hn => ?_;obtain ⟨m, rfl⟩ := Int.eq_ofNat_of_zero_le (by omega : 0 ≤ n);rw [xA hT m (by omega) 16 0 rfl];by_cases hm : m < 16
 ·by_cases hz : (find l m).node = 0
  ·have := ht.no m (by omega) hm hz;rw [if_neg (by omega)];exact (h.none hz).symm
  ·rw [ht.yes m (by omega) hm hz];have := h.par _ (gA hz).2;rw [if_pos ⟨by omega, hm, by omega⟩]
 ·rw [if_neg (by omega)];exact (kN fun q hq e => by have := h.rng q hq; omega).symm
variable {p : Place}
theorem TabOf.put (ht : TabOf tb l) (h1 : 1 ≤ p.node ∧ p.node < 16) (hp : 0 ≤ p.parent) : TabOf (tb.set p.node.toNat p) (putT l p) := by
 have hd : decide (p.parent < 0) = false := decide_eq_false (by omega);refine ⟨by simp [ht.len], fun n ha hb hz => ?_, fun n ha hb hz => ?_⟩
 ·rw [iJ] at hz;rw [oV _ _ _ _ (by rw [ht.len]; omega)];cases he : ((n : Int) == p.node) with
  | true =>
   rw [he, cond_true, hd, cond_false] at hz;omega
  | false =>
   rw [he, cond_false] at hz;have : (n : Int) ≠ p.node := by simpa using he
   rw [if_neg (by omega)];exact ht.no n ha hb hz
 ·rw [iJ] at hz ⊢;rw [oV _ _ _ _ (by rw [ht.len]; omega)];cases he : ((n : Int) == p.node) with
  | true =>
   have : (n : Int) = p.node := by simpa using he
   rw [cond_true, hd, cond_false, if_pos (by omega)]
  | false =>
   rw [he, cond_false] at hz;have : (n : Int) ≠ p.node := by simpa using he
   rw [if_neg (by omega), cond_false];exact ht.yes n ha hb hz
theorem TabOf.drop (ht : TabOf tb l) {n : Int} {q : Place} (h1 : 1 ≤ n ∧ n < 16) (hq : q.parent < 0) (hp : p.parent < 0) (hpn : p.node = n) : TabOf (tb.set n.toNat q) (putT l p) := by
 have hd : decide (p.parent < 0) = true := decide_eq_true hp;refine ⟨by simp [ht.len], fun m ha hb hz => ?_, fun m ha hb hz => ?_⟩
 ·rw [iJ] at hz;rw [oV _ _ _ _ (by rw [ht.len]; omega)];by_cases he : (m : Int) = p.node
  ·rw [if_pos (by omega)]; exact hq
  ·have : ((m : Int) == p.node) = false := by simpa using he
   rw [this, cond_false] at hz;rw [if_neg (by omega)];exact ht.no m ha hb hz
 ·rw [iJ] at hz ⊢;rw [oV _ _ _ _ (by rw [ht.len]; omega)];by_cases he : (m : Int) = p.node
  ·have : ((m : Int) == p.node) = true := by simpa using he
   rw [this, cond_true, hd, cond_true] at hz;exact absurd rfl hz
  ·have : ((m : Int) == p.node) = false := by simpa using he
   rw [this, cond_false] at hz ⊢;rw [if_neg (by omega)];exact ht.yes m ha hb hz
theorem TabOf.puts : ∀ (m : List Place) {tb l : List Place}, TabOf tb l → (∀ p ∈ m, (1 ≤ p.node ∧ p.node < 16) ∧ 0 ≤ p.parent) → TabOf (aQ m tb) (m.foldl putT l)
 | [], _, _, h, _ => h
 | p :: r, _, _, h, hm => by
  rw [aQ, List.foldl_cons];exact TabOf.puts r (h.put (hm p (.head _)).1 (hm p (.head _)).2) fun q hq => hm q (.tail _ hq)
theorem rI : ∀ (a b tb : List Place), aQ (a ++ b) tb = aQ b (aQ a tb)
 | [], _, _ => rfl
 | p :: r, b, tb => rI r b _
theorem rL (a b : List Place) : ∀ (f k : Nat) (tb : List Place), cd (a ++ b) f k tb = aQ b (cd a f k tb)
 | 0, k, tb => rI a b tb
 | f + 1, k, tb => rL a b f (k + 1) _
theorem zK (a b : List Place) : ap (a ++ b) = aQ b (ap a) := rL a b 16 0 _
end Go.Proofs.YtkjccbdeaflekaaGreatDoor
namespace Go.Proofs.YtkjccbdeaflekaaGreatDoor
open Go Go.Proofs.YtkjccbdeaflekaaGreatDoor.Fw Go.Proofs
attribute [local irreducible] CW RW
variable {t : List Place}
theorem lh (h : bM t = 0) : t.length ≤ 15 := m3 ((iz t).trans ((mi t).symm.trans h))
theorem cat2 {a b : List Place} {φ : Place → Prop} (ha : ∀ p ∈ a, φ p) (hb : ∀ p ∈ b, φ p) : ∀ p ∈ ([a, b] : List (List Place)).flatten, φ p := fun p hp => by
 simp only [List.flatten_cons, List.flatten_nil, List.append_nil, List.mem_append] at hp;rcases hp with hp | hp
 ·exact ha p hp
 ·exact hb p hp
def cj (v1 : View) : List Place :=
 (dE (ap ([v1.known, v1.way].flatten)))
theorem ko (y1 : SlV) (y2 : SlV) (y3 : SlV) (v1 : View) (hl : v1.known.length ≤ 1000 ∧ v1.way.length ≤ 1000) (hk : ∀ p ∈ v1.known, 0 ≤ p.node ∧ p.node < 16) (hw : ∀ p ∈ v1.way, 0 ≤ p.node ∧ p.node < 16) : Dw 141 [.agg ⟨cV y1 y2 y3 v1⟩] [RdL EInt y1 v1.roots, RdL EPlace y2 v1.known, RdL EPlace y3 v1.way] (fun (X : SlV) => .agg ⟨[X.val (cj v1).length]⟩) (fun X => [RdL EPlace X (cj v1)]) := by
 refine Dp Tryz.func141 fun C => ?_;refine Qc y1 8 fun hlen1 => ?_;refine Qc y2 24 fun hlen2 => ?_;refine Qc y3 24 fun hlen3 => ?_;refine BxT fun g1 => ?_;refine AlT fun g2 => ?_;refine Bl NPlaces.E [(y2, v1.known), (y3, v1.way)] fun x1 x1b => ?_;refine Fx x1 ?_;refine Ns NPlaces x1 [v1.known, v1.way] ?_;refine Cm (mo x1 [v1.known, v1.way] (by obtain ⟨h1, h2⟩ := hl; simp only [List.flatten_cons, List.flatten_nil, List.append_nil, List.length_append]; omega)) fun x2 => ?_;refine nj (fL x2.1 ([v1.known, v1.way].flatten) (cat2 hk hw)) .sq (au rfl) rfl rfl rfl Kr rfl rfl (.own Mm (.nil _ _)) ?_;intro _;refine Ck (iC (ap ([v1.known, v1.way].flatten)) (gq _)) fun x3 => ?_;refine Qr x3 24 fun hlen4 => ?_;have hf := Ri (cj.eq_1 v1);refine Rx ?_; exact Rr x3
def bu (v1 : View) : Int :=
 (bif ((bE v1.roots) != 0) then (bE v1.roots) else (bif ((bM v1.known) != 0) then (bM v1.known) else (bif ((bM v1.way) != 0) then (bM v1.way) else (bif (((bs (cj v1) v1.roots).2 == 0) && (!(fE v1 (bs (cj v1) v1.roots).1))) then 4 else (bs (cj v1) v1.roots).2))))
theorem d5 (y1 : SlV) (y2 : SlV) (y3 : SlV) (v1 : View) : Du 90 [.agg ⟨cV y1 y2 y3 v1⟩] [RdL EInt y1 v1.roots, RdL EPlace y2 v1.known, RdL EPlace y3 v1.way] (.int .i64 (bu v1)) := by
 refine Dp Tryz.func90 fun C => ?_;refine Qc y1 8 fun hlen1 => ?_;refine Qc y2 24 fun hlen2 => ?_;refine Qc y3 24 fun hlen3 => ?_;refine BxT fun g1 => ?_;refine Ck (gv y1 v1.roots) fun _ => ?_;have hf := Ri (bu.eq_1 v1);refine Kn hf fun hc1 hc1p hf => ?_;refine Ck (gL y2 v1.known) fun _ => ?_;refine Kn hf fun hc2 hc2p hf => ?_;have hct1 := ag hc2;refine Ck (gL y3 v1.way) fun _ => ?_;refine Kn hf fun hc3 hc3p hf => ?_;have hct2 := ag hc3;refine Tx ?_;refine Jn (Nat × SlV × SlV × SlV) [1, 2] [true] (fun ⟨g2, x1, x2, x3⟩ => ⟨[(6, .v (.pointer (some ⟨g2, 0, none⟩))), (7, .v (.int .i64 (bs (cj v1) v1.roots).2))], [⟨g2, 61, cV x1 x2 x3 (bs (cj v1) v1.roots).1⟩], [], [RdL EInt x1 (bs (cj v1) v1.roots).1.roots, RdL EPlace x2 (bs (cj v1) v1.roots).1.known, RdL EPlace x3 (bs (cj v1) v1.roots).1.way], True, 0⟩) ?_ ?_
 ·refine Rg [(9,none)] ?_;refine Dx [0,2,3] ?_;refine Rw 1 8 ?_ ?_
  ·refine Ck (ko y1 y2 y3 v1 ⟨Nat.le_trans (lh hct1) (by omega), Nat.le_trans (lh hct2) (by omega)⟩ (kA hct1) (kA hct2)) fun x4 => ?_;refine Qr x4 24 fun hlen4 => ?_;refine Rw 4 8 ?_ ?_
   ·refine Ck (fV x4 (cj v1) y1 v1.roots) fun x5 => ?_;refine Qr x5.1 8 fun hlen5 => ?_;refine Qr x5.2.1 24 fun hlen6 => ?_;refine Qr x5.2.2 24 fun hlen7 => ?_;refine Dx [5,6] ?_;refine Rp' (Fa 7 [8,9]) ?_;refine Rn 8 ?_;refine AlT fun g3 => ?_;refine Rn 9 ?_;refine Wa ?_;refine Ra 10 rfl Qp ?_;refine Re0 ?_;refine ⟨⟨g3, x5.1, x5.2.1, x5.2.2⟩, trivial, Le4⟩
   ·refine AlT fun g4 => ?_;refine Rn 4 ?_;refine Ck (fV x4 (cj v1) y1 v1.roots) fun x6 => ?_;refine Qr x6.1 8 fun hlen8 => ?_;refine Qr x6.2.1 24 fun hlen9 => ?_;refine Qr x6.2.2 24 fun hlen10 => ?_;refine Dx [5,6] ?_;refine Rp' (Fa 7 [9]) ?_;refine Rn 9 ?_;refine Wa ?_;refine Ra 10 rfl Qp ?_;refine Re0 ?_;refine ⟨⟨g4, x6.1, x6.2.1, x6.2.2⟩, trivial, Le4⟩
  ·refine AlT fun g5 => ?_;refine Rn 1 ?_;refine Ck (ko y1 y2 y3 v1 ⟨Nat.le_trans (lh hct1) (by omega), Nat.le_trans (lh hct2) (by omega)⟩ (kA hct1) (kA hct2)) fun x7 => ?_;refine Qr x7 24 fun hlen11 => ?_;refine Rn 4 ?_;refine Ck (fV x7 (cj v1) y1 v1.roots) fun x8 => ?_;refine Qr x8.1 8 fun hlen12 => ?_;refine Qr x8.2.1 24 fun hlen13 => ?_;refine Qr x8.2.2 24 fun hlen14 => ?_;refine Dx [5,6] ?_;refine Rp' (Fa 7 [9]) ?_;refine Rn 9 ?_;refine Wa ?_;refine Ra 10 rfl Qp ?_;refine Re0 ?_;refine ⟨⟨g5, x8.1, x8.2.1, x8.2.2⟩, trivial, Le4⟩
 ·rintro ⟨g2, x1, x2, x3⟩ -;simp only [Lc];refine Cy (fun hG_ => ic y1 y2 y3 v1 x1 x2 x3 (bs (cj v1) v1.roots).1) ?_;refine Kh hf fun hc4 hf => ?_;exact Ru
theorem nW (l : List Int) : ∀ (r : List Int) (k : Nat) (last : Int), r = l.drop k → last = (if k = 0 then -1 else gt l (k - 1)) → co r last = fc l r k
 | [], _, _, _, _ => rfl
 | n :: r, k, last, hr, hl => by
  have hk : k < l.length := by have := congrArg List.length hr; simp at this; omega
  rw [aK hk] at hr;obtain ⟨hn, hr'⟩ := List.cons.inj hr;rw [co, fc];have h1 : (!(ak n 0 16)) = (decide (n < 0) || decide (n > 16)) := by
   unfold ak;rw [Bool.eq_iff_iff];simp only [Bool.or_eq_true, Bool.not_eq_true', Bool.and_eq_false_iff, decide_eq_false_iff_not, decide_eq_true_eq];omega
  rw [h1];cases h2 : (decide (n < 0) || decide (n > 16)) with
  | true => rfl
  | false =>
   simp at h2;have h3 : decide (n ≤ last) = (decide ((k : Int) > 0) && decide (gt l (k - 1) ≥ n)) := by
    rw [Bool.eq_iff_iff];simp only [Ba];rw [hl];by_cases hz : k = 0
    ·subst hz; simp; omega
    ·simp [hz]; omega
   rw [h3, cond_false, cond_false, nW l r (k + 1) n hr' (by simp [hn])]
theorem nH (l : List Int) : bE l = cm l := by
 unfold bE cm;rw [nW l l 0 (-1) rfl rfl]
theorem tI {l : List Place} (hpar : ∀ p ∈ l, 0 ≤ p.parent ∧ p.parent ≤ 16) : ∀ (f : Nat) (node : Int) (out : List Int), f + out.length = 19 → out.Nodup → (∀ x ∈ out.tail, 0 ≤ x ∧ x ≤ 16) →
  (bo l f node out).Nodup ∧ ∃ s, bo l f node out = out ++ s
 | 0, node, out, hf, hn, ht => by have := o6 hn ht; omega
 | f + 1, node, out, hf, hn, ht => by
  rw [bo];cases hb : (((bq l node).node == 0) || decide ((bq l node).parent ∈ out)) with
  | true => exact ⟨hn, [], by simp⟩
  | false =>
   obtain ⟨h2, h3⟩ := Bool.or_eq_false_iff.1 hb;obtain ⟨h4, s, h5⟩ := tI hpar f (bq l node).parent (out ++ [(bq l node).parent]) (by simp; omega) (pr hn (by simpa using h3)) (qt ht (hpar _ (tx (by simpa using h2))));exact ⟨h4, [(bq l node).parent] ++ s, by simp only [cond_false]; rw [h5]; simp⟩
variable {l : List Place}
theorem zr (hpar : ∀ p ∈ l, 0 ≤ p.parent ∧ p.parent ≤ 16) (a : Int) : ∃ s, aA l a = a :: s ∧ a ∉ s := by
 obtain ⟨h1, s, h2⟩ := tI hpar 18 a [a] rfl (by simp) (by simp);have h2 : aA l a = a :: s := h2;have h1 : (aA l a).Nodup := h1;rw [h2] at h1;exact ⟨s, h2, (List.nodup_cons.1 h1).1⟩
theorem pS (hpar : ∀ p ∈ l, 0 ≤ p.parent ∧ p.parent ≤ 16) (a b : Int) : b ∈ (aA l a).drop 1 ↔ a ≠ b ∧ Up l a b := by
 obtain ⟨s, h1, h2⟩ := zr hpar a;rw [← qG hpar, h1];simp only [List.drop_succ_cons, List.drop_zero, List.mem_cons];constructor
 ·intro h; exact ⟨fun e => h2 (e ▸ h), .inr h⟩
 ·rintro ⟨h3, h | h⟩
  ·exact absurd h.symm h3
  ·exact h
theorem uN (roots : List Int) : ∀ (l : List Int) (b : Bool), cJ roots l b = (b || l.any (fun n => decide (n ∈ roots)))
 | [], b => by simp [cJ]
 | n :: r, b => by rw [cJ, uN roots r, List.any_cons, Bool.or_assoc]
theorem B5 (hpar : ∀ p ∈ t, 0 ≤ p.parent ∧ p.parent ≤ 16) (n : Int) (roots : List Int) : (aA t n).any (fun n => decide (n ∈ roots)) = d4 t n roots := by
 rw [Bool.eq_iff_iff, List.any_eq_true];unfold d4 jP;rw [List.any_eq_true];constructor
 ·rintro ⟨x, h1, h2⟩;exact ⟨x, by simpa using h2, by rw [gh, iP]; exact (qG hpar _ _).1 h1⟩
 ·rintro ⟨x, h1, h2⟩;rw [gh, iP] at h2;exact ⟨x, (qG hpar _ _).2 h2, by simpa using h1⟩
def ups (t : List Place) (roots : List Int) : List Int := roots.flatMap fun r => (aA t r).drop 1
theorem Ca (hpar : ∀ p ∈ t, 0 ≤ p.parent ∧ p.parent ≤ 16) (n : Int) (roots : List Int) : decide (n ∈ ups t roots) = eU t n roots := by
 rw [Bool.eq_iff_iff, decide_eq_true_eq];unfold ups eU jQ;rw [List.any_eq_true, List.mem_flatMap];constructor
 ·rintro ⟨r, h1, h2⟩;obtain ⟨h3, h4⟩ := (pS hpar r n).1 h2;exact ⟨r, h1, by rw [Bool.and_eq_true, gh, iP]; exact ⟨by simpa using h3, h4⟩⟩
 ·rintro ⟨r, h1, h2⟩;rw [Bool.and_eq_true, gh, iP] at h2;exact ⟨r, h1, (pS hpar r n).2 ⟨by simpa using h2.1, h2.2⟩⟩
theorem pE {t : List Place} (hpar : ∀ p ∈ t, 0 ≤ p.parent ∧ p.parent ≤ 16) (roots : List Int) : ∀ (l known way : List Place), dK t roots (ups t roots) l known way = gN t roots l known way
 | [], known, way => rfl
 | p :: r, known, way => by
  rw [dK, gN, uN, Bool.false_or, B5 hpar, Ca hpar, pE hpar roots r, pE hpar roots r, pE hpar roots r]
theorem uO (t : List Place) (roots : List Int) : ∀ (l : List Int) (up : List Int), eB t roots l up = dK t roots (up ++ ups t l) t [] []
 | [], up => by rw [eB]; simp [ups]
 | r :: l, up => by
  rw [eB, uO t roots l];simp [ups, List.append_assoc]
theorem Bc (t : List Place) (roots : List Int) : bs t roots = eG t roots := by
 unfold bs eG;rw [mi, iz, nH];cases h1 : (ed t != 0) with
 | true => rfl
 | false =>
  have hT := (es t).1 (ag h1);have hpar : ∀ p ∈ t, 0 ≤ p.parent ∧ p.parent ≤ 16 := fun p hp => by have := jT (hT.ok p hp); omega
  cases h2 : (cm roots != 0) with
  | true => rfl
  | false =>
   simp only [cond_false];rw [uO, List.nil_append, pE hpar]
theorem CA {v : View} (hk : Rising v.known) (hw : Rising v.way) : cj v = eP v := by
 unfold cj;rw [C5];simp only [List.flatten_cons, List.flatten_nil, List.append_nil];rw [zK];have h := TabOf.puts v.way (TabOf.table hk) fun p hp => ⟨hw.rng p hp, hw.par p hp⟩;exact h.places (Rising.puts _ hk hw.rng)
theorem tR (a b : View) : fE a b = go a b := rfl
theorem jg (v : View) : bu v = cn v := by
 rw [qp];unfold bu;rw [nH, mi, mi];cases h0 : (cm v.roots != 0) with
 | true => rfl
 | false =>
  cases h1 : (ed v.known != 0) with
  | true => rfl
  | false =>
   cases h2 : (ed v.way != 0) with
   | true => rfl
   | false =>
    simp only [cond_false];rw [CA ((es _).1 (ag h1)).rising ((es _).1 (ag h2)).rising, Bc, tR, Bf]
theorem in_iff (n a b : Int) : ak n a b = true ↔ a ≤ n ∧ n ≤ b := by
 simp [ak]
theorem oU (n a b : Int) : ak n a b = false ↔ ¬ (a ≤ n ∧ n ≤ b) := by
 rw [← in_iff]; simp
theorem fN {α : Type} {c d : Bool} {x y z w : α} (h : c = d) (h1 : d = true → x = y) (h2 : d = false → z = w) : (bif c then x else z) = (bif d then y else w) := by
 subst h;cases c with
 | true => exact h1 rfl
 | false => exact h2 rfl
theorem lQ (r : Rec) : bf r = aH r := by
 unfold bf aH;rw [gO, fA, nH];have hlen : ((r.roots.length : Int) != 0) = decide ((r.roots.length : Int) > 0) := by
  rw [Bool.eq_iff_iff]; simp only [bne_iff_ne, decide_eq_true_eq]; omega
 rw [hlen];cases h1 : (r.kind == 1) with
 | true =>
  have := eq_of_beq h1;have e : (decide (r.kind < 1) || decide (r.kind > 3)) = false := by rw [this]; rfl
  rw [e]; rfl
 | false =>
 cases h2 : (r.kind == 2) with
 | true =>
  have h2 := eq_of_beq h2;have e : (decide (r.kind < 1) || decide (r.kind > 3)) = false := by rw [h2]; rfl
  have e3 : (r.kind == 3) = false := by rw [h2]; rfl
  rw [e, e3];simp only [cond_false, cond_true, Bool.false_and, Bool.true_and, Bool.or_false];refine fN rfl (fun _ => rfl) fun h3 => fN ?_ (fun _ => rfl) fun _ => ?_
  ·rw [Bool.eq_iff_iff]; simp only [Bool.or_eq_true, Bool.not_eq_true', oU, decide_eq_true_eq]; omega
  ·simp only [Bo] at h3;have : r.roots = [] := List.length_eq_zero_iff.1 (by omega);rw [this]; rfl
 | false =>
 cases h3 : (r.kind == 3) with
 | true =>
  have h3 := eq_of_beq h3;have e : (decide (r.kind < 1) || decide (r.kind > 3)) = false := by rw [h3]; rfl
  rw [e];simp only [cond_false, cond_true, Bool.false_and, Bool.true_and, Bool.or_false];refine fN rfl (fun _ => rfl) fun h3 => fN ?_ (fun _ => rfl) fun _ => rfl;rw [Bool.eq_iff_iff]; simp only [Bool.or_eq_true, Bool.not_eq_true', oU, decide_eq_true_eq]; omega
 | false =>
  have h1 := beq_eq_false_iff_ne.1 h1;have h2 := beq_eq_false_iff_ne.1 h2;have h3 := beq_eq_false_iff_ne.1 h3;have e : (decide (r.kind < 1) || decide (r.kind > 3)) = true := by simp only [Bq]; omega
  rw [e]; rfl
theorem zz (a b : Hub) : eD a b = jj a b := rfl
abbrev hub0 : Hub := ⟨⟨[], []⟩, 0, []⟩
theorem rT (h : Hub) (r : Rec) : ∀ l : List Step, ey h r l = bif (dc h.h r.o l).2 != 0 then (hub0, (dc h.h r.o l).2) else (⟨(dc h.h r.o l).1, h.version + 1, h.peers.set r.o.who.toNat ⟨(gt h.peers r.o.who.toNat).life, (gt h.peers r.o.who.toNat).seq + 1, (gt h.peers r.o.who.toNat).roots⟩⟩, 0)
 | [] => rfl
 | s :: l => by
  rw [ey, dc, rT h r l];cases decide ((⟨s.o.time, s.o.who⟩ : Stamp) = ⟨r.o.time, r.o.who⟩) with
  | true => rfl
  | false => rfl
theorem wV {h : History} (hc : bz h = 0) {o : Op} (ho : chkO o = 0) : dc h o h.l = cv h o := by
 have h1 := xQ h o;rw [uU hc] at h1;rw [← h1];unfold ju;rw [pg, hc, gO, ho];simp
variable {r : Rec}
theorem rec_op (hn : aH r = 0) (hk : (r.kind == 1) = true) : chkO r.o = 0 := by
 unfold aH at hn;rw [hk, cond_true] at hn;cases h5 : (decide (r.kind < 1) || decide (r.kind > 3)) with
 | true => rw [h5, cond_true] at hn; cases hn
 | false =>
  rw [h5, cond_false] at hn;cases h6 : (((r.who != 0) || (r.life != 0)) || decide ((r.roots.length : Int) > 0)) with
  | true => rw [h6, cond_true] at hn; cases hn
  | false => rw [h6, cond_false, fA] at hn; exact hn
variable {h : Hub}
theorem td (hk : dj h = 0) (hn : aH r = 0) : aM h r = bd h r := by
 have hh := (eo h).1 hk;obtain ⟨w1, w2, w3, w4, w5⟩ := sC hn;have hnn : (aH r != 0) = false := by rw [hn]; rfl
 unfold aM bd;rw [hnn, cond_false];refine fN rfl (fun _ => rfl) fun hv => fN rfl (fun h1 => ?_) fun h1 => ?_
 ·have ho := rec_op hn h1;unfold ep;cases h2 : (((gt h.peers r.o.who.toNat).life != r.o.life) || ((gt h.peers r.o.who.toNat).seq + 1 != r.o.seq)) with
  | true =>
   have e : ((r.o.life != (gt h.peers r.o.who.toNat).life) || (r.o.seq != (gt h.peers r.o.who.toNat).seq + 1)) = true := by
    rw [← h2, Bool.eq_iff_iff]; simp only [Bool.or_eq_true, bne_iff_ne]; omega
   rw [e]; rfl
  | false =>
   have e : ((r.o.life != (gt h.peers r.o.who.toNat).life) || (r.o.seq != (gt h.peers r.o.who.toNat).seq + 1)) = false := by
    rw [← h2, Bool.eq_iff_iff]; simp only [Bool.or_eq_true, bne_iff_ne]; omega
   rw [e, cond_false, cond_false, rT, wV hh.hist ho];have hs : (gt h.peers r.o.who.toNat).seq + 1 = r.o.seq := by
    simp only [Bool.or_eq_false_iff, bne_eq_false_iff_eq] at h2; exact h2.2
   rw [hs];cases h3 : ((cv h.h r.o).2 == 0) with
   | true => rw [eq_of_beq h3]; rfl
   | false =>
    have h4 : ((cv h.h r.o).2 != 0) = true := by rw [bne, h3]; rfl
    rw [h4];simp only [cond_true, cond_false, h4]
 ·refine fN rfl (fun h2 => ?_) fun h2 => fN rfl (fun h3 => ?_) fun _ => rfl
  ·refine fN ?_ (fun _ => rfl) fun _ => rfl;rw [Bool.eq_iff_iff]; simp only [bne_iff_ne]; omega
  ·have hm : gt h.peers r.who.toNat ∈ h.peers := gJ (by have := w2 (beq_eq_false_iff_ne.1 h1); rw [hh.three]; omega);have hr := (hh.peers _ hm).rng;refine fN ?_ (fun _ => rfl) fun _ => rfl;rw [Bool.eq_iff_iff]; simp only [decide_eq_true_eq, beq_iff_eq]; omega
theorem Ax (hk : dj h = 0) (hn : aH r = 0) (h0 : (aM h r).2 = 0) : dj (aM h r).1 = 0 := by
 rw [td hk hn] at h0 ⊢;exact (eo _).2 (vr ((eo h).1 hk) h0).1
attribute [local irreducible] RdL RdN VarP
def eL  : List Rec → (List Step) → (List Place) → Int → (List Peer) → (Hub × Int)
 | [], l2, p1, version1, peers1 => ((⟨(⟨l2, p1⟩ : History), version1, peers1⟩ : Hub), 0)
 | pn1 :: rn1, l2, p1, version1, peers1 => (bif ((bf pn1) != 0) then ((⟨(⟨[], []⟩ : History), 0, ([] : List Peer)⟩ : Hub), (bf pn1)) else (bif ((aM (⟨(⟨l2, p1⟩ : History), version1, peers1⟩ : Hub) pn1).2 != 0) then ((⟨(⟨[], []⟩ : History), 0, ([] : List Peer)⟩ : Hub), (aM (⟨(⟨l2, p1⟩ : History), version1, peers1⟩ : Hub) pn1).2) else (eL rn1 (aM (⟨(⟨l2, p1⟩ : History), version1, peers1⟩ : Hub) pn1).1.h.l (aM (⟨(⟨l2, p1⟩ : History), version1, peers1⟩ : Hub) pn1).1.h.t (aM (⟨(⟨l2, p1⟩ : History), version1, peers1⟩ : Hub) pn1).1.version (aM (⟨(⟨l2, p1⟩ : History), version1, peers1⟩ : Hub) pn1).1.peers)))
def bv (l1 : List Rec) : Hub × Int :=
 (bif decide ((l1.length : Int) > 60) then ((⟨(⟨[], []⟩ : History), 0, ([] : List Peer)⟩ : Hub), 2) else (eL l1 bP.h.l bP.h.t bP.version bP.peers))
theorem gH (y1 : SlV) (l1 : List Rec) : Dw 29 [y1.val l1.length] [RdN NRec y1 l1] (fun (X : SlV × SlV × SlV) => .tuple #[.agg ⟨cB X.1 X.2.1 X.2.2 (bv l1).1⟩, .int .i64 (bv l1).2]) (fun X => [RdL EStep X.1 (bv l1).1.h.l, RdL EPlace X.2.1 (bv l1).1.h.t, RdN NPeer X.2.2 (bv l1).1.peers]) := by
 refine Dp Tryz.func29 fun C => ?_;refine Qn y1 104 fun hlen1 => ?_;refine AlT fun g1 => ?_;have hf := Ri (bv.eq_1 l1);refine Cp hf (fun hc1 hc1p hf => ?_) fun hc1 hc1p hf => ?_
 ·refine Tx ?_;refine Fc EStep ?_;refine Fc EPlace ?_;refine Ft NPeer ?_;refine Rx ?_; exact Rr ⟨Z0, Z0, Z0⟩
 ·refine Ck (jB ) fun x1 => ?_;refine Qr x1.1 88 fun hlen2 => ?_;refine Qr x1.2.1 24 fun hlen3 => ?_;refine Pm NPeer x1.2.2 bP.peers 40 fun hlen4 => ?_;refine AlT fun g2 => ?_;refine Lq (Nat × List Step × SlV × List Place × SlV × Int × List Peer × SlV) [2,3,4,15,16] [false, true] (fun ⟨n1, l2, x2, p1, x3, version1, peers1, x4⟩ => ⟨[(17, .v (.int .i64 (n1 : Int)))], [⟨g2, 30, [x2.val l2.length, x3.val p1.length, .int .i64 version1, x4.val peers1.length]⟩], [], [RdL EStep x2 l2, RdL EPlace x3 p1, RdN NPeer x4 peers1], (n1 ≤ l1.length) ∧ (dj (⟨⟨l2, p1⟩, version1, peers1⟩ : Hub) = 0) ∧ (eL (l1.drop n1) l2 p1 version1 peers1) = (bv l1), l1.length - n1⟩) ⟨0, bP.h.l, x1.1, bP.h.t, x1.2.1, bP.version, bP.peers, x1.2.2⟩ ⟨N0, ((eo _).2 mT), hf.symm⟩ ?_;rintro ⟨n1, l2, x2, p1, x3, version1, peers1, x4⟩ ⟨hkn1, hinv, hf1⟩;simp only [Lc];refine Cu (fun hlt0 => ?_) fun hge0 => ?_
  ·refine Tx ?_;refine Ex NRec y1 fun (γ1 : Nat → SlV) => ?_;refine Sq (Xn n1) ?_;refine Sq (Xe (cR (γ1 n1) (gt l1 n1))) ?_;refine Gg NRec γ1 n1 0 ?_;refine AlT fun g3 => ?_;refine Ck (eg (γ1 n1) (gt l1 n1)) fun _ => ?_;have hf := Ri hf1.symm;rw [aK hlt0, eL] at hf;refine Cn hf (fun hc3 hc3p hf => ?_) fun hc3 hc3p hf => ?_
   ·refine Tx ?_;refine Fc EStep ?_;refine Fc EPlace ?_;refine Ft NPeer ?_;refine Rx ?_; exact Rr ⟨Z0, Z0, Z0⟩
   ·have hn0 := (lQ _).symm.trans (ag hc3);refine Ck (j8 x2 x3 x4 (⟨(⟨l2, p1⟩ : History), version1, peers1⟩ : Hub) (γ1 n1) (gt l1 n1) hinv hn0) fun x5 => ?_;refine Pr EStep x5.1 (aM (⟨(⟨l2, p1⟩ : History), version1, peers1⟩ : Hub) (gt l1 n1)).1.h.l 88 fun hlen5 => ?_;refine Pr EPlace x5.2.1 (aM (⟨(⟨l2, p1⟩ : History), version1, peers1⟩ : Hub) (gt l1 n1)).1.h.t 24 fun hlen6 => ?_;refine Pm NPeer x5.2.2 (aM (⟨(⟨l2, p1⟩ : History), version1, peers1⟩ : Hub) (gt l1 n1)).1.peers 40 fun hlen7 => ?_;refine AlT fun g4 => ?_;refine Cn hf (fun hc4 hc4p hf => ?_) fun hc4 hc4p hf => ?_
    ·refine Tx ?_;refine Fc EStep ?_;refine Fc EPlace ?_;refine Ft NPeer ?_;refine Rx ?_; exact Rr ⟨Z0, Z0, Z0⟩
    ·refine Tt ?_;refine ⟨⟨(n1 + 1), (aM (⟨(⟨l2, p1⟩ : History), version1, peers1⟩ : Hub) (gt l1 n1)).1.h.l, x5.1, (aM (⟨(⟨l2, p1⟩ : History), version1, peers1⟩ : Hub) (gt l1 n1)).1.h.t, x5.2.1, (aM (⟨(⟨l2, p1⟩ : History), version1, peers1⟩ : Hub) (gt l1 n1)).1.version, (aM (⟨(⟨l2, p1⟩ : History), version1, peers1⟩ : Hub) (gt l1 n1)).1.peers, x5.2.2⟩, ⟨hlt0, (Ax hinv hn0 (ag (by assumption))), hf.symm⟩, Oo, Le4⟩
  ·have hf := Ri hf1.symm;rw [Dl hge0, eL] at hf;refine Rx ?_; exact Rr ⟨x2, x3, x4⟩
def cu  : List Rec → (List Step) → (List Place) → Int → (List Peer) → (Hub × Int)
 | [], l2, p1, version1, peers1 => ((⟨(⟨l2, p1⟩ : History), version1, peers1⟩ : Hub), 0)
 | pn1 :: rn1, l2, p1, version1, peers1 => (bif ((bd (⟨(⟨l2, p1⟩ : History), version1, peers1⟩ : Hub) pn1).2 != 0) then ((⟨(⟨[], []⟩ : History), 0, ([] : List Peer)⟩ : Hub), (bd (⟨(⟨l2, p1⟩ : History), version1, peers1⟩ : Hub) pn1).2) else (cu rn1 (bd (⟨(⟨l2, p1⟩ : History), version1, peers1⟩ : Hub) pn1).1.h.l (bd (⟨(⟨l2, p1⟩ : History), version1, peers1⟩ : Hub) pn1).1.h.t (bd (⟨(⟨l2, p1⟩ : History), version1, peers1⟩ : Hub) pn1).1.version (bd (⟨(⟨l2, p1⟩ : History), version1, peers1⟩ : Hub) pn1).1.peers))
def aF (l1 : List Rec) : Hub × Int :=
 (bif decide ((l1.length : Int) > 60) then ((⟨(⟨[], []⟩ : History), 0, ([] : List Peer)⟩ : Hub), 2) else (cu l1 dU.h.l dU.h.t dU.version dU.peers))
theorem kc (y1 : SlV) (l1 : List Rec) : Dw 64 [y1.val l1.length] [RdN NRec y1 l1] (fun (X : SlV × SlV × SlV) => .tuple #[.agg ⟨cB X.1 X.2.1 X.2.2 (aF l1).1⟩, .int .i64 (aF l1).2]) (fun X => [RdL EStep X.1 (aF l1).1.h.l, RdL EPlace X.2.1 (aF l1).1.h.t, RdN NPeer X.2.2 (aF l1).1.peers]) := by
 refine Dp Tryz.func64 fun C => ?_;refine Qn y1 104 fun hlen1 => ?_;refine AlT fun g1 => ?_;have hf := Ri (aF.eq_1 l1);refine Cp hf (fun hc1 hc1p hf => ?_) fun hc1 hc1p hf => ?_
 ·refine Tx ?_;refine Fc EStep ?_;refine Fc EPlace ?_;refine Ft NPeer ?_;refine Rx ?_; exact Rr ⟨Z0, Z0, Z0⟩
 ·refine Ck (l5 ) fun x1 => ?_;refine Qr x1.1 88 fun hlen2 => ?_;refine Qr x1.2.1 24 fun hlen3 => ?_;refine Pm NPeer x1.2.2 dU.peers 40 fun hlen4 => ?_;refine AlT fun g2 => ?_;refine Lq (Nat × List Step × SlV × List Place × SlV × Int × List Peer × SlV) [2,3,4,13,14] [false, true] (fun ⟨n1, l2, x2, p1, x3, version1, peers1, x4⟩ => ⟨[(15, .v (.int .i64 (n1 : Int)))], [⟨g2, 30, [x2.val l2.length, x3.val p1.length, .int .i64 version1, x4.val peers1.length]⟩], [], [RdL EStep x2 l2, RdL EPlace x3 p1, RdN NPeer x4 peers1], (n1 ≤ l1.length) ∧ (dj (⟨⟨l2, p1⟩, version1, peers1⟩ : Hub) = 0) ∧ (cu (l1.drop n1) l2 p1 version1 peers1) = (aF l1), l1.length - n1⟩) ⟨0, dU.h.l, x1.1, dU.h.t, x1.2.1, dU.version, dU.peers, x1.2.2⟩ ⟨N0, ((eo _).2 mT), hf.symm⟩ ?_;rintro ⟨n1, l2, x2, p1, x3, version1, peers1, x4⟩ ⟨hkn1, hinv, hf1⟩;simp only [Lc];refine Cu (fun hlt0 => ?_) fun hge0 => ?_
  ·refine Tx ?_;refine Ex NRec y1 fun (γ1 : Nat → SlV) => ?_;refine Sq (Xn n1) ?_;refine Sq (Xe (cR (γ1 n1) (gt l1 n1))) ?_;refine Gg NRec γ1 n1 0 ?_;refine AlT fun g3 => ?_;refine Ck (qM x2 x3 x4 (⟨(⟨l2, p1⟩ : History), version1, peers1⟩ : Hub) (γ1 n1) (gt l1 n1) hinv) fun x5 => ?_;refine Pr EStep x5.1 (bd (⟨(⟨l2, p1⟩ : History), version1, peers1⟩ : Hub) (gt l1 n1)).1.h.l 88 fun hlen5 => ?_;refine Pr EPlace x5.2.1 (bd (⟨(⟨l2, p1⟩ : History), version1, peers1⟩ : Hub) (gt l1 n1)).1.h.t 24 fun hlen6 => ?_;refine Pm NPeer x5.2.2 (bd (⟨(⟨l2, p1⟩ : History), version1, peers1⟩ : Hub) (gt l1 n1)).1.peers 40 fun hlen7 => ?_;have hf := Ri hf1.symm;rw [aK hlt0, cu] at hf;refine Cn hf (fun hc3 hc3p hf => ?_) fun hc3 hc3p hf => ?_
   ·refine Tx ?_;refine Fc EStep ?_;refine Fc EPlace ?_;refine Ft NPeer ?_;refine Rx ?_; exact Rr ⟨Z0, Z0, Z0⟩
   ·refine Tt ?_;refine ⟨⟨(n1 + 1), (bd (⟨(⟨l2, p1⟩ : History), version1, peers1⟩ : Hub) (gt l1 n1)).1.h.l, x5.1, (bd (⟨(⟨l2, p1⟩ : History), version1, peers1⟩ : Hub) (gt l1 n1)).1.h.t, x5.2.1, (bd (⟨(⟨l2, p1⟩ : History), version1, peers1⟩ : Hub) (gt l1 n1)).1.version, (bd (⟨(⟨l2, p1⟩ : History), version1, peers1⟩ : Hub) (gt l1 n1)).1.peers, x5.2.2⟩, ⟨hlt0, ((eo _).2 (vr ((eo _).1 hinv) (ag (by assumption))).1), hf.symm⟩, Oo, Le4⟩
  ·have hf := Ri hf1.symm;rw [Dl hge0, cu] at hf;refine Rx ?_; exact Rr ⟨x2, x3, x4⟩
theorem yE (eq : Peer → Peer → Bool) (he : ∀ a, eq a a = true) (s : List Peer) : ∀ (r : List Peer) (n : Nat), r = s.drop n → cz s eq r n = true
 | [], n, _ => by simp [cz]
 | p :: r, n, h => by
  have hn : n < s.length := by
   rcases Nat.lt_or_ge n s.length with h1 | h1
   ·exact h1
   ·rw [Dl h1] at h; cases h
  rw [aK hn] at h;obtain ⟨rfl, h'⟩ := List.cons.inj h;rw [cz, he];exact yE eq he s r (n + 1) h'
theorem nz (a : Hub) : jj a a = true := by
 unfold jj;have h1 : gj a.h a.h = true := (qS _ _).2 rfl;have h2 : dY a.peers a.peers ji = true := by
  unfold dY;have e : ((a.peers.length : Int) != (a.peers.length : Int)) = false := bne_self_eq_false _;rw [e, cond_false];exact yE ji (fun p => by simp [ji]) a.peers a.peers 0 rfl
 rw [h1, h2]; simp
theorem tY : ∀ (l : List Rec) (a : List Step) (b : List Place) (v : Int) (p : List Peer), dj ⟨⟨a, b⟩, v, p⟩ = 0 → eL l a b v p = cu l a b v p
 | [], _, _, _, _, _ => rfl
 | r :: l, a, b, v, p, hc => by
  rw [eL, cu, lQ];cases h2 : (aH r != 0) with
  | true =>
   have e : bd ⟨⟨a, b⟩, v, p⟩ r = (hub0, aH r) := by unfold bd; rw [h2]; rfl
   rw [e];simp only [cond_true, h2]
  | false =>
   have hn := ag h2;rw [cond_false, td hc hn];cases h3 : ((bd ⟨⟨a, b⟩, v, p⟩ r).2 != 0) with
   | true => rfl
   | false =>
    rw [cond_false, cond_false];exact tY l _ _ _ _ ((eo _).2 (vr ((eo _).1 hc) (ag h3)).1)
theorem sG (l : List Rec) : bv l = aF l := by
 unfold bv aF;cases decide ((l.length : Int) > 60) with
 | true => rfl
 | false =>
  simp only [cond_false];exact tY l _ _ _ _ ((eo _).2 mT)
def ez (gone1 : List Int) : List Place → Int → Int
 | [], last2 => 0
 | pn2 :: rn2, last2 => (bif ((aU pn2) != 0) then (aU pn2) else (bif (decide (pn2.node ≤ last2) || (decide (pn2.node ∈ gone1))) then 6 else (ez gone1 rn2 pn2.node)))
def fh (gone1 : List Int) (here1 : List Place) : List Int → Int → Int
 | [], last1 => (ez gone1 here1 0)
 | pn1 :: rn1, last1 => (bif (!(ak pn1 1 15)) then 5 else (bif decide (pn1 ≤ last1) then 6 else (fh gone1 here1 rn1 pn1)))
def fe (gone1 : List Int) (here1 : List Place) : Int :=
 (bif (decide ((gone1.length : Int) > 16) || decide ((here1.length : Int) > 16)) then 2 else (fh gone1 here1 gone1 0))
theorem kI (y1 : SlV) (gone1 : List Int) (y2 : SlV) (here1 : List Place) : Du 142 [y1.val gone1.length, y2.val here1.length] [RdL EInt y1 gone1, RdL EPlace y2 here1] (.int .i64 (fe gone1 here1)) := by
 refine Dp Tryz.func142 fun C => ?_;refine Qc y1 8 fun hlen1 => ?_;refine Qc y2 24 fun hlen2 => ?_;have hf := Ri (fe.eq_1 gone1 here1);refine Kh hf fun hc1 hf => ?_;refine Lq (Int × Nat) [0,1,4,19,20] [] (fun ⟨last1, n1⟩ => ⟨[(5, .v (.int .i64 last1)), (21, .v (.int .i64 (n1 : Int)))], [], [], [], (n1 ≤ gone1.length) ∧ (fh gone1 here1 (gone1.drop n1) last1) = (fe gone1 here1), gone1.length - n1⟩) ⟨0, 0⟩ ⟨N0, hf.symm⟩ ?_;rintro ⟨last1, n1⟩ ⟨hkn1, hf1⟩;simp only [Lc];refine Cu (fun hlt0 => ?_) fun hge0 => ?_
 ·refine Sy Tz (Xi n1) ?_;refine Sq X1 ?_;refine Ck (aB (gt gone1 n1) 1 15) fun _ => ?_;have hf := Ri hf1.symm;rw [aK hlt0, fh] at hf;refine Kh hf fun hc3 hf => ?_;refine Kp hf fun hc4 hc4p hf => ?_;refine Tt ?_;refine ⟨⟨(gt gone1 n1), (n1 + 1)⟩, ⟨hlt0, hf.symm⟩, Oo, Le4⟩
 ·refine Lq (Int × Nat) [0,4,33,34] [] (fun ⟨last2, n2⟩ => ⟨[(5, .v (.int .i64 last2)), (35, .v (.int .i64 (n2 : Int)))], [], [], [], (n2 ≤ here1.length) ∧ (ez gone1 (here1.drop n2) last2) = (fe gone1 here1), here1.length - n2⟩) ⟨0, 0⟩ ⟨N0, (by rw [← hf1, Dl hge0]; simp only [fh, Cf, D0])⟩ ?_;rintro ⟨last2, n2⟩ ⟨hkn2, hf2⟩;simp only [Lc];refine Cu (fun hlt1 => ?_) fun hge1 => ?_
  ·refine Sy Tz (Xi n2) ?_;refine Sq Xa ?_;refine AlT fun g1 => ?_;refine Ck (gw (gt here1 n2)) fun _ => ?_;have hf := Ri hf2.symm;rw [aK hlt1, ez] at hf;refine Kn hf fun hc6 hc6p hf => ?_;refine Cy (fun hG_ => de y1 gone1 (gt here1 n2).node) ?_;refine Kh hf fun hc7 hf => ?_;refine Tt ?_;refine ⟨⟨(gt here1 n2).node, (n2 + 1)⟩, ⟨hlt1, hf.symm⟩, Oo, Le4⟩
  ·have hf := Ri hf2.symm;rw [Dl hge1, ez] at hf;exact Ru
def dq (d1 : Delta) : Int :=
 (bif ((fe d1.gone d1.here) != 0) then (fe d1.gone d1.here) else (fe d1.wayGone d1.wayHere))
theorem ja (y1 : SlV) (y2 : SlV) (y3 : SlV) (y4 : SlV) (d1 : Delta) : Du 91 [.agg ⟨cD y1 y2 y3 y4 d1⟩] [RdL EInt y1 d1.gone, RdL EPlace y2 d1.here, RdL EInt y3 d1.wayGone, RdL EPlace y4 d1.wayHere] (.int .i64 (dq d1)) := by
 refine Dp Tryz.func91 fun C => ?_;refine Qc y1 8 fun hlen1 => ?_;refine Qc y2 24 fun hlen2 => ?_;refine Qc y3 8 fun hlen3 => ?_;refine Qc y4 24 fun hlen4 => ?_;refine BxT fun g1 => ?_;refine Ck (kI y1 d1.gone y2 d1.here) fun _ => ?_;have hf := Ri (dq.eq_1 d1);refine Kn hf fun hc1 hc1p hf => ?_;refine Ck (kI y3 d1.wayGone y4 d1.wayHere) fun _ => ?_;exact Ru
def i9 (a1 : Delta) (b1 : Delta) : Bool :=
 ((((decide (a1.gone = b1.gone)) && (decide (a1.here = b1.here))) && (decide (a1.wayGone = b1.wayGone))) && (decide (a1.wayHere = b1.wayHere)))
theorem lV (y1 : SlV) (y2 : SlV) (y3 : SlV) (y4 : SlV) (a1 : Delta) (y5 : SlV) (y6 : SlV) (y7 : SlV) (y8 : SlV) (b1 : Delta) : Du 99 [.agg ⟨cD y1 y2 y3 y4 a1⟩, .agg ⟨cD y5 y6 y7 y8 b1⟩] [RdL EInt y1 a1.gone, RdL EPlace y2 a1.here, RdL EInt y3 a1.wayGone, RdL EPlace y4 a1.wayHere, RdL EInt y5 b1.gone, RdL EPlace y6 b1.here, RdL EInt y7 b1.wayGone, RdL EPlace y8 b1.wayHere] (.bool (i9 a1 b1)) := by
 refine Dp Tryz.func99 fun C => ?_;refine Qc y1 8 fun hlen1 => ?_;refine Qc y2 24 fun hlen2 => ?_;refine Qc y3 8 fun hlen3 => ?_;refine Qc y4 24 fun hlen4 => ?_;refine Qc y5 8 fun hlen5 => ?_;refine Qc y6 24 fun hlen6 => ?_;refine Qc y7 8 fun hlen7 => ?_;refine Qc y8 24 fun hlen8 => ?_;refine BxT fun g1 => ?_;refine BxT fun g2 => ?_;refine Ck ((fun y1 a y2 b => cl y1 y2 a b) y1 a1.gone y5 b1.gone) fun _ => ?_;refine Cy (fun hG_ => (fun y1 a y2 b => cf y1 y2 a b) y2 a1.here y6 b1.here) ?_;refine Cy (fun hG_ => (fun y1 a y2 b => cl y1 y2 a b) y3 a1.wayGone y7 b1.wayGone) ?_;refine Cy (fun hG_ => (fun y1 a y2 b => cf y1 y2 a b) y4 a1.wayHere y8 b1.wayHere) ?_;have hf := Ri (i9.eq_1 a1 b1);exact Ru
def bp  : List Mail → Int
 | [] => 0
 | pn1 :: rn1 => (bif (!(ak pn1.kind 1 3)) then 4 else (bif (!(ak pn1.who 0 2)) then 5 else (bif ((pn1.kind == 1) && ((((((((pn1.life != 0) || (pn1.seq != 0)) || (pn1.time != 0)) || (pn1.version != 0)) || (pn1.frm != 0)) || decide ((((pn1.v.roots.length : Int) + (pn1.v.known.length : Int)) + (pn1.v.way.length : Int)) > 0)) || decide (((((pn1.d.gone.length : Int) + (pn1.d.here.length : Int)) + (pn1.d.wayGone.length : Int)) + (pn1.d.wayHere.length : Int)) > 0)) || (pn1.o.who != pn1.who))) then 4 else (bif (pn1.kind == 1) then (bif ((aG pn1.o) != 0) then (aG pn1.o) else (bp rn1)) else (bif (!(decide (pn1.o = (⟨0, 0, 0, 0, 0, 0, 0⟩ : Op)))) then 4 else (bif ((pn1.kind == 2) && ((pn1.frm != 0) || decide (((((pn1.d.gone.length : Int) + (pn1.d.here.length : Int)) + (pn1.d.wayGone.length : Int)) + (pn1.d.wayHere.length : Int)) > 0))) then 4 else (bif ((pn1.kind == 3) && decide ((((pn1.v.roots.length : Int) + (pn1.v.known.length : Int)) + (pn1.v.way.length : Int)) > 0)) then 4 else (bif (((((!(ak pn1.life 1 50)) || (!(ak pn1.seq 0 30))) || (!(ak pn1.time 0 10000))) || (!(ak pn1.version 1 60))) || (!(ak pn1.frm 0 (pn1.version - 1)))) then 3 else (bif (pn1.kind == 3) then (bif ((dq pn1.d) != 0) then (dq pn1.d) else (bp rn1)) else (bif ((bu pn1.v) != 0) then (bu pn1.v) else (bp rn1)))))))))))
def ci (l1 : List Mail) : Int :=
 (bif decide ((l1.length : Int) > 30) then 2 else (bp l1))
theorem jq (y1 : SlV) (l1 : List Mail) : Du 33 [y1.val l1.length] [RdN NMail y1 l1] (.int .i64 (ci l1)) := by
 refine Dp Tryz.func33 fun C => ?_;refine Qn y1 280 fun hlen1 => ?_;have hf := Ri (ci.eq_1 l1);refine Kp hf fun hc1 hc1p hf => ?_;refine Lq Nat [2,13,14] [] (fun n1 => ⟨[(15, .v (.int .i64 (n1 : Int)))], [], [], [], (n1 ≤ l1.length) ∧ (bp (l1.drop n1)) = (ci l1), l1.length - n1⟩) 0 ⟨N0, hf.symm⟩ ?_;rintro n1 ⟨hkn1, hf1⟩;simp only [Lc];refine Cu (fun hlt0 => ?_) fun hge0 => ?_
 ·refine Tx ?_;refine Ex NMail y1 fun (γ1 : Nat → SlV × SlV × SlV × SlV × SlV × SlV × SlV) => ?_;refine Sq (Xn n1) ?_;refine Sq (Xe (cM (γ1 n1).1 (γ1 n1).2.1 (γ1 n1).2.2.1 (γ1 n1).2.2.2.1 (γ1 n1).2.2.2.2.1 (γ1 n1).2.2.2.2.2.1 (γ1 n1).2.2.2.2.2.2 (gt l1 n1))) ?_;refine Gg NMail γ1 n1 0 ?_;refine Gg NMail γ1 n1 1 ?_;refine Gg NMail γ1 n1 2 ?_;refine Gg NMail γ1 n1 3 ?_;refine Gg NMail γ1 n1 4 ?_;refine Gg NMail γ1 n1 5 ?_;refine Gg NMail γ1 n1 6 ?_;refine Pr EInt (γ1 n1).1 (gt l1 n1).v.roots 8 fun hlen2 => ?_;refine Pr EPlace (γ1 n1).2.1 (gt l1 n1).v.known 24 fun hlen3 => ?_;refine Pr EPlace (γ1 n1).2.2.1 (gt l1 n1).v.way 24 fun hlen4 => ?_;refine Pr EInt (γ1 n1).2.2.2.1 (gt l1 n1).d.gone 8 fun hlen5 => ?_;refine Pr EPlace (γ1 n1).2.2.2.2.1 (gt l1 n1).d.here 24 fun hlen6 => ?_;refine Pr EInt (γ1 n1).2.2.2.2.2.1 (gt l1 n1).d.wayGone 8 fun hlen7 => ?_;refine Pr EPlace (γ1 n1).2.2.2.2.2.2 (gt l1 n1).d.wayHere 24 fun hlen8 => ?_;refine AlT fun g1 => ?_;refine Ck (aB (gt l1 n1).kind 1 3) fun _ => ?_;have hf := Ri hf1.symm;rw [aK hlt0, bp] at hf;refine Kh hf fun hc3 hf => ?_;refine Ck (aB (gt l1 n1).who 0 2) fun _ => ?_;refine Kh hf fun hc4 hf => ?_;refine Kh hf fun hc5 hf => ?_
  refine Ce hf (fun hc6 hc6p hf => ?_) fun hc6 hc6p hf => ?_
  ·refine Ck (fl (gt l1 n1).o) fun _ => ?_;refine Kn hf fun hc7 hc7p hf => ?_;refine Tt ?_;refine ⟨(n1 + 1), ⟨hlt0, hf.symm⟩, Oo, Le4⟩
  ·refine Sy Tz (q_neE tC (lI (gt l1 n1).o (⟨0, 0, 0, 0, 0, 0, 0⟩ : Op)) rfl rfl Zf rfl Zf rfl rfl) ?_;refine Ch hf (fun hc8 hf => ?_) fun hc8 hf => ?_
   ·refine Cd' (fun hc9 => ?_) fun hc9 => ?_
    ·exact Ru
    ·exact Bool.noConfusion (hc9.symm.trans hc8)
   ·refine Ch hf (fun hc10 hf => ?_) fun hc10 hf => ?_
    ·refine Cd' (fun hc11 => ?_) fun hc11 => ?_
     ·exact Ru
     ·exact Bool.noConfusion (hc11.symm.trans hc10)
    ·refine Kh hf fun hc12 hf => ?_;refine Ck (aB (gt l1 n1).life 1 50) fun _ => ?_;refine Cy (fun hG_ => aB (gt l1 n1).seq 0 30) ?_;refine Cy (fun hG_ => aB (gt l1 n1).time 0 10000) ?_;refine Cy (fun hG_ => aB (gt l1 n1).version 1 60) ?_;refine Tx ?_;refine Sg Gz (q_sub rfl rfl Bt rfl Bt (by intro h; simp [ak] at h; omega)) ?_;refine Cy (fun hG_ => aB (gt l1 n1).frm 0 ((gt l1 n1).version - 1)) ?_;refine Kh hf fun hc13 hf => ?_;refine Ck (d5 (γ1 n1).1 (γ1 n1).2.1 (γ1 n1).2.2.1 (gt l1 n1).v) fun _ => ?_;refine Ce hf (fun hc14 hc14p hf => ?_) fun hc14 hc14p hf => ?_
     ·refine Ck (ja (γ1 n1).2.2.2.1 (γ1 n1).2.2.2.2.1 (γ1 n1).2.2.2.2.2.1 (γ1 n1).2.2.2.2.2.2 (gt l1 n1).d) fun _ => ?_;refine Kn hf fun hc15 hc15p hf => ?_;refine Tt ?_;refine ⟨(n1 + 1), ⟨hlt0, hf.symm⟩, Oo, Le4⟩
     ·refine Kn hf fun hc16 hc16p hf => ?_;refine Tt ?_;refine ⟨(n1 + 1), ⟨hlt0, hf.symm⟩, Oo, Le4⟩
 ·have hf := Ri hf1.symm;rw [Dl hge0, bp] at hf;exact Ru
def dx (c1 : Client) (me1 : Int) : List Op → Int → Int → Int
 | [], seq1, last1 => 0
 | pn1 :: rn1, seq1, last1 => (bif ((aG pn1) != 0) then (aG pn1) else (bif (((((pn1.who != me1) || (pn1.life != c1.life)) || (pn1.seq != (seq1 + 1))) || decide (pn1.time ≤ last1)) || decide (pn1.time > c1.time)) then 4 else (dx c1 me1 rn1 (seq1 + 1) pn1.time)))
def bx (c1 : Client) (me1 : Int) : Int :=
 (bif (!(ak me1 0 2)) then 5 else (bif ((((!(ak c1.life 0 50)) || (!(ak c1.time 0 10000))) || (!(ak c1.seq 0 30))) || (!(ak c1.version 0 60))) then 3 else (bif decide ((c1.pending.length : Int) > 8) then 2 else (bif ((bu c1.v) != 0) then (bu c1.v) else (bif ((((c1.life == 0) && ((decide (c1.time > 0) || decide (c1.seq > 0)) || decide (c1.version > 0))) || ((c1.version == 0) && decide ((c1.v.roots.length : Int) > 0))) || decide ((c1.pending.length : Int) > c1.seq)) then 4 else (dx c1 me1 c1.pending (c1.seq - (c1.pending.length : Int)) 0))))))
theorem fr (y1 : SlV) (y2 : SlV) (y3 : SlV) (y4 : SlV) (c1 : Client) (me1 : Int) : Du 36 [.agg ⟨cC y1 y2 y3 y4 c1⟩, .int .i64 me1] [RdL EOp y1 c1.pending, RdL EInt y2 c1.v.roots, RdL EPlace y3 c1.v.known, RdL EPlace y4 c1.v.way] (.int .i64 (bx c1 me1)) := by
 refine Dp Tryz.func36 fun C => ?_;refine Qc y1 56 fun hlen1 => ?_;refine Qc y2 8 fun hlen2 => ?_;refine Qc y3 24 fun hlen3 => ?_;refine Qc y4 24 fun hlen4 => ?_;refine BxT fun g1 => ?_;refine Ck (aB me1 0 2) fun _ => ?_;have hf := Ri (bx.eq_1 c1 me1);refine Kh hf fun hc1 hf => ?_;refine Ck (aB c1.life 0 50) fun _ => ?_;refine Cy (fun hG_ => aB c1.time 0 10000) ?_;refine Cy (fun hG_ => aB c1.seq 0 30) ?_;refine Cy (fun hG_ => aB c1.version 0 60) ?_;refine Kh hf fun hc2 hf => ?_;have hrg := hc2;simp only [ak, Bool.or_eq_false_iff, Bool.not_eq_false', Ba] at hrg;refine Kp hf fun hc3 hc3p hf => ?_;refine Ck (d5 y2 y3 y4 c1.v) fun _ => ?_;refine Kn hf fun hc4 hc4p hf => ?_;refine Kh hf fun hc5 hf => ?_;refine Lq (Int × Int × Nat) [1,2,4,91,92] [true] (fun ⟨seq1, last1, n1⟩ => ⟨[(6, .v (.int .i64 seq1)), (7, .v (.int .i64 last1)), (93, .v (.int .i64 (n1 : Int)))], [], [], [], (n1 ≤ c1.pending.length) ∧ (seq1 = c1.seq - (c1.pending.length : Int) + (n1 : Int)) ∧ (dx c1 me1 (c1.pending.drop n1) seq1 last1) = (bx c1 me1), c1.pending.length - n1⟩) ⟨(c1.seq - (c1.pending.length : Int)), 0, 0⟩ ⟨N0, (by simp), hf.symm⟩ ?_;rintro ⟨seq1, last1, n1⟩ ⟨hkn1, hsq, hf1⟩;simp only [Lc]
 refine Cu (fun hlt0 => ?_) fun hge0 => ?_
 ·refine Sy Tz (Xi n1) ?_;refine Sq Xa ?_;refine AlT fun g2 => ?_;refine Ck (fl (gt c1.pending n1)) fun _ => ?_;have hf := Ri hf1.symm;rw [aK hlt0, dx] at hf;refine Kn hf fun hc7 hc7p hf => ?_;refine Kh hf fun hc8 hf => ?_;refine Tt ?_;refine ⟨⟨(seq1 + 1), (gt c1.pending n1).time, (n1 + 1)⟩, ⟨hlt0, (by (try simp only []); omega), hf.symm⟩, Oo, Le4⟩
 ·have hf := Ri hf1.symm;rw [Dl hge0, dx] at hf;exact Ru
def em (a1 : Client) (b1 : Client) : Bool :=
 ((((((a1.life == b1.life) && (a1.time == b1.time)) && (a1.seq == b1.seq)) && (a1.version == b1.version)) && (decide (a1.pending = b1.pending))) && (fE a1.v b1.v))
theorem lE (y1 : SlV) (y2 : SlV) (y3 : SlV) (y4 : SlV) (a1 : Client) (y5 : SlV) (y6 : SlV) (y7 : SlV) (y8 : SlV) (b1 : Client) : Du 44 [.agg ⟨cC y1 y2 y3 y4 a1⟩, .agg ⟨cC y5 y6 y7 y8 b1⟩] [RdL EOp y1 a1.pending, RdL EInt y2 a1.v.roots, RdL EPlace y3 a1.v.known, RdL EPlace y4 a1.v.way, RdL EOp y5 b1.pending, RdL EInt y6 b1.v.roots, RdL EPlace y7 b1.v.known, RdL EPlace y8 b1.v.way] (.bool (em a1 b1)) := by
 refine Dp Tryz.func44 fun C => ?_;refine Qc y1 56 fun hlen1 => ?_;refine Qc y2 8 fun hlen2 => ?_;refine Qc y3 24 fun hlen3 => ?_;refine Qc y4 24 fun hlen4 => ?_;refine Qc y5 56 fun hlen5 => ?_;refine Qc y6 8 fun hlen6 => ?_;refine Qc y7 24 fun hlen7 => ?_;refine Qc y8 24 fun hlen8 => ?_;refine BxT fun g1 => ?_;refine BxT fun g2 => ?_;refine Cy (fun hG_ => (fun y1 a y2 b => oB y1 y2 a b) y1 a1.pending y5 b1.pending) ?_;refine Cy (fun hG_ => ic y2 y3 y4 a1.v y6 y7 y8 b1.v) ?_;have hf := Ri (em.eq_1 a1 b1);exact Ru
def bk (life1 : Int) (time1 : Int) : Client × Int :=
 (bif ((!(ak life1 1 50)) || (!(ak time1 0 10000))) then ((⟨0, 0, 0, ([] : List Op), 0, (⟨[], [], []⟩ : View)⟩ : Client), 3) else ((⟨life1, time1, 0, ([] : List Op), 0, (⟨[], [], []⟩ : View)⟩ : Client), 0))
theorem iU (life1 : Int) (time1 : Int) : Dw 58 [.int .i64 life1, .int .i64 time1] [] (fun (X : SlV × SlV × SlV × SlV) => .tuple #[.agg ⟨cC X.1 X.2.1 X.2.2.1 X.2.2.2 (bk life1 time1).1⟩, .int .i64 (bk life1 time1).2]) (fun X => [RdL EOp X.1 (bk life1 time1).1.pending, RdL EInt X.2.1 (bk life1 time1).1.v.roots, RdL EPlace X.2.2.1 (bk life1 time1).1.v.known, RdL EPlace X.2.2.2 (bk life1 time1).1.v.way]) := by
 refine Dp Tryz.func58 fun C => ?_;refine AlT fun g1 => ?_;refine Ck (aB life1 1 50) fun _ => ?_;refine Cy (fun hG_ => aB time1 0 10000) ?_;have hf := Ri (bk.eq_1 life1 time1);refine Ch hf (fun hc1 hf => ?_) fun hc1 hf => ?_
 ·refine Tx ?_;refine Fc EOp ?_;refine Fc EInt ?_;refine Fc EPlace ?_;refine Rx ?_; exact Rr ⟨Z0, Z0, Z0, Z0⟩
 ·refine Tx ?_;refine Fc EOp ?_;refine Fc EInt ?_;refine Fc EPlace ?_;refine Rx ?_; exact Rr ⟨Z0, Z0, Z0, Z0⟩
end Go.Proofs.YtkjccbdeaflekaaGreatDoor
namespace Go.Proofs.YtkjccbdeaflekaaGreatDoor
open Go Go.Proofs.YtkjccbdeaflekaaGreatDoor.Fw Go.Proofs
attribute [local irreducible] CW RW
def fC (a1 : List Place) (gone1 : List Int) : List Place → (List Place) → ((List Int) × (List Place))
 | [], here1 => (gone1, here1)
 | pn2 :: rn2, here1 => (bif (!(decide ((bq a1 pn2.node) = pn2))) then (fC a1 gone1 rn2 (here1 ++ [pn2])) else (fC a1 gone1 rn2 here1))
def fD (a1 : List Place) (b1 : List Place) : List Place → (List Int) → ((List Int) × (List Place))
 | [], gone1 => (fC a1 gone1 b1 [])
 | pn1 :: rn1, gone1 => (bif ((bq b1 pn1.node).node == 0) then (fD a1 b1 rn1 (gone1 ++ [pn1.node])) else (fD a1 b1 rn1 gone1))
def fq (a1 : List Place) (b1 : List Place) : (List Int) × (List Place) :=
 (fD a1 b1 a1 [])
theorem mZ (y1 : SlV) (a1 : List Place) (y2 : SlV) (b1 : List Place) : Dw 207 [y1.val a1.length, y2.val b1.length] [RdL EPlace y1 a1, RdL EPlace y2 b1] (fun (X : SlV × SlV) => .tuple #[X.1.val (fq a1 b1).1.length, X.2.val (fq a1 b1).2.length]) (fun X => [RdL EInt X.1 (fq a1 b1).1, RdL EPlace X.2 (fq a1 b1).2]) := by
 refine Dp Tryz.func207 fun C => ?_;refine Qc y1 24 fun hlen1 => ?_;refine Qc y2 24 fun hlen2 => ?_;refine Lq (List Int × SlV × Option Nat × Nat) [0,1,4,5,7,12,13] [] (fun ⟨gone1, x1, x1b, n1⟩ => ⟨[(6, .v (x1.val gone1.length)), (14, .v (.int .i64 (n1 : Int)))], [], [ownL EInt 3 x1 x1b gone1], [], (n1 ≤ a1.length) ∧ (gone1.length ≤ n1) ∧ (fD a1 b1 (a1.drop n1) gone1) = (fq a1 b1), a1.length - n1⟩) ⟨[], ⟨none, 0⟩, none, 0⟩ ⟨N0, Nz, (by simp only [fq, Cf, D0])⟩ ?_ (hs := Le.trans (eI EInt 3) Le4);rintro ⟨gone1, x1, x1b, n1⟩ ⟨hkn1, hgone1, hf1⟩;simp only [Lc];refine Cu (fun hlt0 => ?_) fun hge0 => ?_
 ·refine Sy Tz (Xi n1) ?_;refine Sq Xa ?_;refine AlT fun g1 => ?_;refine Ck (ib y2 b1 (gt a1 n1).node) fun _ => ?_;have hf := Ri hf1.symm;rw [aK hlt0, fD] at hf;refine Ce hf (fun hc2 hc2p hf => ?_) fun hc2 hc2p hf => ?_
  ·refine Bl EInt [(gt a1 n1).node] fun x2 x2b => ?_;refine Ap EInt 8 gone1 [(gt a1 n1).node] x1b fun x3 x3b => ?_;refine Tt ?_;refine ⟨⟨(gone1 ++ [(gt a1 n1).node]), x3, x3b, (n1 + 1)⟩, ⟨hlt0, Zl, hf.symm⟩, Oo, Le4⟩
  ·refine Tt ?_;refine ⟨⟨gone1, x1, x1b, (n1 + 1)⟩, ⟨hlt0, Zl, hf.symm⟩, Oo, Le4⟩
 ·refine Lq (List Place × SlV × Option Nat × Nat) [0,4,5,6,31,32] [] (fun ⟨here1, x4, x4b, n2⟩ => ⟨[(7, .v (x4.val here1.length)), (33, .v (.int .i64 (n2 : Int)))], [], [ownL EInt 3 x1 x1b gone1, ownL EPlace 99 x4 x4b here1], [], (n2 ≤ b1.length) ∧ (here1.length ≤ n2) ∧ (fC a1 gone1 (b1.drop n2) here1) = (fq a1 b1), b1.length - n2⟩) ⟨[], ⟨none, 0⟩, none, 0⟩ ⟨N0, Nz, (by rw [← hf1, Dl hge0]; simp only [fD, Cf, D0])⟩ ?_ (hs := Le.trans (eI EPlace 99) Le4);rintro ⟨here1, x4, x4b, n2⟩ ⟨hkn2, hhere1, hf2⟩;simp only [Lc];refine Cu (fun hlt1 => ?_) fun hge1 => ?_
  ·refine Sy Tz (Xi n2) ?_;refine Sq Xa ?_;refine AlT fun g2 => ?_;refine Rg [] ?_;refine Dx [0,1,2,3,5] ?_;refine Rn 4 ?_;refine Ck (ib y1 a1 (gt b1 n2).node) fun _ => ?_;refine Ra 6 rfl (q_neE oX (kM (bq a1 (gt b1 n2).node) (gt b1 n2)) rfl rfl Zf rfl Zf rfl rfl) ?_;refine Re0 ?_;have hf := Ri hf2.symm;rw [aK hlt1, fC] at hf;refine Ch hf (fun hc4 hf => ?_) fun hc4 hf => ?_
   ·refine Bl EPlace [(gt b1 n2)] fun x5 x5b => ?_;refine Ap EPlace 24 here1 [(gt b1 n2)] x4b fun x6 x6b => ?_;refine Tt ?_;refine ⟨⟨(here1 ++ [(gt b1 n2)]), x6, x6b, (n2 + 1)⟩, ⟨hlt1, Zl, hf.symm⟩, Oo, Le4⟩
   ·refine Tt ?_;refine ⟨⟨here1, x4, x4b, (n2 + 1)⟩, ⟨hlt1, Zl, hf.symm⟩, Oo, Le4⟩
  ·refine Tx ?_;refine Fz x1 ?_;refine Fz x4 ?_;have hf := Ri hf2.symm;rw [Dl hge1, fC] at hf;refine Rx ?_; exact Rr ⟨x1, x4⟩
def kg (from1 : View) (to1 : View) : Delta × Int :=
 (bif (!(decide (from1.roots = to1.roots))) then ((⟨[], [], [], []⟩ : Delta), 4) else ((⟨(fq from1.known to1.known).1, (fq from1.known to1.known).2, (fq from1.way to1.way).1, (fq from1.way to1.way).2⟩ : Delta), 0))
def kh (from1 : View) (to1 : View) : Delta × Int :=
 (bif ((cn to1) != 0) then ((⟨[], [], [], []⟩ : Delta), (cn to1)) else (kg from1 to1))
def ki (from1 : View) (to1 : View) : Delta × Int :=
 (bif ((cn from1) != 0) then ((⟨[], [], [], []⟩ : Delta), (cn from1)) else (kh from1 to1))
def fK (from1 : View) (to1 : View) : Delta × Int :=
 (ki from1 to1)
theorem vB (y1 : SlV) (y2 : SlV) (y3 : SlV) (from1 : View) (y4 : SlV) (y5 : SlV) (y6 : SlV) (to1 : View) : Dw 183 [.agg ⟨cV y1 y2 y3 from1⟩, .agg ⟨cV y4 y5 y6 to1⟩] [RdL EInt y1 from1.roots, RdL EPlace y2 from1.known, RdL EPlace y3 from1.way, RdL EInt y4 to1.roots, RdL EPlace y5 to1.known, RdL EPlace y6 to1.way] (fun (X : SlV × SlV × SlV × SlV) => .tuple #[.agg ⟨cD X.1 X.2.1 X.2.2.1 X.2.2.2 (fK from1 to1).1⟩, .int .i64 (fK from1 to1).2]) (fun X => [RdL EInt X.1 (fK from1 to1).1.gone, RdL EPlace X.2.1 (fK from1 to1).1.here, RdL EInt X.2.2.1 (fK from1 to1).1.wayGone, RdL EPlace X.2.2.2 (fK from1 to1).1.wayHere]) := by
 refine Dp Tryz.func183 fun C => ?_;refine Qc y1 8 fun hlen1 => ?_;refine Qc y2 24 fun hlen2 => ?_;refine Qc y3 24 fun hlen3 => ?_;refine Qc y4 8 fun hlen4 => ?_;refine Qc y5 24 fun hlen5 => ?_;refine Qc y6 24 fun hlen6 => ?_;refine BxT fun g1 => ?_;refine BxT fun g2 => ?_;refine AlT fun g3 => ?_;refine Sy Tz (po rfl rfl Zf rfl rfl rfl rfl) ?_;refine Lq Nat [2,3,4,5,12] [true, true, true] (fun n1 => ⟨[(13, .v (.int .i64 (n1 : Int)))], [], [], [], (n1 ≤ 2) ∧ (match n1 with | 0 => (ki from1 to1) | 1 => (kh from1 to1) | _ => (kg from1 to1)) = (fK from1 to1), 2 - n1⟩) 0 ⟨N0, (by simp only [fK, Cf, D0])⟩ ?_;rintro n1 ⟨hkn1, hf1⟩;simp only [Lc];have hkn13 : n1 = 0 ∨ n1 = 1 ∨ n1 = 2 := by omega
 rcases hkn13 with rfl | rfl | rfl
 ·have hf1 : (ki from1 to1) = (fK from1 to1) := hf1;refine Cd' (fun hc1 => ?_) fun hc1 => ?_
  ·refine Sy Tz (q_ixL 0 rfl rfl Zf rfl Zf rfl rfl rfl rfl rfl) ?_;refine AlT fun g4 => ?_;refine Ck (il y1 y2 y3 from1) fun _ => ?_;have hf := Ri hf1.symm;rw [ki] at hf;refine Cn hf (fun hc2 hc2p hf => ?_) fun hc2 hc2p hf => ?_
   ·refine Tx ?_;refine Fc EInt ?_;refine Fc EPlace ?_;refine Rx ?_; exact Rr ⟨Z0, Z0, Z0, Z0⟩
   ·refine Tt ?_;refine ⟨1, ⟨by omega, hf.symm⟩, (show 2 - 1 < 2 - 0 by decide), Le4⟩
  ·exact Bool.noConfusion (hc1.symm.trans (decide_eq_true (by decide)))
 ·have hf1 : (kh from1 to1) = (fK from1 to1) := hf1;refine Cd' (fun hc3 => ?_) fun hc3 => ?_
  ·refine Sy Tz (q_ixL 1 rfl rfl Zf rfl Zf rfl rfl rfl rfl rfl) ?_;refine AlT fun g5 => ?_;refine Ck (il y4 y5 y6 to1) fun _ => ?_;have hf := Ri hf1.symm;rw [kh] at hf;refine Cn hf (fun hc4 hc4p hf => ?_) fun hc4 hc4p hf => ?_
   ·refine Tx ?_;refine Fc EInt ?_;refine Fc EPlace ?_;refine Rx ?_; exact Rr ⟨Z0, Z0, Z0, Z0⟩
   ·refine Tt ?_;refine ⟨2, ⟨by omega, hf.symm⟩, (show 2 - 2 < 2 - 1 by decide), Le4⟩
  ·exact Bool.noConfusion (hc3.symm.trans (decide_eq_true (by decide)))
 ·have hf1 : (kg from1 to1) = (fK from1 to1) := hf1;refine Cd' (fun hc5 => ?_) fun hc5 => ?_
  ·exact Bool.noConfusion (hc5.symm.trans (decide_eq_false (by decide)))
  ·refine Ck ((fun y1 a y2 b => cl y1 y2 a b) y1 from1.roots y4 to1.roots) fun _ => ?_;have hf := Ri hf1.symm;rw [kg] at hf;refine Ch hf (fun hc6 hf => ?_) fun hc6 hf => ?_
   ·refine Tx ?_;refine Fc EInt ?_;refine Fc EPlace ?_;refine Rx ?_; exact Rr ⟨Z0, Z0, Z0, Z0⟩
   ·refine AlT fun g6 => ?_;refine Ck (mZ y2 from1.known y5 to1.known) fun x1 => ?_;refine Qr x1.1 8 fun hlen7 => ?_;refine Qr x1.2 24 fun hlen8 => ?_;refine Ck (mZ y3 from1.way y6 to1.way) fun x2 => ?_;refine Qr x2.1 8 fun hlen9 => ?_;refine Qr x2.2 24 fun hlen10 => ?_;refine Rx ?_; exact Rr ⟨x1.1, x1.2, x2.1, x2.2⟩
variable {h : Hub}
theorem vq {r : Rec} (h0 : (bd h r).2 = 0) : aH r = 0 := by
 unfold bd at h0;cases h1 : (aH r != 0) with
 | true => rw [h1, cond_true] at h0; simp only at h0; rw [h0] at h1; cases h1
 | false => exact ag h1
theorem wT {l : List Rec} (h : (aF l).2 = 0) : l.length ≤ 60 ∧ (cu l [] [] 0 [⟨0, 0, []⟩, ⟨0, 0, []⟩, ⟨0, 0, []⟩]).2 = 0 ∧ aF l = cu l [] [] 0 [⟨0, 0, []⟩, ⟨0, 0, []⟩, ⟨0, 0, []⟩] := by
 unfold aF at h ⊢;cases h1 : decide ((l.length : Int) > 60) with
 | true => rw [h1] at h; cases h
 | false => rw [h1, cond_false] at h; have := of_decide_eq_false h1; exact ⟨by omega, h, rfl⟩
theorem xu {who : Int} (h0 : (bZ h who).2 = 0) : dj h = 0 ∧ 0 ≤ who ∧ who < 3 ∧ h.peers.length = 3 ∧ bZ h who = eG h.h.t (gt h.peers who.toNat).roots := by
 unfold bZ at h0 ⊢;cases h1 : (dj h != 0) with
 | true => rw [h1, cond_true] at h0; simp only at h0; rw [h0] at h1; cases h1
 | false =>
  rw [h1, cond_false] at h0;cases h2 : (decide (who < 0) || decide (who ≥ 3)) with
  | true => rw [h2, cond_true] at h0; cases h0
  | false =>
   simp only [Bo] at h2;have h3 := ag h1;exact ⟨h3, by omega, by omega, (gf h3).2.2.2, rfl⟩
theorem qZ : ∀ (l : List Rec) (h : Hub), IsHub h → (cu l h.h.l h.h.t h.version h.peers).2 = 0 →
  IsHub (cu l h.h.l h.h.t h.version h.peers).1 ∧ (cu l h.h.l h.h.t h.version h.peers).1.version = h.version + (l.length : Int)
 | [], h, hh, _ => ⟨hh, by simp [cu]⟩
 | q :: l, h, hh, h0 => by
  rw [cu] at h0 ⊢;have he : (⟨⟨h.h.l, h.h.t⟩, h.version, h.peers⟩ : Hub) = h := rfl;simp only [he] at h0 ⊢;cases h1 : ((bd h q).2 != 0) with
  | true => rw [h1, cond_true] at h0; simp only at h0; rw [h0] at h1; cases h1
  | false =>
   rw [h1, cond_false] at h0;have hn := vr hh (ag h1);obtain ⟨a, b⟩ := qZ l (bd h q).1 hn.1 h0;simp only [cond_false, List.length_cons];exact ⟨a, by rw [b, hn.2]; omega⟩
theorem rC {l : List Rec} (h0 : (aF l).2 = 0) : IsHub (aF l).1 ∧ (aF l).1.version = (l.length : Int) ∧ l.length ≤ 60 := by
 have hr := wT h0;have := qZ l dU mT hr.2.1;have e1 : aF l = cu l dU.h.l dU.h.t dU.version dU.peers := hr.2.2;rw [e1];exact ⟨this.1, by rw [this.2]; exact Int.zero_add _, hr.1⟩
theorem tU {l : List Rec} {S : Hub × Int} (hS : aF l = S) (h0 : S.2 = 0) : IsHub S.1 ∧ S.1.version = (l.length : Int) ∧ l.length ≤ 60 := by
 subst hS; exact rC h0
theorem nN : ∀ (l : List Mail), gg l = 0 ↔ ∀ m ∈ l, cr m = 0
 | [] => by simp [gg]
 | m :: l => by
  rw [gg];cases h1 : (cr m != 0) with
  | true => simp only [cond_true]; exact ⟨fun h => (by rw [h] at h1; cases h1), fun h => h m (.head _)⟩
  | false => simp only [cond_false, nN l, List.mem_cons, forall_eq_or_imp, ag h1, true_and]
theorem fb (l : List Mail) : cx l = 0 ↔ l.length ≤ 30 ∧ ∀ m ∈ l, cr m = 0 := by
 unfold cx;cases h1 : decide ((l.length : Int) > 30) with
 | true => have h1 := of_decide_eq_true h1; simp only [cond_true]; exact ⟨fun h => absurd h (by decide), fun h => absurd h.1 (by omega)⟩
 | false => have h1 := of_decide_eq_false h1; simp only [cond_false, nN]; exact ⟨fun h => ⟨by omega, h⟩, fun h => h.2⟩
variable {m : Mail}
theorem m5 (h : cr m = 0) : 0 ≤ m.who ∧ m.who < 3 := by
 unfold cr at h;cases h1 : (decide (m.kind < 1) || decide (m.kind > 3)) with
 | true => rw [h1, cond_true] at h; cases h
 | false =>
  rw [h1, cond_false] at h;cases h2 : (decide (m.who < 0) || decide (m.who ≥ 3)) with
  | true => rw [h2, cond_true] at h; cases h
  | false => simp only [Bo] at h2; omega
variable {k : Int}
theorem lq {l : List Mail} {t : Bool} (h : (aL l k t).2.2 = 0) : cx l = 0 ∧ 0 ≤ k ∧ k < (l.length : Int) ∧ aL l k t = (bif t then l else l.take k.toNat ++ l.drop (k + 1).toNat, gt l k.toNat, 0) := by
 obtain ⟨h1, h2, h3⟩ := xa h;refine ⟨h1, h2, h3, ?_⟩;unfold aL;have e1 : (cx l != 0) = false := by rw [h1]; rfl
 have e2 : (decide (k < 0) || decide (k ≥ (l.length : Int))) = false := by simp only [Bo]; omega
 have e3 : gt ((l.drop k.toNat).take ((k + 1).toNat - k.toNat)) 0 = gt l k.toNat := by
  rw [show (k + 1).toNat - k.toNat = 1 by omega, aK (by omega : k.toNat < l.length)]; rfl
 rw [e1, e2, e3];cases t <;> rfl
theorem Cb {l : List Mail} {t : Bool} (h : (aL l k t).2.2 = 0) : 0 ≤ (aL l k t).2.1.who ∧ (aL l k t).2.1.who < 3 := by
 obtain ⟨h1, h2, h3, h4⟩ := lq h;rw [h4];exact m5 (((fb l).1 h1).2 _ (gJ (by omega)))
theorem A6 {l : List Mail} {t : Bool} {S : List Mail × Mail × Int} (hS : aL l k t = S) (h : S.2.2 = 0) : 0 ≤ S.2.1.who ∧ S.2.1.who < 3 := by
 subst hS; exact Cb h
theorem kt (q : Place → Bool) (n : Int) : ∀ {l : List Place}, Rising l → find (l.filter q) n = bif ((find l n).node != 0 && q (find l n)) then find l n else ⟨0, 0, 0⟩
 | [], _ => rfl
 | p :: r, h => by
  obtain ⟨h1, h2⟩ := List.pairwise_cons.1 h.up;have hp := h.rng p (.head _);have hr : Rising r := ⟨h2, fun x hx => h.rng x (.tail _ hx), fun x hx => h.par x (.tail _ hx)⟩;have ih := kt q n hr;rw [List.filter_cons, find];cases hn : (p.node == n) with
  | true =>
   have hn' : p.node = n := by simpa using hn
   have h0 : (p.node != 0) = true := by simp; omega
   rw [cond_true, h0, Bool.true_and];cases hq : q p with
   | true => simp [find, hn]
   | false =>
    simp only [Bool.false_eq_true, if_false, cond_false];exact qa fun x hx => by have := h1 x (List.mem_filter.1 hx).1; omega
  | false =>
   rw [cond_false];cases hq : q p with
   | true => simp only [if_true]; rw [find, hn, cond_false]; exact ih
   | false => simpa using ih
variable {l : List Place}
theorem Rising.filter (h : Rising l) (q : Place → Bool) : Rising (l.filter q) :=
 ⟨h.up.filter _, fun p hp => h.rng p (List.mem_filter.1 hp).1, fun p hp => h.par p (List.mem_filter.1 hp).1⟩
variable {a b : Int}
theorem Up.of_filter (h : Rising l) {q : Place → Bool} (hu : Up (l.filter q) a b) : Up l a b := by
 obtain ⟨k, hw⟩ := hu;refine ⟨k, ?_⟩;induction hw with
 | here x => exact .here x
 | @up x b k hok hn _ ih =>
  rw [kt q x h] at hn ih;cases hc : ((find l x).node != 0 && q (find l x)) with
  | true => rw [hc, cond_true] at hn ih; exact .up trivial hn ih
  | false => rw [hc] at hn; exact absurd rfl hn
theorem iw.filter (h : iw l) (q : Place → Bool) : iw (l.filter q) :=
 ⟨fun p hp => h.ok p (List.mem_filter.1 hp).1, h.up.filter _, fun p hp hu => h.no p (List.mem_filter.1 hp).1 (hu.of_filter h.rising)⟩
theorem wB {n : Int} (hn : 1 ≤ n) : ∀ {m : List Place}, Rising m → ∀ l : List Place, find (m.foldl putT l) n = bif (find m n).node != 0 then find m n else find l n
 | [], _, l => rfl
 | p :: r, h, l => by
  obtain ⟨h1, h2⟩ := List.pairwise_cons.1 h.up;have hp := h.rng p (.head _);have hpp := h.par p (.head _);have hr : Rising r := ⟨h2, fun x hx => h.rng x (.tail _ hx), fun x hx => h.par x (.tail _ hx)⟩;rw [List.foldl_cons, wB hn hr, iJ, find];have hd : decide (p.parent < 0) = false := decide_eq_false (by omega);rw [hd, cond_false];cases hc : (p.node == n) with
  | true =>
   have hc' : p.node = n := by simpa using hc
   have hz : find r n = ⟨0, 0, 0⟩ := qa fun x hx => by have := h1 x hx; omega
   have h3 : (n == p.node) = true := by simpa using hc'.symm
   have h4 : (p.node != 0) = true := by simp; omega
   rw [hz, cond_true, h3, cond_true, h4]; rfl
  | false =>
   have hc' : p.node ≠ n := by simpa using hc
   have h3 : (n == p.node) = false := by simpa using fun e : n = p.node => hc' e.symm
   rw [cond_false, h3, cond_false]
theorem qX (t : List Place) (n : Int) (roots : List Int) : d4 t n roots = true ↔ ∃ r ∈ roots, Up t n r := by
 unfold d4 jP;rw [List.any_eq_true];simp only [gh, iP]
theorem tQ (t : List Place) (n : Int) (roots : List Int) : eU t n roots = true ↔ ∃ r ∈ roots, r ≠ n ∧ Up t r n := by
 unfold eU jQ;rw [List.any_eq_true];simp only [Bool.and_eq_true, gh, iP, bne_iff_ne]
def kept (t : List Place) (roots : List Int) : List Place := t.filter (fun p => d4 t p.node roots || eU t p.node roots)
variable {t : List Place}
theorem yX (h : Rising t) (roots : List Int) : eP (j6 t roots) = kept t roots := by
 rw [C5];unfold j6 kept;simp only;have hk := h.filter (fun p => d4 t p.node roots);have hw := h.filter (fun p => !d4 t p.node roots && eU t p.node roots);refine Rising.ext (Rising.puts _ hk hw.rng) (h.filter _) fun n h1 h2 => ?_;rw [wB h1 hw, kt _ n h, kt _ n h, kt _ n h];cases hz : ((find t n).node != 0) with
 | false => rfl
 | true =>
  cases hb : d4 t (find t n).node roots with
  | true => simp [hb]
  | false =>
   cases ha : eU t (find t n).node roots with
   | true => simp [hb, ha]; rw [hz]; rfl
   | false => simp [hb, ha]
variable {n : Int} {roots : List Int}
theorem wC (h : Rising t) (hn : d4 t n roots = true ∨ eU t n roots = true) : find (kept t roots) n = find t n := by
 unfold kept;rw [kt _ n h];cases hz : ((find t n).node != 0) with
 | false => rw [Bool.false_and, cond_false]; exact (h.none (ag hz)).symm
 | true =>
  have hn' := (gA (by simpa using hz)).1;have : (d4 t (find t n).node roots || eU t (find t n).node roots) = true := by rw [hn', Bool.or_eq_true]; exact hn
  rw [this]; rfl
variable {r : Int}
theorem Up.kept_root (h : Rising t) (hr : r ∈ roots) (hu : Up t a r) : Up (kept t roots) a r := by
 obtain ⟨k, hw⟩ := hu;revert hr;induction hw with
 | here x => exact fun _ => Up.refl _ _
 | @up x b k hok hn hw ih =>
  intro hr;have hf : find (kept t roots) x = find t x := wC h (.inl ((qX _ _ _).2 ⟨b, hr, k + 1, .up hok hn hw⟩));obtain ⟨j, hj⟩ := ih hr;exact ⟨j + 1, .up trivial (by rw [hf]; exact hn) (by rw [hf]; exact hj)⟩
theorem Up.kept_way (h : Rising t) (hr : r ∈ roots) {x : Int} (h1 : Up t r x) (hu : Up t x n) : Up (kept t roots) x n := by
 obtain ⟨k, hw⟩ := hu;revert h1;induction hw with
 | here x => exact fun _ => Up.refl _ _
 | @up x b k hok hn hw ih =>
  intro h1;have hf : find (kept t roots) x = find t x := wC h (by
   by_cases he : r = x
   ·exact .inl ((qX _ _ _).2 ⟨r, hr, he ▸ Up.refl _ _⟩)
   ·exact .inr ((tQ _ _ _).2 ⟨r, hr, he, h1⟩))
  obtain ⟨j, hj⟩ := ih (h1.trans ⟨1, .up trivial hn (.here _)⟩);exact ⟨j + 1, .up trivial (by rw [hf]; exact hn) (by rw [hf]; exact hj)⟩
theorem zt (h : Rising t) (roots : List Int) (n : Int) : d4 (kept t roots) n roots = d4 t n roots := by
 rw [Bool.eq_iff_iff, qX, qX];exact ⟨fun ⟨r, h1, h2⟩ => ⟨r, h1, Up.of_filter h h2⟩, fun ⟨r, h1, h2⟩ => ⟨r, h1, Up.kept_root h h1 h2⟩⟩
theorem zx (h : Rising t) (roots : List Int) (n : Int) : eU (kept t roots) n roots = eU t n roots := by
 rw [Bool.eq_iff_iff, tQ, tQ];exact ⟨fun ⟨r, h1, h2, h3⟩ => ⟨r, h1, h2, Up.of_filter h h3⟩, fun ⟨r, h1, h2, h3⟩ => ⟨r, h1, h2, Up.kept_way h h1 (Up.refl _ _) h3⟩⟩
theorem zN (h : Rising t) (roots : List Int) : j6 (kept t roots) roots = j6 t roots := by
 unfold j6;simp only [zt h, zx h];unfold kept;simp only [List.filter_filter];congr 1
 ·exact List.filter_congr fun p _ => by cases d4 t p.node roots <;> simp
 ·exact List.filter_congr fun p _ => by cases d4 t p.node roots <;> cases eU t p.node roots <;> rfl
theorem zM (h : iw t) (hr : rD roots) : pb (j6 t roots) := by
 refine ⟨hr, h.filter _, h.filter _, ?_, ?_⟩
 ·rw [yX h.rising]; exact (es _).2 (h.filter _)
 ·rw [yX h.rising]; exact zN h.rising roots
theorem km {c : Bool} (ha : a ≠ 0) : ((bif c then a else b) = 0 ↔ c = false ∧ b = 0) := by
 cases c <;> simp [ha]
structure Bn (c : Client) (me : Int) (i : Nat) : Prop where
 ok : chkO (gt c.pending i) = 0
 who : (gt c.pending i).who = me
 life : (gt c.pending i).life = c.life
 seq : (gt c.pending i).seq = c.seq - (c.pending.length : Int) + 1 + (i : Int)
 time : (gt c.pending i).time ≤ c.time
 up : 0 < i → (gt c.pending (i - 1)).time < (gt c.pending i).time
theorem pd (c : Client) (me : Int) : ∀ (r : List Op) (k : Nat), r = c.pending.drop k → (e9 c me r k = 0 ↔ ∀ i, k ≤ i → i < c.pending.length → Bn c me i)
 | [], k, h => by
  have : c.pending.length ≤ k := by have := congrArg List.length h; simp at this; omega
  exact ⟨fun _ i h1 h2 => by omega, fun _ => rfl⟩
 | p :: r, k, h => by
  have hk : k < c.pending.length := by
   rcases Nat.lt_or_ge k c.pending.length with h' | h'
   ·exact h'
   ·rw [Dl h'] at h; cases h
  rw [aK hk] at h;obtain ⟨rfl, h'⟩ := List.cons.inj h;rw [e9, fA];have key : Bn c me k ↔ (chkO (gt c.pending k) = 0 ∧ ((((((gt c.pending k).who != me) || ((gt c.pending k).life != c.life)) || ((gt c.pending k).seq != (((c.seq - (c.pending.length : Int)) + 1) + (k : Int)))) || decide ((gt c.pending k).time > c.time)) || (decide ((k : Int) > 0) && decide ((gt c.pending k).time ≤ (gt c.pending (k - 1)).time))) = false) := by
   simp only [Bool.or_eq_false_iff, bne_eq_false_iff_eq, decide_eq_false_iff_not, Bool.and_eq_false_iff];constructor
   ·intro ⟨h1, h2, h3, h4, h5, h6⟩;refine ⟨h1, ⟨⟨⟨h2, h3⟩, h4⟩, by omega⟩, ?_⟩;rcases Nat.eq_zero_or_pos k with h7 | h7
    ·left; omega
    ·right; have := h6 h7; omega
   ·intro ⟨h1, ⟨⟨⟨h2, h3⟩, h4⟩, h5⟩, h6⟩;refine ⟨h1, h2, h3, h4, by omega, fun h7 => ?_⟩;rcases h6 with h6 | h6
    ·omega
    ·omega
  cases h1 : (chkO (gt c.pending k) != 0) with
  | true =>
   rw [cond_true];refine ⟨fun h2 => (by rw [h2] at h1; cases h1), fun h2 => ?_⟩;have := (h2 k Nr hk).ok;rw [this] at h1; cases h1
  | false =>
   rw [cond_false, km (by decide), pd c me r (k + 1) h'];constructor
   ·intro ⟨h2, h3⟩ i hi hl;by_cases hik : i = k
    ·rw [hik]; exact key.2 ⟨ag h1, h2⟩
    ·exact h3 i (by omega) hl
   ·intro h2;exact ⟨(key.1 (h2 k Nr hk)).2, fun i hi hl => h2 i (by omega) hl⟩
structure IsCli (c : Client) (me : Int) : Prop where
 num : 0 ≤ me ∧ me < 3
 rng : 0 ≤ c.life ∧ c.life ≤ 50 ∧ 0 ≤ c.time ∧ c.time ≤ 10000 ∧ 0 ≤ c.seq ∧ c.seq ≤ 30 ∧ 0 ≤ c.version ∧ c.version ≤ 60
 few : c.pending.length ≤ 8
 view : pb c.v
 new : c.life = 0 → c.time = 0 ∧ c.seq = 0 ∧ c.version = 0
 vers : c.version = 0 → c.v.roots = []
 pseq : (c.pending.length : Int) ≤ c.seq
 pend : ∀ i, i < c.pending.length → Bn c me i
theorem fF (c : Client) (me : Int) : bK c me = 0 ↔ IsCli c me := by
 constructor
 ·intro h;obtain ⟨h1, h2, h3, h4, ⟨h5, h6, h7⟩, h8⟩ := kl h;exact ⟨h1, h2, h3, (ef _).1 h4, h5, h6, h7, fun i hi => (pd c me c.pending 0 rfl).1 h8 i N0 hi⟩
 ·intro h;obtain ⟨m1, m2⟩ := h.num;obtain ⟨r1, r2, r3, r4, r5, r6, r7, r8⟩ := h.rng;have h3 := h.few;have h7 := h.pseq;unfold bK;rw [km (by decide)];refine ⟨by simp only [Bo]; omega, ?_⟩;rw [km (by decide)];refine ⟨by simp only [Bo]; omega, ?_⟩;rw [km (by decide)];refine ⟨by simp only [decide_eq_false_iff_not]; omega, ?_⟩;rw [(ef _).2 h.view, bne_self_eq_false, cond_false, km (by decide)];refine ⟨?_, (pd c me c.pending 0 rfl).2 fun i _ hi => h.pend i hi⟩;simp only [Bo, Bool.and_eq_false_iff, beq_eq_false_iff_ne, bne_eq_false_iff_eq];refine ⟨⟨?_, ?_⟩, by omega⟩
  ·by_cases hl : c.life = 0
   ·right; have := h.new hl; omega
   ·exact .inl hl
  ·by_cases hv : c.version = 0
   ·right; rw [h.vers hv]; simp
   ·exact .inl hv
theorem tH (a b : Client) : jN a b = true ↔ a = b := by
 obtain ⟨a1, a2, a3, a4, a5, a6⟩ := a;obtain ⟨b1, b2, b3, b4, b5, b6⟩ := b;simp only [jN, Bool.and_eq_true, beq_iff_eq, decide_eq_true_eq, vH, Client.mk.injEq];constructor
 ·rintro ⟨⟨⟨⟨⟨rfl, rfl⟩, rfl⟩, rfl⟩, rfl⟩, rfl⟩; simp
 ·rintro ⟨rfl, rfl, rfl, rfl, rfl, rfl⟩; simp
variable {d : Delta} {v : View}
theorem sw (h : (ec v d).2 = 0) : pb (ec v d).1 := by
 unfold ec at h ⊢;cases h1 : (cn v != 0) with
 | true => rw [h1, cond_true] at h; simp only at h; rw [h] at h1; cases h1
 | false =>
 rw [h1, cond_false] at h;rw [cond_false];cases h2 : (dk d != 0) with
 | true => rw [h2, cond_true] at h; simp only at h; rw [h] at h2; cases h2
 | false =>
 rw [h2, cond_false] at h;rw [cond_false];cases h3 : (cn (⟨v.roots, (eh v.known d.gone d.here), (eh v.way d.wayGone d.wayHere)⟩ : View) != 0) with
 | true => rw [h3, cond_true] at h; simp only at h; rw [h] at h3; cases h3
 | false => exact (ef _).1 (ag h3)
def oS (m : Mail) : Bool := (((((((((decide (m.life < 1) || decide (m.life > 50)) || decide (m.seq < 0)) || decide (m.seq > 30)) || decide (m.time < 0)) || decide (m.time > 10000)) || decide (m.version < 1)) || decide (m.version > 60)) || decide (m.frm < 0)) || decide (m.frm ≥ m.version))
def want1 (m : Mail) : Mail := ⟨m.kind, m.who, 0, 0, 0, 0, 0, m.o, ⟨[], [], []⟩, ⟨[], [], [], []⟩⟩
def want2 (m : Mail) : Mail := ⟨m.kind, m.who, m.life, m.seq, m.time, m.version, 0, ⟨0, 0, 0, 0, 0, 0, 0⟩, m.v, ⟨[], [], [], []⟩⟩
def want3 (m : Mail) : Mail := ⟨m.kind, m.who, m.life, m.seq, m.time, m.version, m.frm, ⟨0, 0, 0, 0, 0, 0, 0⟩, ⟨[], [], []⟩, m.d⟩
theorem kD (m : Mail) : cr m = bif (decide (m.kind < 1) || decide (m.kind > 3)) then 4 else bif (decide (m.who < 0) || decide (m.who ≥ 3)) then 5 else
  bif m.kind == 1 then (bif !(gE m (want1 m)) then 4 else bif m.o.who != m.who then 4 else chkO m.o) else
  bif m.kind == 2 then (bif !(gE m (want2 m)) then 4 else bif oS m then 3 else cn m.v) else
  bif !(gE m (want3 m)) then 4 else bif oS m then 3 else dk m.d := by
 unfold cr;cases h0 : (decide (m.kind < 1) || decide (m.kind > 3)) with
 | true => rfl
 | false =>
  cases h1 : (m.kind == 1) with
  | true => rfl
  | false =>
   cases h2 : (m.kind == 2) with
   | true => rfl
   | false =>
    have h3 : (m.kind == 3) = true := by
     simp only [Bo, beq_eq_false_iff_ne] at h0 h1 h2;simp only [beq_iff_eq]; omega
    rw [h3]; rfl
theorem qo (m : Mail) : cx [m] = cr m := by
 show (bif (cr m != 0) then cr m else 0) = cr m;cases h : (cr m != 0) with
 | true => rfl
 | false => exact (ag h).symm
structure A9 (m : Mail) : Prop where
 kind : m.kind = 2 ∨ m.kind = 3
 rng : 1 ≤ m.life ∧ m.life ≤ 50 ∧ 0 ≤ m.seq ∧ m.seq ≤ 30 ∧ 0 ≤ m.time ∧ m.time ≤ 10000 ∧ 1 ≤ m.version ∧ m.version ≤ 60 ∧ 0 ≤ m.frm ∧ m.frm < m.version
 view : m.kind = 2 → pb m.v
theorem nv (m : Mail) : oS m = false ↔ (1 ≤ m.life ∧ m.life ≤ 50 ∧ 0 ≤ m.seq ∧ m.seq ≤ 30 ∧ 0 ≤ m.time ∧ m.time ≤ 10000 ∧ 1 ≤ m.version ∧ m.version ≤ 60 ∧ 0 ≤ m.frm ∧ m.frm < m.version) := by
 simp only [oS, Bo]; omega
theorem Dd (h : cr m = 0) (h1 : m.kind ≠ 1) : A9 m := by
 rw [kD, km (by decide), km (by decide), show (m.kind == 1) = false from beq_eq_false_iff_ne.2 h1, cond_false] at h;obtain ⟨h2, _, h3⟩ := h;simp only [Bo] at h2;cases h4 : (m.kind == 2) with
 | true =>
  rw [h4, cond_true, km (by decide), km (by decide)] at h3;exact ⟨.inl (eq_of_beq h4), (nv m).1 h3.2.1, fun _ => (ef _).1 h3.2.2⟩
 | false =>
  rw [h4, cond_false, km (by decide), km (by decide)] at h3;have h4 := beq_eq_false_iff_ne.1 h4;exact ⟨.inr (by omega), (nv m).1 h3.2.1, fun h5 => absurd h5 h4⟩
def jv (c : Client) (m : Mail) (v : View) : Client := ⟨c.life, (if m.time > c.time then m.time else c.time), c.seq, c.pending.filter (fun o => !decide (o.seq ≤ m.seq)), m.version, v⟩
def stale (c : Client) (m : Mail) : Bool := ((m.life != c.life) || decide (m.version ≤ c.version)) || decide (m.seq > c.seq)
def cli0 : Client := ⟨0, 0, 0, [], 0, ⟨[], [], []⟩⟩
theorem Bp (c : Client) (me : Int) (m : Mail) : bF c me m = bif bK c me != 0 then (cli0, bK c me) else bif cr m != 0 then (cli0, cr m) else
  bif (m.kind == 1) || (m.who != me) then (cli0, 4) else bif stale c m then (c, 0) else
  bif m.kind == 3 then (bif m.frm != c.version then (c, 0) else bif (ec c.v m.d).2 != 0 then (cli0, (ec c.v m.d).2) else (jv c m (ec c.v m.d).1, 0)) else (jv c m m.v, 0) := by
 unfold bF;rw [qo];rfl
variable {c : Client} {me : Int}
theorem Cq (h : (bF c me m).2 = 0) : IsCli c me ∧ A9 m ∧ cr m = 0 ∧ (m.kind == 1 || m.who != me) = false ∧
  ((bF c me m).1 = c ∨ ∃ v, pb v ∧ stale c m = false ∧ (bF c me m).1 = jv c m v) := by
 rw [Bp] at h ⊢;cases h1 : (bK c me != 0) with
 | true => rw [h1, cond_true] at h; simp only at h; rw [h] at h1; cases h1
 | false =>
 rw [h1, cond_false] at h;rw [cond_false];cases h2 : (cr m != 0) with
 | true => rw [h2, cond_true] at h; simp only at h; rw [h] at h2; cases h2
 | false =>
 rw [h2, cond_false] at h;rw [cond_false];cases h3 : (m.kind == 1 || m.who != me) with
 | true => rw [h3, cond_true] at h; cases h
 | false =>
 rw [h3, cond_false] at h;rw [cond_false];have hk := (Bool.or_eq_false_iff.1 h3).1;have hs := Dd (ag h2) (beq_eq_false_iff_ne.1 hk);refine ⟨(fF _ _).1 (ag h1), hs, ag h2, rfl, ?_⟩;cases h4 : stale c m with
 | true => exact .inl rfl
 | false =>
 rw [h4, cond_false] at h;rw [cond_false];cases h5 : (m.kind == 3) with
 | false =>
  refine .inr ⟨m.v, hs.view ?_, rfl, rfl⟩;have := beq_eq_false_iff_ne.1 h5;have := hs.kind; omega
 | true =>
  rw [h5, cond_true] at h;rw [cond_true];cases h6 : (m.frm != c.version) with
  | true => exact .inl rfl
  | false =>
   rw [h6, cond_false] at h;rw [cond_false];cases h7 : ((ec c.v m.d).2 != 0) with
   | true => rw [h7, cond_true] at h; simp only at h; rw [h] at h7; cases h7
   | false => exact .inr ⟨_, sw (ag h7), rfl, rfl⟩
theorem tz : ∀ (l : List Op) (a s : Int), (∀ i, i < l.length → (gt l i).seq = a + (i : Int)) → ∃ n, n ≤ l.length ∧ (∀ o ∈ l.take n, o.seq ≤ s) ∧ l.filter (fun o => !decide (o.seq ≤ s)) = l.drop n ∧ (n < l.length → s - a + 1 ≤ n)
 | [], a, s, _ => ⟨0, Nr, (by simp), rfl, by simp⟩
 | o :: l, a, s, h => by
  have h0 := h 0 (by simp);simp only [gt, List.getD_cons_zero] at h0;have hl : ∀ i, i < l.length → (gt l i).seq = (a + 1) + (i : Int) := fun i hi => by
   have := h (i + 1) (by simp; omega);simp only [gt, List.getD_cons_succ] at this ⊢;omega
  obtain ⟨n, hn, h1, h2, h3⟩ := tz l (a + 1) s hl;by_cases hs : o.seq ≤ s
  ·refine ⟨n + 1, by simp; omega, fun p hp => ?_, ?_, fun hlt => by simp at hlt; have := h3 hlt; omega⟩
   ·rw [List.take_succ_cons] at hp;rcases List.mem_cons.1 hp with rfl | hp
    ·exact hs
    ·exact h1 p hp
   ·rw [List.filter_cons_of_neg (by simp [hs]), h2]; rfl
  ·refine ⟨0, N0, by simp, ?_, fun _ => by omega⟩;rw [List.drop_zero, List.filter_eq_self];intro p hp;obtain ⟨i, hi, rfl⟩ := List.getElem_of_mem hp;have := h i hi;rw [gt_eq hi] at this;simp only [Bool.not_eq_true', decide_eq_false_iff_not]; omega
theorem yx (l : List Op) (n i : Nat) : gt (l.drop n) i = gt l (n + i) := by simp [gt, List.getD_eq_getElem?_getD]
theorem AL (h : IsCli c me) (hm : A9 m) (hst : stale c m = false) (hv : pb v) : IsCli (jv c m v) me ∧ ∃ n, n ≤ c.pending.length ∧ (∀ o ∈ c.pending.take n, o.seq ≤ m.seq) ∧ (jv c m v).pending = c.pending.drop n := by
 obtain ⟨n, hn, h1, h2, h3⟩ := tz c.pending (c.seq - (c.pending.length : Int) + 1) m.seq fun i hi => (h.pend i hi).seq;have hp : (jv c m v).pending = c.pending.drop n := h2;have hlen : (jv c m v).pending.length = c.pending.length - n := by rw [hp]; simp
 have hr := h.rng;have hmr := hm.rng;have hps := h.pseq;have hfew := h.few;simp only [stale, Bool.or_eq_false_iff, bne_eq_false_iff_eq, decide_eq_false_iff_not] at hst;refine ⟨⟨h.num, ?_, by omega, hv, fun hl => ?_, fun hl => ?_, ?_, fun i hi => ?_⟩, n, hn, h1, hp⟩
 ·simp only [jv]; split <;> omega
 ·simp only [jv] at hl; omega
 ·simp only [jv] at hl; omega
 ·rw [hlen]; simp only [jv]; omega
 ·rw [hlen] at hi;have hq := h.pend (n + i) (by omega);have hg : gt (jv c m v).pending i = gt c.pending (n + i) := by rw [hp, yx]
  have htm := hq.time;refine ⟨by rw [hg]; exact hq.ok, by rw [hg]; exact hq.who, by rw [hg]; exact hq.life, ?_, ?_, fun h0 => ?_⟩
  ·rw [hg, hq.seq, hlen]; simp only [jv]; omega
  ·rw [hg]; simp only [jv]; split <;> omega
  ·rw [hg, show gt (jv c m v).pending (i - 1) = gt c.pending (n + i - 1) by rw [hp, yx]; congr 1; omega];exact hq.up (by omega)
theorem hl_e (gone : List Int) (l : List Place) (e : Int) : ∀ (r : List Place) (k : Nat), hl gone l e r k = bif hl gone l 0 r k != 0 then hl gone l 0 r k else e
 | [], _ => rfl
 | p :: r, k => by
  rw [hl, hl];cases plcB p with
  | true => rfl
  | false =>
   cases ((decide ((k : Int) > 0) && decide ((gt l (k - 1)).node ≥ p.node)) || decide (p.node ∈ gone)) with
   | true => rfl
   | false => exact hl_e gone l e r (k + 1)
theorem gl_e (l : List Int) (e : Int) : ∀ (r : List Int) (k : Nat), gl l e r k = bif gl l 0 r k != 0 then gl l 0 r k else e
 | [], _ => rfl
 | p :: r, k => by
  rw [gl, gl];cases (decide (p < 1) || decide (p ≥ 16)) with
  | true => rfl
  | false =>
   cases (decide ((k : Int) > 0) && decide (gt l (k - 1) ≥ p)) with
   | true => rfl
   | false => exact gl_e l e r (k + 1)
theorem half_e (g : List Int) (h : List Place) (e : Int) : half g h e = bif half g h 0 != 0 then half g h 0 else e := by
 unfold half;cases (decide ((g.length : Int) > 16) || decide ((h.length : Int) > 16)) with
 | true => rfl
 | false =>
  simp only [cond_false];rw [gl_e g (hl g h e h 0), gl_e g (hl g h 0 h 0), hl_e g h e];cases h1 : (gl g 0 g 0 != 0) with
  | true => simp [h1]
  | false => simp
theorem uF (gone : List Int) (l : List Place) : ∀ (r : List Place) (k : Nat) (last : Int), r = l.drop k → last = (if k = 0 then 0 else (gt l (k - 1)).node) → ez gone r last = hl gone l 0 r k
 | [], _, _, _, _ => rfl
 | p :: r, k, last, hr, hl' => by
  have hk : k < l.length := by have := congrArg List.length hr; simp at this; omega
  rw [aK hk] at hr;obtain ⟨hn, hr'⟩ := List.cons.inj hr;rw [ez, hl, ra, uw];cases h1 : plcB p with
  | true => rfl
  | false =>
   have hp := jT ((vn p).1 h1);have h3 : decide (p.node ≤ last) = (decide ((k : Int) > 0) && decide ((gt l (k - 1)).node ≥ p.node)) := by
    rw [Bool.eq_iff_iff];simp only [Ba];rw [hl'];by_cases hz : k = 0
    ·subst hz; simp; omega
    ·simp [hz]; omega
   rw [h3, uF gone l r (k + 1) p.node hr' (by simp [hn])];rfl
theorem uG (gone : List Int) (here : List Place) : ∀ (r : List Int) (k : Nat) (last : Int), r = gone.drop k → last = (if k = 0 then 0 else gt gone (k - 1)) → fh gone here r last = gl gone (ez gone here 0) r k
 | [], _, _, _, _ => rfl
 | n :: r, k, last, hr, hl' => by
  have hk : k < gone.length := by have := congrArg List.length hr; simp at this; omega
  rw [aK hk] at hr;obtain ⟨hn, hr'⟩ := List.cons.inj hr;rw [fh, gl];have h0 : (!(ak n 1 15)) = (decide (n < 1) || decide (n ≥ 16)) := by
   unfold ak;rw [Bool.eq_iff_iff];simp only [Bool.or_eq_true, Bool.not_eq_true', Bool.and_eq_false_iff, decide_eq_false_iff_not, decide_eq_true_eq];omega
  rw [h0];cases h1 : (decide (n < 1) || decide (n ≥ 16)) with
  | true => rfl
  | false =>
   simp at h1;have h3 : decide (n ≤ last) = (decide ((k : Int) > 0) && decide (gt gone (k - 1) ≥ n)) := by
    rw [Bool.eq_iff_iff];simp only [Ba];rw [hl'];by_cases hz : k = 0
    ·subst hz; simp; omega
    ·simp [hz]; omega
   rw [h3, cond_false, cond_false, uG gone here r (k + 1) n hr' (by simp [hn])]
theorem yk (g : List Int) (h : List Place) : fe g h = half g h 0 := by
 unfold fe half;rw [uG g h g 0 0 rfl rfl, uF g h h 0 0 rfl rfl]
theorem nJ (d : Delta) : dq d = dk d := by
 unfold dq;rw [yk, yk, pW, half_e d.gone d.here (half d.wayGone d.wayHere 0)]
theorem lO (h : bu v = 0) : (∀ p ∈ v.known, 0 ≤ p.node ∧ p.node < 16) ∧ (∀ p ∈ v.way, 0 ≤ p.node ∧ p.node < 16) := by
 rw [jg] at h;have h := (ef v).1 h;exact ⟨fun p hp => by have := h.known.rising.rng p hp; omega, fun p hp => by have := h.way.rising.rng p hp; omega⟩
theorem sA (h : dq d = 0) : (∀ n ∈ d.gone, 0 ≤ n ∧ n < 16) ∧ (∀ p ∈ d.here, 0 ≤ p.node ∧ p.node < 16) ∧ (∀ n ∈ d.wayGone, 0 ≤ n ∧ n < 16) ∧ (∀ p ∈ d.wayHere, 0 ≤ p.node ∧ p.node < 16) := by
 rw [nJ] at h;obtain ⟨h1, h2⟩ := (kj d).1 h;exact ⟨fun n hn => by have := h1.rng n hn; omega, fun p hp => by have := jT (h1.ok p hp); omega, fun n hn => by have := h2.rng n hn; omega, fun p hp => by have := jT (h2.ok p hp); omega⟩
theorem uf (a b : Delta) : m0 a b = true ↔ a = b := by
 obtain ⟨a1, a2, a3, a4⟩ := a; obtain ⟨b1, b2, b3, b4⟩ := b;simp [m0, and_assoc]
theorem gP (a b : Mail) : gE a b = true ↔ a = b := by
 obtain ⟨a1, a2, a3, a4, a5, a6, a7, a8, a9, a10⟩ := a;obtain ⟨b1, b2, b3, b4, b5, b6, b7, b8, b9, b10⟩ := b;simp only [gE, Bool.and_eq_true, beq_iff_eq, decide_eq_true_eq, vH, uf, Mail.mk.injEq, and_assoc]
end Go.Proofs.YtkjccbdeaflekaaGreatDoor
