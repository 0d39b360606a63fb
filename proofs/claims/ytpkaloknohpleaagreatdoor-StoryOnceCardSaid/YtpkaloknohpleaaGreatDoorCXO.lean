/- Part of this claim. No condition. -/
import Derived.Test.YtpkaloknohpleaaGreatDoorC8
import Derived.Test.YtpkaloknohpleaaGreatDoorC13
import Derived.Test.YtpkaloknohpleaaGreatDoorCXTO
set_option linter.unusedVariables false
set_option linter.unusedSimpArgs false
set_option maxHeartbeats 2000000
namespace Go.Proofs.YtpkaloknohpleaaGreatDoor
open Go Go.Proofs.YtpkaloknohpleaaGreatDoor.Fw Go.Proofs
attribute [local irreducible] RdL RdN VarP RW CW
def cM (v1 : Op) : List Op → Nat → Int
 | [], n1 => (-1)
 | pn1 :: rn1, n1 => (bif decide (v1 = pn1) then (n1 : Int) else (cM v1 rn1 (n1 + 1)))
def ee (s1 : List Op) (v1 : Op) : Int :=
 (cM v1 s1 0)
theorem lg (y1 : SlV) (s1 : List Op) (v1 : Op) : Does Tryz.prog 39 [y1.val s1.length, .agg ⟨[.int .i64 v1.time, .int .i64 v1.who, .int .i64 v1.node, .int .i64 v1.parent, .int .i64 v1.name, .int .i64 v1.life, .int .i64 v1.seq]⟩] [RdL EOp y1 s1] (fun (_ : Unit) => .int .i64 (ee s1 v1)) (fun _ => []) := by
 refine bj aZ Tryz.func39 rfl Tryz.ntmps39 Tryz.results39 rfl inferInstance (fun _ => inferInstance) fun C => ?_
 refine Pc EOp y1 s1 56 fun hlen1 => ?_
 refine Tx ?_
 refine Bx fun g1 => ?_
 refine Tx ?_
 (repeat refine ao ?_); refine Lp [0,3,4,7] [true] (fun (n1 : Nat) => (⟨[(8, .v (.int .i64 (n1 : Int)))], [], [], [], (n1 ≤ s1.length) ∧ (cM v1 (s1.drop n1) n1) = (ee s1 v1), s1.length - n1⟩ : Ls)) 0 (Sc (Sc (Sc (Sc Sn)))) (.keep (.nil)) ⟨Nat.zero_le _, (by simp only [ee, Cf] : (ee s1 v1) = (cM v1 s1 0)).symm⟩ Le4 ?_
 rintro n1 ⟨hkn1, hf1⟩
 simp only [List.cons_append, List.nil_append]
 refine Tx ?_
 refine Cd (b := decide ((n1 : Int) < (s1.length : Int))) (fun hc1 => ?_) fun hc1 => ?_
 ·have hlt0 : n1 < s1.length := Int.ofNat_lt.1 (of_decide_eq_true hc1)
  refine Tx ?_
  (repeat refine ao ?_); refine au (fun _ => some []) ?_
  refine Ra 0 rfl (q_ldA rfl rfl Zf rfl Mm rfl) ?_
  refine Rb 1 rfl Qp ?_
  refine Rb 2 rfl Qp ?_
  refine Rb 3 rfl (q_idx EOp n1 rfl rfl Zf rfl Zf rfl rfl rfl Mm rfl Zf (fun _ => by first | assumption | omega)) ?_
  refine Ra 4 rfl (q_leA EOp rfl rfl Zf rfl rfl Mm (fun _ => by first | assumption | omega)) ?_
  refine Ra 5 rfl (q_eqE rS (l9 v1 (gt s1 n1)) rfl rfl Zf rfl Zf rfl rfl) ?_
  refine bn Kr ?_
  (repeat refine ao ?_)
  refine Cd (b := decide (v1 = (gt s1 n1))) (fun hc2 => ?_) fun hc2 => ?_
  ·have hc2p := of_decide_eq_true hc2
   refine Tx ?_
   refine ai ?_; rw [show (ee s1 v1) = (n1 : Int) by rw [← hf1, aE hlt0]; simp only [cM, hc2, Cf]]; exact Re () (Vt Vn)
  ·have hc2p := of_decide_eq_false hc2
   refine Tx ?_
   refine rw_q rfl rfl rfl (q_add rfl rfl Zf rfl Zf Zo) ?_
   refine Tx ?_
   refine ⟨(n1 + 1), ⟨hlt0, (by rw [← hf1, aE hlt0]; simp only [cM, hc2, Cf] : (ee s1 v1) = (cM v1 (s1.drop (n1 + 1)) (n1 + 1))).symm⟩, (by simp only []; omega), Le4⟩
 ·have hge0 : s1.length ≤ n1 := by have := of_decide_eq_false hc1; omega
  refine Tx ?_
  refine ai ?_; rw [show (ee s1 v1) = (-1) by rw [← hf1, List.drop_of_length_le hge0]; simp only [cM, Cf]]; exact Re () (Vt Vn)
def ge (s1 : List Op) (v1 : Op) : Bool :=
 decide ((ee s1 v1) ≥ 0)
theorem jM (y1 : SlV) (s1 : List Op) (v1 : Op) : Does Tryz.prog 18 [y1.val s1.length, .agg ⟨[.int .i64 v1.time, .int .i64 v1.who, .int .i64 v1.node, .int .i64 v1.parent, .int .i64 v1.name, .int .i64 v1.life, .int .i64 v1.seq]⟩] [RdL EOp y1 s1] (fun (_ : Unit) => .bool (ge s1 v1)) (fun _ => []) := by
 refine bj aZ Tryz.func18 rfl Tryz.ntmps18 Tryz.results18 rfl inferInstance (fun _ => inferInstance) fun C => ?_
 refine Pc EOp y1 s1 56 fun hlen1 => ?_
 refine Tx ?_
 refine Bx fun g1 => ?_
 refine Tx ?_
 refine Cl (lg y1 s1 v1) fun _ => ?_
 refine Tx ?_
 refine ai ?_; simp only [ge, Cf]; exact Re () (Vt Vn)
theorem kF (s : List Op) (v : Op) : ge s v = decide (v ∈ s) := by
 have key : ∀ (l : List Op) (k : Nat), decide (cM v l k ≥ 0) = decide (v ∈ l) := by
  intro l
  induction l with
  | nil => intro k; simp [cM]
  | cons p r ih =>
   intro k
   rw [cM]
   by_cases h : v = p
   ·first | (simp [h]; done) | (simp [h]; omega)
   ·have : decide (v = p) = false := by simpa using h
    rw [this, cond_false, ih]; simp [h]
 exact key s 0
theorem jp (y1 : SlV) (s1 : List Op) (v1 : Op) : Does Tryz.prog 18 [y1.val s1.length, .agg ⟨[.int .i64 v1.time, .int .i64 v1.who, .int .i64 v1.node, .int .i64 v1.parent, .int .i64 v1.name, .int .i64 v1.life, .int .i64 v1.seq]⟩] [RdL EOp y1 s1] (fun (_ : Unit) => .bool (decide (v1 ∈ s1))) (fun _ => []) := by
 have := jM y1 s1 v1
 rw [kF] at this
 exact this
end Go.Proofs.YtpkaloknohpleaaGreatDoor

set_option maxHeartbeats 2000000
namespace Go.Proofs.YtpkaloknohpleaaGreatDoor
open Go Go.Proofs.YtpkaloknohpleaaGreatDoor.Fw Go.Proofs
attribute [local irreducible] RdL RdN VarP LibP RW CW
theorem uw {w : Wld} (h : (aw w).2 = 0) : aW w = 0 := by
 cases hw : (aW w != 0) with
 | false => exact ae hw
 | true => simp only [aw, hw, cond_true] at h; exact h
theorem sP {w : Wld} (h : aW w = 0) {k : Nat} (hk : k < 3) : 0 ≤ (gt w.c k).seq ∧ (gt w.c k).seq ≤ 30 ∧ (gt w.c k).pending.length ≤ 8 := by
 obtain ⟨l, hl⟩ := (d8 w).1 h
 have hc := (cL _ _).1 (hl.cli k hk)
 exact ⟨hc.rng.2.2.2.2.1, hc.rng.2.2.2.2.2.1, hc.few⟩
def bf (w1 : Wld) (n1 : Nat) (n2 : Nat) (κ_ : Bool) : List Op → Bool
 | [] => κ_
 | pn4 :: rn4 => (bif (decide (pn4.seq ≤ (n2 : Int)) && (!(decide (pn4 ∈ (aw w1).1)))) then false else (bf w1 n1 n2 κ_ rn4))
def bp (w1 : Wld) (n1 : Nat) (κ_ : Nat → Bool) : List Op → Nat → Bool
 | [], n2 => κ_ n2
 | pn3 :: rn3, n2 => (bif ((pn3.who == (n1 : Int)) && (pn3.life == (gt w1.c n1).life)) then (bif (pn3.seq != ((n2 : Int) + 1)) then false else (bp w1 n1 κ_ rn3 (n2 + 1))) else (bp w1 n1 κ_ rn3 n2))
def aX (w1 : Wld) : List Client → Nat → Bool
 | [], n1 => true
 | pn1 :: rn1, n1 => (bp w1 n1 (fun (n2 : Nat) => (bif (decide ((n2 : Int) > pn1.seq) || decide ((n2 : Int) < (pn1.seq - (pn1.pending.length : Int)))) then false else (bf w1 n1 n2 (aX w1 rn1 (n1 + 1)) pn1.pending))) (aw w1).1 0)
def aO (w1 : Wld) : Bool :=
 (bif ((aw w1).2 != 0) then false else (aX w1 w1.c 0))
theorem im (y1 : SlV) (y2 : SlV) (y3 : SlV) (y4 : SlV) (y5 : SlV) (y6 : SlV) (y7 : SlV) (w1 : Wld) : Does Tryz.prog 17 [.agg ⟨[y1.val w1.h.h.l.length, y2.val w1.h.h.t.length, .int .i64 w1.h.version, y3.val w1.h.peers.length, y4.val w1.d.safe.length, y5.val w1.d.wait.length, .bool w1.up, y6.val w1.c.length, y7.val w1.mail.length]⟩] [RdL EStep y1 w1.h.h.l, RdL EPlace y2 w1.h.h.t, RdN NPeer y3 w1.h.peers, RdL EByte y4 w1.d.safe, RdL EByte y5 w1.d.wait, RdN NClient y6 w1.c, RdN NMail y7 w1.mail, LibP Tryz.prog] (fun (_ : Unit) => .bool (aO w1)) (fun _ => []) := by
 refine bj aZ Tryz.func17 rfl Tryz.ntmps17 Tryz.results17 rfl inferInstance (fun _ => inferInstance) fun C => ?_
 refine Pc EStep y1 w1.h.h.l 88 fun hlen1 => ?_
 refine Pc EPlace y2 w1.h.h.t 24 fun hlen2 => ?_
 refine Pn NPeer y3 w1.h.peers 40 fun hlen3 => ?_
 refine Pc EByte y4 w1.d.safe 1 fun hlen4 => ?_
 refine Pc EByte y5 w1.d.wait 1 fun hlen5 => ?_
 refine Pn NClient y6 w1.c 128 fun hlen6 => ?_
 refine Pn NMail y7 w1.mail 280 fun hlen7 => ?_
 refine Tx ?_
 refine Bx fun g1 => ?_
 refine Tx ?_
 refine Cl (fU y1 y2 y3 y4 y5 y6 y7 w1) fun x1 => ?_
 refine Tx ?_
 refine Cd (b := ((aw w1).2 != 0)) (fun hc1 => ?_) fun hc1 => ?_
 ·have hc1p := bne_iff_ne.1 hc1
  refine Tx ?_
  refine ai ?_; simp only [aO, hc1, Cb, Cf]; exact Re () (Vt Vn)
 ·have hc1p := ae hc1
  have hwk := uw (ae hc1)
  have hw3 := qJ hwk
  refine Tx ?_
  (repeat refine ao ?_); refine Lp [2,3,20,21] [true] (fun (n1 : Nat) => (⟨[(22, .v (.int .i64 (n1 : Int)))], [], [], [], (n1 ≤ w1.c.length) ∧ (aX w1 (w1.c.drop n1) n1) = (aO w1), w1.c.length - n1⟩ : Ls)) 0 (Sc (Sc (Sc (Sc Sn)))) (.keep (.nil)) ⟨Nat.zero_le _, (by simp only [aO, hc1, Cb, Cf] : (aO w1) = (aX w1 w1.c 0)).symm⟩ Le4 ?_
  rintro n1 ⟨hkn1, hf1⟩
  simp only [List.cons_append, List.nil_append]
  refine Tx ?_
  refine Cd (b := decide ((n1 : Int) < (w1.c.length : Int))) (fun hc2 => ?_) fun hc2 => ?_
  ·have hlt0 : n1 < w1.c.length := Int.ofNat_lt.1 (of_decide_eq_true hc2)
   have hsq := sP hwk (k := n1) (by omega)
   refine Tx ?_
   refine fj NClient (X := y6) (l := w1.c) Mm fun (γ1 : Nat → SlV × SlV × SlV × SlV) => ?_
   refine rw_q rfl rfl rfl (dw NClient γ1 n1 rfl rfl Zf rfl Zf rfl rfl rfl Mm rfl Zf (fun _ => by first | assumption | omega)) ?_
   refine rw_q rfl rfl rfl (q_is (v' := .agg ⟨[.int .i64 (gt w1.c n1).life, .int .i64 (gt w1.c n1).time, .int .i64 (gt w1.c n1).seq, (γ1 n1).1.val (gt w1.c n1).pending.length, .int .i64 (gt w1.c n1).version, (γ1 n1).2.1.val (gt w1.c n1).v.roots.length, (γ1 n1).2.2.1.val (gt w1.c n1).v.known.length, (γ1 n1).2.2.2.val (gt w1.c n1).v.way.length]⟩) (fP NClient γ1 rfl rfl Zf rfl rfl Mm (fun _ => by first | assumption | omega)) rfl) ?_
   refine aI (F := RdL EOp (γ1 n1).1 (gt w1.c n1).pending) [am NClient γ1 w1.c] Sm (fun M w h => (allF1 h) n1 Zc _ (.head _)) ?_
   refine aI (F := RdL EInt (γ1 n1).2.1 (gt w1.c n1).v.roots) [am NClient γ1 w1.c] Sm (fun M w h => (allF1 h) n1 Zc _ (.tail _ (.head _))) ?_
   refine aI (F := RdL EPlace (γ1 n1).2.2.1 (gt w1.c n1).v.known) [am NClient γ1 w1.c] Sm (fun M w h => (allF1 h) n1 Zc _ (.tail _ (.tail _ (.head _)))) ?_
   refine aI (F := RdL EPlace (γ1 n1).2.2.2 (gt w1.c n1).v.way) [am NClient γ1 w1.c] Sm (fun M w h => (allF1 h) n1 Zc _ (.tail _ (.tail _ (.tail _ (.head _))))) ?_
   refine Al fun g2 => ?_
   refine Tx ?_
   refine Pc EOp x1 (aw w1).1 56 fun hlen8 => ?_
   (repeat refine ao ?_); refine Lp [2,3,5,6,20,21,22,23,24,25,26,27,28] [true, true] (fun (i_ : Nat × Nat) => match i_ with | ⟨n2, n3⟩ => (⟨[(7, .v (.int .i64 (n2 : Int))), (29, .v (.int .i64 (n3 : Int)))], [], [], [], (n3 ≤ (aw w1).1.length) ∧ (n2 ≤ n3) ∧ (bp w1 n1 (fun (n2 : Nat) => (bif (decide ((n2 : Int) > (gt w1.c n1).seq) || decide ((n2 : Int) < ((gt w1.c n1).seq - ((gt w1.c n1).pending.length : Int)))) then false else (bf w1 n1 n2 (aX w1 (w1.c.drop (n1 + 1)) (n1 + 1)) (gt w1.c n1).pending))) ((aw w1).1.drop n3) n2) = (aO w1), (aw w1).1.length - n3⟩ : Ls)) ⟨0, 0⟩ (Sc (Sc (Sc (Sc (Sc (Sc (Sc (Sc (Sc (Sc (Sc (Sc (Sc Sn))))))))))))) (.keep (.keep (.nil))) ⟨Nat.zero_le _, (by omega), (by rw [← hf1, aE hlt0]; simp only [aX, Cb, Cf] : (aO w1) = (bp w1 n1 (fun (n2 : Nat) => (bif (decide ((n2 : Int) > (gt w1.c n1).seq) || decide ((n2 : Int) < ((gt w1.c n1).seq - ((gt w1.c n1).pending.length : Int)))) then false else (bf w1 n1 n2 (aX w1 (w1.c.drop (n1 + 1)) (n1 + 1)) (gt w1.c n1).pending))) (aw w1).1 0)).symm⟩ Le4 ?_
   rintro ⟨n2, n3⟩ ⟨hkn3, hnk, hf2⟩
   simp only [List.cons_append, List.nil_append]
   refine Tx ?_
   refine Cd (b := decide ((n3 : Int) < ((aw w1).1.length : Int))) (fun hc3 => ?_) fun hc3 => ?_
   ·have hlt1 : n3 < (aw w1).1.length := Int.ofNat_lt.1 (of_decide_eq_true hc3)
    refine Tx ?_
    refine rw_q rfl rfl rfl (q_idx EOp n3 rfl rfl Zf rfl Zf rfl rfl rfl Mm rfl Zf (fun _ => by first | assumption | omega)) ?_
    refine rw_q rfl rfl rfl (q_leA EOp rfl rfl Zf rfl rfl Mm (fun _ => by first | assumption | omega)) ?_
    refine Al fun g3 => ?_
    refine Tx ?_
    refine Cd (b := (((gt (aw w1).1 n3).who == (n1 : Int)) && ((gt (aw w1).1 n3).life == (gt w1.c n1).life))) (fun hc4 => ?_) fun hc4 => ?_
    ·refine Tx ?_
     refine rw_q rfl rfl rfl (q_add rfl rfl Zf rfl Zf Zo) ?_
     refine Tx ?_
     refine Cd (b := ((gt (aw w1).1 n3).seq != ((n2 : Int) + 1))) (fun hc5 => ?_) fun hc5 => ?_
     ·have hc5p := bne_iff_ne.1 hc5
      refine Tx ?_
      refine ai ?_; rw [show (aO w1) = false by rw [← hf2, aE hlt1]; simp only [bp, hc4, hc5, Cb, Cf]]; exact Re () (Vt Vn)
     ·have hc5p := ae hc5
      refine Tx ?_
      refine rw_q rfl rfl rfl (q_add rfl rfl Zf rfl Zf Zo) ?_
      refine Tx ?_
      refine ⟨⟨(n2 + 1), (n3 + 1)⟩, ⟨hlt1, (by omega), (by rw [← hf2, aE hlt1]; simp only [bp, hc4, hc5, Cb, Cf] : (aO w1) = (bp w1 n1 (fun (n2 : Nat) => (bif (decide ((n2 : Int) > (gt w1.c n1).seq) || decide ((n2 : Int) < ((gt w1.c n1).seq - ((gt w1.c n1).pending.length : Int)))) then false else (bf w1 n1 n2 (aX w1 (w1.c.drop (n1 + 1)) (n1 + 1)) (gt w1.c n1).pending))) ((aw w1).1.drop (n3 + 1)) (n2 + 1))).symm⟩, (by simp only []; omega), Le4⟩
    ·refine Tx ?_
     refine rw_q rfl rfl rfl (q_add rfl rfl Zf rfl Zf Zo) ?_
     refine Tx ?_
     refine ⟨⟨n2, (n3 + 1)⟩, ⟨hlt1, (by omega), (by rw [← hf2, aE hlt1]; simp only [bp, hc4, Cb, Cf] : (aO w1) = (bp w1 n1 (fun (n2 : Nat) => (bif (decide ((n2 : Int) > (gt w1.c n1).seq) || decide ((n2 : Int) < ((gt w1.c n1).seq - ((gt w1.c n1).pending.length : Int)))) then false else (bf w1 n1 n2 (aX w1 (w1.c.drop (n1 + 1)) (n1 + 1)) (gt w1.c n1).pending))) ((aw w1).1.drop (n3 + 1)) n2)).symm⟩, (by simp only []; omega), Le4⟩
   ·have hge1 : (aw w1).1.length ≤ n3 := by have := of_decide_eq_false hc3; omega
    refine Tx ?_
    refine rw_qg (aB rfl rfl rfl) rfl rfl (q_sub rfl rfl Bt rfl Bt (by intro h; first | omega | (simp at h; omega))) ?_
    refine Tx ?_
    refine Cd (b := (decide ((n2 : Int) > (gt w1.c n1).seq) || decide ((n2 : Int) < ((gt w1.c n1).seq - ((gt w1.c n1).pending.length : Int))))) (fun hc6 => ?_) fun hc6 => ?_
    ·refine Tx ?_
     refine ai ?_; rw [show (aO w1) = false by rw [← hf2, List.drop_of_length_le hge1]; simp only [bp, hc6, Cb, Cf]]; exact Re () (Vt Vn)
    ·refine Tx ?_
     refine Pc EOp (γ1 n1).1 (gt w1.c n1).pending 56 fun hlen9 => ?_
     (repeat refine ao ?_); refine Lp [2,3,5,6,7,20,21,22,23,24,25,26,27,28,29,30,52,53,54,55,56,65,66,67,68] [true, true] (fun (n4 : Nat) => (⟨[(69, .v (.int .i64 (n4 : Int)))], [], [], [], (n4 ≤ (gt w1.c n1).pending.length) ∧ (bf w1 n1 n2 (aX w1 (w1.c.drop (n1 + 1)) (n1 + 1)) ((gt w1.c n1).pending.drop n4)) = (aO w1), (gt w1.c n1).pending.length - n4⟩ : Ls)) 0 (Sc (Sc (Sc (Sc (Sc (Sc (Sc (Sc (Sc (Sc (Sc (Sc (Sc (Sc (Sc (Sc (Sc (Sc (Sc (Sc (Sc (Sc (Sc (Sc (Sc Sn))))))))))))))))))))))))) (.keep (.keep (.nil))) ⟨Nat.zero_le _, (by rw [← hf2, List.drop_of_length_le hge1]; simp only [bp, hc6, Cb, Cf] : (aO w1) = (bf w1 n1 n2 (aX w1 (w1.c.drop (n1 + 1)) (n1 + 1)) (gt w1.c n1).pending)).symm⟩ Le4 ?_
     rintro n4 ⟨hkn4, hf3⟩
     simp only [List.cons_append, List.nil_append]
     refine Tx ?_
     refine Cd (b := decide ((n4 : Int) < ((gt w1.c n1).pending.length : Int))) (fun hc7 => ?_) fun hc7 => ?_
     ·have hlt2 : n4 < (gt w1.c n1).pending.length := Int.ofNat_lt.1 (of_decide_eq_true hc7)
      refine Tx ?_
      refine rw_q rfl rfl rfl (q_idx EOp n4 rfl rfl Zf rfl Zf rfl rfl rfl Mm rfl Zf (fun _ => by first | assumption | omega)) ?_
      refine rw_q rfl rfl rfl (q_leA EOp rfl rfl Zf rfl rfl Mm (fun _ => by first | assumption | omega)) ?_
      refine Al fun g4 => ?_
      refine Tx ?_
      refine dv (fun hG_ => jp x1 (aw w1).1 (gt (gt w1.c n1).pending n4)) Zf .sq (aG rfl rfl rfl) rfl rfl rfl Kr rfl Bt Sm ?_
      refine Tx ?_
      refine Cd (b := (decide ((gt (gt w1.c n1).pending n4).seq ≤ (n2 : Int)) && (!(decide ((gt (gt w1.c n1).pending n4) ∈ (aw w1).1))))) (fun hc8 => ?_) fun hc8 => ?_
      ·refine Tx ?_
       refine ai ?_; rw [show (aO w1) = false by rw [← hf3, aE hlt2]; simp only [bf, hc8, Cb, Cf]]; exact Re () (Vt Vn)
      ·refine Tx ?_
       refine rw_q rfl rfl rfl (q_add rfl rfl Zf rfl Zf Zo) ?_
       refine Tx ?_
       refine ⟨(n4 + 1), ⟨hlt2, (by rw [← hf3, aE hlt2]; simp only [bf, hc8, Cb, Cf] : (aO w1) = (bf w1 n1 n2 (aX w1 (w1.c.drop (n1 + 1)) (n1 + 1)) ((gt w1.c n1).pending.drop (n4 + 1)))).symm⟩, (by simp only []; omega), Le4⟩
     ·have hge2 : (gt w1.c n1).pending.length ≤ n4 := by have := of_decide_eq_false hc7; omega
      refine Tx ?_
      refine rw_q rfl rfl rfl (q_add rfl rfl Zf rfl Zf Zo) ?_
      refine Tx ?_
      refine ⟨(n1 + 1), ⟨hlt0, (by rw [← hf3, List.drop_of_length_le hge2]; simp only [bf, Cb, Cf] : (aO w1) = (aX w1 (w1.c.drop (n1 + 1)) (n1 + 1))).symm⟩, (by simp only []; omega), Le4⟩
  ·have hge0 : w1.c.length ≤ n1 := by have := of_decide_eq_false hc2; omega
   refine Tx ?_
   refine ai ?_; rw [show (aO w1) = true by rw [← hf1, List.drop_of_length_le hge0]; simp only [aX, Cb, Cf]]; exact Re () (Vt Vn)
def eH (l1 : List Happening) : Bool :=
 (eA && (aN l1 aO).2)
theorem oy (y1 : SlV) (l1 : List Happening) : Does Tryz.prog 5 [y1.val l1.length] [RdN NHap y1 l1, LibP Tryz.prog] (fun (_ : Unit) => .bool (eH l1)) (fun _ => []) := by
 refine bj aZ Tryz.func5 rfl Tryz.ntmps5 Tryz.results5 rfl inferInstance (fun _ => inferInstance) fun C => ?_
 refine Pn NHap y1 l1 72 fun hlen1 => ?_
 refine Tx ?_
 refine Cl (gj y1 l1 _ _ _ aO Kr (fun z0a_ z0b_ z0c_ z0d_ z0e_ z0f_ z0g_ a0_ => im z0a_ z0b_ z0c_ z0d_ z0e_ z0f_ z0g_ a0_)) fun x1 => ?_
 generalize hS1 : (aN l1 aO) = S1
 refine Tx ?_
 refine Al fun g1 => ?_
 refine Tx ?_
 refine Cl (fv ) fun _ => ?_
 refine Tx ?_
 refine ai ?_; simp only [eH, hS1, Cb, Cf]; exact Re () (Vt Vn)
end Go.Proofs.YtpkaloknohpleaaGreatDoor

namespace Go.Proofs.YtpkaloknohpleaaGreatDoor
open Go Go.Proofs.YtpkaloknohpleaaGreatDoor.Fw Go.Proofs
inductive Seqs : Nat → List Op → Nat → Prop
 | nil (n : Nat) : Seqs n [] n
 | cons {n m : Nat} {o : Op} {l : List Op} (h : o.seq = (n : Int) + 1) (hr : Seqs (n + 1) l m) : Seqs n (o :: l) m
theorem Seqs.snoc {n m : Nat} {l : List Op} (h : Seqs n l m) {o : Op} (ho : o.seq = (m : Int) + 1) : Seqs n (l ++ [o]) (m + 1) := by
 induction h with
 | nil n => exact .cons ho (.nil _)
 | cons h _ ih => exact .cons h (ih ho)
abbrev byWho (k : Nat) (life : Int) (o : Op) : Bool := (o.who == (k : Int)) && (o.life == life)
structure LogIn (l : List Rec) : Prop where
 ok : LogOk l
 seqs : ∀ k, k < 3 → ∃ m : Nat, (peer l k).seq = (m : Int) ∧ Seqs 0 ((opsOf l).filter (byWho k (peer l k).life)) m
 life : ∀ o ∈ opsOf l, ∀ k : Nat, k < 3 → o.who = (k : Int) → o.life ≤ (peer l k).life
theorem LogIn.grow {l : List Rec} (hi : LogIn l) (h60 : l.length < 60) {r : Rec} (h0 : (aJ (aq l).1 r).2 = 0) : LogIn (l ++ [r]) := by
 have hR : aq l = ((aq l).1, 0) := Prod.ext rfl hi.ok
 have hs := iP hR h0 h60
 have hH := (lf hi.ok).1
 have hn := k6 h0
 have hw := ng hn
 have hlog : LogOk (l ++ [r]) := by unfold LogOk; rw [hs]
 have hp : ∀ k, peer (l ++ [r]) k = gt (aJ (aq l).1 r).1.peers k := fun k => by show gt (aq (l ++ [r])).1.peers k = _; rw [hs]
 rcases lS h0 with ⟨hk, a1, a2, a3, a4⟩ | ⟨hk, a1, a4⟩ | ⟨hk, a4⟩
 ·have hwr := hw.1 hk
  have ho : opsOf (l ++ [r]) = opsOf l ++ [r.o] := by rw [fh, hk]; rfl
  have hpk : ∀ k, peer (l ++ [r]) k = if k = r.o.who.toNat then ⟨(peer l k).life, r.o.seq, (peer l k).roots⟩ else peer l k := fun k => by
   rw [hp, a4]
   simp only
   rw [jz (by rw [hH.three]; omega)]
   by_cases hkk : k = r.o.who.toNat
   ·rw [if_pos hkk, if_pos hkk, hkk]
   ·rw [if_neg hkk, if_neg hkk]
  refine ⟨hlog, fun k hk3 => ?_, fun o hm k hk3 hok => ?_⟩
  ·obtain ⟨m, m1, m2⟩ := hi.seqs k hk3
   by_cases hkk : k = r.o.who.toNat
   ·have e1 : peer (l ++ [r]) k = ⟨(peer l k).life, r.o.seq, (peer l k).roots⟩ := by rw [hpk, if_pos hkk]
    have e2 : byWho k (peer l k).life r.o = true := by
     simp only [byWho, Bool.and_eq_true, beq_iff_eq]
     exact ⟨by omega, by rw [hkk]; exact a1.symm⟩
    have e3 : r.o.seq = (m : Int) + 1 := by rw [← m1, hkk]; exact a2.symm
    refine ⟨m + 1, by rw [e1]; simp only; omega, ?_⟩
    rw [e1, ho, List.filter_append, List.filter_cons_of_pos e2, List.filter_nil]
    exact m2.snoc e3
   ·have e1 : peer (l ++ [r]) k = peer l k := by rw [hpk, if_neg hkk]
    have e2 : ¬ byWho k (peer l k).life r.o = true := by
     simp only [byWho, Bool.and_eq_true, beq_iff_eq]
     intro hh; exact hkk (by omega)
    refine ⟨m, by rw [e1]; exact m1, ?_⟩
    rw [e1, ho, List.filter_append, List.filter_cons_of_neg e2, List.filter_nil, List.append_nil]
    exact m2
  ·rw [ho] at hm
   rw [hpk]
   have : (if k = r.o.who.toNat then (⟨(peer l k).life, r.o.seq, (peer l k).roots⟩ : Peer) else peer l k).life = (peer l k).life := by split <;> rfl
   rw [this]
   rcases List.mem_append.1 hm with hm | hm
   ·exact hi.life o hm k hk3 hok
   ·rw [List.mem_singleton] at hm
    subst hm
    have : k = r.o.who.toNat := by omega
    rw [this]; exact Int.le_of_eq a1.symm
 ·have hwr := hw.2.1 (by omega)
  have a1' : r.life = (peer l r.who.toNat).life + 1 := a1
  have ho : opsOf (l ++ [r]) = opsOf l := by rw [fh, hk]; simp
  have hpk : ∀ k, peer (l ++ [r]) k = if k = r.who.toNat then ⟨r.life, 0, []⟩ else peer l k := fun k => by
   rw [hp, a4]
   simp only
   rw [jz (by rw [hH.three]; omega)]
  refine ⟨hlog, fun k hk3 => ?_, fun o hm k hk3 hok => ?_⟩
  ·by_cases hkk : k = r.who.toNat
   ·have e1 : peer (l ++ [r]) k = ⟨r.life, 0, []⟩ := by rw [hpk, if_pos hkk]
    refine ⟨0, by rw [e1]; rfl, ?_⟩
    rw [e1, ho]
    have : (opsOf l).filter (byWho k r.life) = [] := by
     rw [List.filter_eq_nil_iff]
     intro o hm
     simp only [byWho, Bool.and_eq_true, beq_iff_eq]
     intro hh
     have := hi.life o hm k hk3 hh.1
     rw [hkk] at this
     omega
    rw [this]; exact .nil 0
   ·have e1 : peer (l ++ [r]) k = peer l k := by rw [hpk, if_neg hkk]
    rw [e1, ho]; exact hi.seqs k hk3
  ·rw [ho] at hm
   have := hi.life o hm k hk3 hok
   rw [hpk]
   by_cases hkk : k = r.who.toNat
   ·rw [if_pos hkk]; simp only; rw [hkk] at this; omega
   ·rw [if_neg hkk]; exact this
 ·have hwr := hw.2.1 (by omega)
  have ho : opsOf (l ++ [r]) = opsOf l := by rw [fh, hk]; simp
  have hpk : ∀ k, (peer (l ++ [r]) k).life = (peer l k).life ∧ (peer (l ++ [r]) k).seq = (peer l k).seq := fun k => by
   rw [hp, a4]
   simp only
   rw [jz (by rw [hH.three]; omega)]
   by_cases hkk : k = r.who.toNat
   ·rw [if_pos hkk, hkk]; exact ⟨rfl, rfl⟩
   ·rw [if_neg hkk]; exact ⟨rfl, rfl⟩
  refine ⟨hlog, fun k hk3 => ?_, fun o hm k hk3 hok => ?_⟩
  ·rw [(hpk k).1, (hpk k).2, ho]; exact hi.seqs k hk3
  ·rw [(hpk k).1]; rw [ho] at hm; exact hi.life o hm k hk3 hok
structure CliIn (l : List Rec) (k : Nat) (c : Client) : Prop where
 life : c.life = (peer l k).life
 hi : (peer l k).seq ≤ c.seq
 lo : c.seq - (c.pending.length : Int) ≤ (peer l k).seq
 pend : ∀ o ∈ c.pending, o.seq ≤ (peer l k).seq → o ∈ opsOf l
structure om (l : List Rec) (c : Client) (k : Nat) (m : Mail) : Prop where
 op : m.kind = 1 → m.o.life ≤ c.life ∧ (m.o.life = c.life → m.o.seq ≤ c.seq ∧ (c.seq - (c.pending.length : Int) < m.o.seq → m.o ∈ c.pending))
 tells : m.kind ≠ 1 → m.life ≤ (peer l k).life ∧ (m.life = (peer l k).life → m.seq ≤ (peer l k).seq)
structure qF (w : Wld) (l : List Rec) : Prop where
 log : LogIn l
 cli : ∀ k, k < 3 → CliIn l k (gt w.c k)
 mail : ∀ m ∈ w.mail, om l (gt w.c m.who.toNat) m.who.toNat m
theorem pt {c : Client} {me : Int} (h : IsCli c me) {o : Op} (ho : o ∈ c.pending) : ∃ i, i < c.pending.length ∧ gt c.pending i = o ∧ o.seq = c.seq - (c.pending.length : Int) + 1 + (i : Int) ∧ o.life = c.life ∧ o.who = me := by
 obtain ⟨i, hi, rfl⟩ := List.getElem_of_mem ho
 have hp := h.pend i hi
 exact ⟨i, hi, gt_eq hi, by rw [← gt_eq hi]; exact hp.seq, by rw [← gt_eq hi]; exact hp.life, by rw [← gt_eq hi]; exact hp.who⟩
theorem uD {m : Mail} (h : bJ m = 0) (hk : m.kind = 1) : m.o.who = m.who := by
 rw [mJ, fi (by decide), fi (by decide), show (m.kind == 1) = true by rw [hk]; rfl, cond_true, fi (by decide), fi (by decide)] at h
 exact bne_eq_false_iff_eq.1 h.2.2.2.1
theorem CliIn.same {l l' : List Rec} {k : Nat} {c : Client} (h : CliIn l k c) (h1 : (peer l' k).life = (peer l k).life) (h2 : (peer l' k).seq = (peer l k).seq) (h3 : ∀ o ∈ opsOf l, o ∈ opsOf l') : CliIn l' k c :=
 ⟨by rw [h1]; exact h.life, by rw [h2]; exact h.hi, by rw [h2]; exact h.lo, fun o ho hs => h3 o (h.pend o ho (by rw [← h2]; exact hs))⟩
theorem om.same {l l' : List Rec} {k : Nat} {c : Client} {m : Mail} (h : om l c k m) (h1 : (peer l' k).life = (peer l k).life) (h2 : (peer l k).seq ≤ (peer l' k).seq) : om l' c k m :=
 ⟨h.op, fun hk => by
  obtain ⟨a, b⟩ := h.tells hk
  rw [h1]; exact ⟨a, fun e => Int.le_trans (b e) h2⟩⟩
theorem qF.step {w w' : Wld} {l l' : List Rec} {x : Happening} (h : IsW w l) (hi : qF w l) (hp : Hap w l x w' l') : qF w' l' := by
 have hck : ∀ m ∈ w.mail, bJ m = 0 := ((dD _).1 h.mail).2
 cases hp with
 | hear hx hn m hm hk hh =>
  have hmem : m ∈ w.mail := by rw [hm]; exact gn (by omega)
  have hw : 0 ≤ m.who ∧ m.who < 3 := f9 (hck _ hmem)
  have hK : m.who.toNat < 3 := by omega
  have hcl := hi.cli _ hK
  obtain ⟨hc, hs, _, _, h1⟩ := pP hh
  have key : ∃ n, n ≤ (gt w.c m.who.toNat).pending.length ∧ (aL (gt w.c m.who.toNat) m.who m).1.pending = (gt w.c m.who.toNat).pending.drop n ∧ (aL (gt w.c m.who.toNat) m.who m).1.life = (gt w.c m.who.toNat).life ∧
    (aL (gt w.c m.who.toNat) m.who m).1.seq = (gt w.c m.who.toNat).seq ∧ (n = 0 ∨ (gt w.c m.who.toNat).seq - ((gt w.c m.who.toNat).pending.length : Int) + (n : Int) ≤ (peer l m.who.toNat).seq) := by
   rcases h1 with h1 | ⟨v, hv, hst, h1⟩
   ·rw [h1]; exact ⟨0, Nat.zero_le _, by simp, rfl, rfl, .inl rfl⟩
   ·obtain ⟨_, n, n1, n2, n3⟩ := qm hc hs hst hv
    rw [h1]
    refine ⟨n, n1, n3, rfl, rfl, ?_⟩
    rcases Nat.eq_zero_or_pos n with hz | hz
    ·exact .inl hz
    ·right
     simp only [stale, Bool.or_eq_false_iff, bne_eq_false_iff_eq, decide_eq_false_iff_not] at hst
     have hseq := ((hi.mail m hmem).tells hk).2 (by rw [← hcl.life]; exact hst.1.1)
     have hlt : n - 1 < (gt w.c m.who.toNat).pending.length := by omega
     have hin : gt (gt w.c m.who.toNat).pending (n - 1) ∈ (gt w.c m.who.toNat).pending.take n := by
      rw [gt_eq hlt]
      exact List.mem_take_iff_getElem.2 ⟨n - 1, by omega, rfl⟩
     have h2 := n2 _ hin
     have h3 := (hc.pend (n - 1) hlt).seq
     omega
  obtain ⟨n, n1, n2, n3, n4, n5⟩ := key
  generalize hC : (aL (gt w.c m.who.toNat) m.who m).1 = C at *
  have hlen : C.pending.length = (gt w.c m.who.toNat).pending.length - n := by rw [n2, List.length_drop]
  have hlo := hcl.lo
  refine ⟨hi.log, fun k hk3 => ?_, fun q hq => ?_⟩
  ·show CliIn l k (gt (w.c.set _ _) k)
   rw [iq h hK]
   by_cases hkm : k = m.who.toNat
   ·rw [if_pos hkm, hkm]
    exact ⟨by rw [n3]; exact hcl.life, by rw [n4]; exact hcl.hi, by rw [n4, hlen]; omega, fun o ho => hcl.pend o (List.mem_of_mem_drop (by rw [← n2]; exact ho))⟩
   ·rw [if_neg hkm]; exact hi.cli k hk3
  ·have hq := hi.mail q (k7 hq)
   show om l (gt (w.c.set _ _) q.who.toNat) q.who.toNat q
   rw [iq h hK]
   by_cases hkm : q.who.toNat = m.who.toNat
   ·rw [if_pos hkm]
    rw [hkm] at hq ⊢
    refine ⟨fun hk1 => ?_, hq.tells⟩
    obtain ⟨a, b⟩ := hq.op hk1
    rw [n3, n4]
    refine ⟨a, fun e => ?_⟩
    obtain ⟨b1, b2⟩ := b e
    refine ⟨b1, fun hlt => ?_⟩
    have hin := b2 (by rw [hlen] at hlt; omega)
    obtain ⟨i, i1, i2, i3, _, _⟩ := pt hc hin
    rw [n2, ← i2, gt_eq i1]
    rw [hlen] at hlt
    exact List.mem_drop_iff_getElem.2 ⟨i - n, by omega, by congr 1; omega⟩
   ·rw [if_neg hkm]; exact hq
 | got hx hn m hm hk hu h0 =>
  have hmem : m ∈ w.mail := by rw [hm]; exact gn (by omega)
  have hwm : 0 ≤ m.who ∧ m.who < 3 := f9 (hck _ hmem)
  have how := uD (hck _ hmem) hk
  obtain ⟨g1, g2, g3⟩ := pv h hu h0
  have hK : m.who.toNat < 3 := by omega
  have hcl := hi.cli _ hK
  have ho : opsOf (l ++ [opRec m.o]) = opsOf l ++ [m.o] := by rw [fh]; rfl
  have hmono : ∀ o ∈ opsOf l, o ∈ opsOf (l ++ [opRec m.o]) := fun o h => by rw [ho]; exact List.mem_append_left _ h
  rcases lS h0 with ⟨_, a1, a2, a3, a4⟩ | ⟨hk2, _⟩ | ⟨hk2, _⟩
  ·simp only [how] at a1 a2 a4
   rw [← jS h hu] at a1 a2
   have hpk : ∀ k, (peer (l ++ [opRec m.o]) k).life = (peer l k).life ∧ (peer (l ++ [opRec m.o]) k).seq = if k = m.who.toNat then m.o.seq else (peer l k).seq := fun k => by
    rw [g3, a4]
    simp only
    rw [jz (by rw [h.hub.1.three]; omega)]
    by_cases hkk : k = m.who.toNat
    ·rw [if_pos hkk, if_pos hkk, hkk, jS h hu]; exact ⟨rfl, rfl⟩
    ·rw [if_neg hkk, if_neg hkk, jS h hu]; exact ⟨rfl, rfl⟩
   have hpo := ((hi.mail m hmem).op hk).2 (by rw [hcl.life]; exact a1.symm)
   have hc := (cL _ _).1 (h.cli _ hK)
   have hlo := hcl.lo
   refine ⟨hi.log.grow g2 g1, fun k hk3 => ?_, fun q hq => ?_⟩
   ·by_cases hkk : k = m.who.toNat
    ·have e1 := (hpk k).1
     have e2 := (hpk k).2
     rw [if_pos hkk] at e2
     rw [hkk] at e1 e2 ⊢
     refine ⟨by rw [e1]; exact hcl.life, by rw [e2]; exact hpo.1, by rw [e2]; show (gt w.c m.who.toNat).seq - ((gt w.c m.who.toNat).pending.length : Int) ≤ m.o.seq; omega, fun q hq hs => ?_⟩
     rw [e2] at hs
     rw [ho]
     by_cases hle : q.seq ≤ (peer l m.who.toNat).seq
     ·exact List.mem_append_left _ (hcl.pend q hq hle)
     ·have hin := hpo.2 (by omega)
      obtain ⟨i, i1, i2, i3, _, _⟩ := pt hc hin
      obtain ⟨j, j1, j2, j3, _, _⟩ := pt hc hq
      have : i = j := by omega
      subst this
      rw [i2] at j2
      rw [← j2]
      exact List.mem_append_right _ (.head _)
    ·have e2 := (hpk k).2
     rw [if_neg hkk] at e2
     exact (hi.cli k hk3).same (hpk k).1 e2 hmono
   ·refine (hi.mail q (k7 hq)).same (hpk _).1 ?_
    rw [(hpk _).2]
    split
    ·rename_i e; rw [e]; omega
    ·exact Int.le_refl _
  ·exact absurd (show (1 : Int) = 2 from hk2) (by decide)
  ·exact absurd (show (1 : Int) = 3 from hk2) (by decide)
 | late _ _ m _ _ _ _ => exact ⟨hi.log, hi.cli, fun q hq => hi.mail q (k7 hq)⟩
 | lose _ _ =>
  refine ⟨hi.log, hi.cli, fun q hq => hi.mail q ?_⟩
  rcases List.mem_append.1 hq with hq | hq
  ·exact List.mem_of_mem_take hq
  ·exact List.mem_of_mem_drop hq
 | crash _ _ => exact ⟨hi.log, hi.cli, hi.mail⟩
 | boot _ _ _ => exact ⟨hi.log, hi.cli, hi.mail⟩
 | move _ hw h0 =>
  obtain ⟨hc, _, _, _, _, _, a7⟩ := nn h0
  have hK : x.who.toNat < 3 := by omega
  have hcl := hi.cli _ hK
  have hlo := hcl.lo
  have hhi := hcl.hi
  rw [a7]
  simp only
  have hlen : (fH (gt w.c x.who.toNat) ⟨(gt w.c x.who.toNat).time + 1, x.who, x.node, x.parent, x.name, (gt w.c x.who.toNat).life, (gt w.c x.who.toNat).seq + 1⟩).pending.length = (gt w.c x.who.toNat).pending.length + 1 := by simp [fH]
  refine ⟨hi.log, fun k hk3 => ?_, fun q hq => ?_⟩
  ·show CliIn l k (gt (w.c.set _ _) k)
   rw [iq h hK]
   by_cases hkm : k = x.who.toNat
   ·rw [if_pos hkm, hkm]
    refine ⟨hcl.life, ?_, ?_, fun q hq hs => ?_⟩
    ·show _ ≤ (gt w.c x.who.toNat).seq + 1; omega
    ·rw [hlen]; show (gt w.c x.who.toNat).seq + 1 - _ ≤ _; omega
    ·rcases List.mem_append.1 hq with hq | hq
     ·exact hcl.pend q hq hs
     ·rw [List.mem_singleton] at hq
      subst hq
      simp only at hs
      omega
   ·rw [if_neg hkm]; exact hi.cli k hk3
  ·show om l (gt (w.c.set _ _) q.who.toNat) q.who.toNat q
   rw [iq h hK]
   rcases ir hq with hq | rfl
   ·have hq := hi.mail q hq
    by_cases hkm : q.who.toNat = x.who.toNat
    ·rw [if_pos hkm]
     rw [hkm] at hq ⊢
     refine ⟨fun hk1 => ?_, hq.tells⟩
     obtain ⟨a, b⟩ := hq.op hk1
     refine ⟨a, fun e => ?_⟩
     obtain ⟨b1, b2⟩ := b e
     refine ⟨?_, fun hlt => ?_⟩
     ·show _ ≤ (gt w.c x.who.toNat).seq + 1; omega
     ·refine List.mem_append_left _ (b2 ?_)
      rw [hlen] at hlt
      have hlt : (gt w.c x.who.toNat).seq + 1 - (((gt w.c x.who.toNat).pending.length + 1 : Nat) : Int) < q.o.seq := hlt
      omega
    ·rw [if_neg hkm]; exact hq
   ·rw [if_pos (show (tw x.who _).who.toNat = x.who.toNat from rfl)]
    exact ⟨fun _ => ⟨Int.le_refl _, fun _ => ⟨Int.le_refl _, fun _ => List.mem_append_right _ (.head _)⟩⟩, fun hk => absurd rfl hk⟩
 | again _ hw hn =>
  have hK : x.who.toNat < 3 := by omega
  refine ⟨hi.log, hi.cli, fun q hq => ?_⟩
  rcases ir hq with hq | rfl
  ·exact hi.mail q hq
  ·have hc := (cL _ _).1 (h.cli _ hK)
   have hin : gt (gt w.c x.who.toNat).pending x.n.toNat ∈ (gt w.c x.who.toNat).pending := gn (by omega)
   obtain ⟨i, i1, i2, i3, i4, _⟩ := pt hc hin
   refine ⟨fun _ => ⟨Int.le_of_eq i4, fun _ => ⟨?_, fun _ => hin⟩⟩, fun hk => absurd rfl hk⟩
   show (gt (gt w.c x.who.toNat).pending x.n.toNat).seq ≤ (gt w.c x.who.toNat).seq
   omega
 | began _ hw hu h0 h1 =>
  obtain ⟨g1, g2, g3⟩ := pv h hu h0
  have hK : x.who.toNat < 3 := by omega
  have hcl := hi.cli _ hK
  have ho : opsOf (l ++ [gT w x.who]) = opsOf l := by rw [fh]; simp [gT]
  have hpk : ∀ k, peer (l ++ [gT w x.who]) k = if k = x.who.toNat then ⟨(peer l x.who.toNat).life + 1, 0, []⟩ else peer l k := fun k => by
   rcases lS h0 with ⟨hk2, _⟩ | ⟨_, _, a4⟩ | ⟨hk2, _⟩
   ·exact absurd (show (2 : Int) = 1 from hk2) (by decide)
   ·rw [g3, a4]
    simp only
    rw [jz (by rw [h.hub.1.three]; omega), jS h hu, jS h hu]
   ·exact absurd (show (2 : Int) = 3 from hk2) (by decide)
  have hB := (ou (k := 0) (by omega) h1).2
  rw [hB]
  refine ⟨hi.log.grow g2 g1, fun k hk3 => ?_, fun q hq => ?_⟩
  ·show CliIn _ k (gt (w.c.set _ _) k)
   rw [iq h hK]
   by_cases hkm : k = x.who.toNat
   ·rw [if_pos hkm]
    have e := hpk k
    rw [if_pos hkm] at e
    refine ⟨by rw [e, jS h hu], by rw [e]; exact Int.le_refl _, by rw [e]; simp, fun o ho => by cases ho⟩
   ·rw [if_neg hkm]
    have e := hpk k
    rw [if_neg hkm] at e
    exact (hi.cli k hk3).same (by rw [e]) (by rw [e]) (fun o h => by rw [ho]; exact h)
  ·have hq := hi.mail q hq
   show om _ (gt (w.c.set _ _) q.who.toNat) q.who.toNat q
   rw [iq h hK]
   by_cases hkm : q.who.toNat = x.who.toNat
   ·rw [if_pos hkm]
    rw [hkm] at hq ⊢
    have e := hpk x.who.toNat
    rw [if_pos rfl] at e
    have hlf := hcl.life
    have hpu := jS h hu x.who.toNat
    refine ⟨fun hk1 => ?_, fun hk1 => ?_⟩
    ·have := (hq.op hk1).1
     have e5 : (gt w.h.peers x.who.toNat).life = (peer l x.who.toNat).life := by rw [hpu]
     exact ⟨by simp only; omega, fun e2 => by simp only at e2; omega⟩
    ·have := (hq.tells hk1).1
     rw [e]
     exact ⟨by simp only; omega, fun e2 => by simp only at e2; omega⟩
   ·rw [if_neg hkm]
    have e := hpk q.who.toNat
    rw [if_neg hkm] at e
    exact hq.same (by rw [e]) (by rw [e]; exact Int.le_refl _)
 | roots _ hw hu h0 =>
  obtain ⟨g1, g2, g3⟩ := pv h hu h0
  have ho : opsOf (l ++ [ii x.who x.roots]) = opsOf l := by rw [fh]; simp [ii]
  have hpk : ∀ k, (peer (l ++ [ii x.who x.roots]) k).life = (peer l k).life ∧ (peer (l ++ [ii x.who x.roots]) k).seq = (peer l k).seq := fun k => by
   rcases lS h0 with ⟨hk2, _⟩ | ⟨hk2, _⟩ | ⟨_, a4⟩
   ·exact absurd (show (3 : Int) = 1 from hk2) (by decide)
   ·exact absurd (show (3 : Int) = 2 from hk2) (by decide)
   ·rw [g3, a4]
    simp only
    rw [jz (by rw [h.hub.1.three]; omega), jS h hu]
    by_cases hkk : k = x.who.toNat
    ·rw [if_pos hkk, hkk]; exact ⟨rfl, rfl⟩
    ·rw [if_neg hkk]; exact ⟨rfl, rfl⟩
  exact ⟨hi.log.grow g2 g1, fun k hk3 => (hi.cli k hk3).same (hpk k).1 (hpk k).2 (fun o h => by rw [ho]; exact h), fun q hq => (hi.mail q hq).same (hpk _).1 (Int.le_of_eq (hpk _).2.symm)⟩
 | shown _ hw hu m hm =>
  refine ⟨hi.log, hi.cli, fun q hq => ?_⟩
  rcases ir hq with hq | rfl
  ·exact hi.mail q hq
  ·have hpu := jS h hu x.who.toNat
   rcases hm.case with rfl | ⟨_, _, _, _, _, _, _, _, rfl⟩
   ·refine ⟨fun hk => absurd (show (2 : Int) = 1 from hk) (by decide), fun _ => ?_⟩
    show (gt w.h.peers x.who.toNat).life ≤ (peer l x.who.toNat).life ∧ (_ → (gt w.h.peers x.who.toNat).seq ≤ (peer l x.who.toNat).seq)
    rw [hpu]; exact ⟨Int.le_refl _, fun _ => Int.le_refl _⟩
   ·refine ⟨fun hk => absurd (show (3 : Int) = 1 from hk) (by decide), fun _ => ?_⟩
    show (gt w.h.peers x.who.toNat).life ≤ (peer l x.who.toNat).life ∧ (_ → (gt w.h.peers x.who.toNat).seq ≤ (peer l x.who.toNat).seq)
    rw [hpu]; exact ⟨Int.le_refl _, fun _ => Int.le_refl _⟩
theorem rj {w : Wld} {k : Nat} {κ : Nat → Bool} : ∀ (a : List Op) (n m : Nat), Seqs n (a.filter (byWho k (gt w.c k).life)) m → bp w k κ a n = κ m
 | [], n, m, h => by
  cases h
  rfl
 | o :: a, n, m, h => by
  rw [bp]
  cases hb : ((o.who == (k : Int)) && (o.life == (gt w.c k).life)) with
  | true =>
   have hb' : byWho k (gt w.c k).life o = true := hb
   rw [List.filter_cons_of_pos hb'] at h
   cases h with
   | cons h hr =>
    have : (o.seq != (n : Int) + 1) = false := by simp [h]
    rw [cond_true, this, cond_false]
    exact rj a (n + 1) m hr
  | false =>
   rw [List.filter_cons_of_neg (by simp [byWho, hb])] at h
   rw [cond_false]
   exact rj a n m h
theorem uh {w : Wld} {k n : Nat} {κ : Bool} (hκ : κ = true) : ∀ (p : List Op), (∀ o ∈ p, o.seq ≤ (n : Int) → o ∈ (aw w).1) → bf w k n κ p = true
 | [], _ => by rw [bf]; exact hκ
 | o :: p, h => by
  rw [bf]
  have : (decide (o.seq ≤ (n : Int)) && (!(decide (o ∈ (aw w).1)))) = false := by
   by_cases hs : o.seq ≤ (n : Int)
   ·simp [h o (.head _) hs]
   ·simp [hs]
  rw [this, cond_false]
  exact uh hκ p fun q hq => h q (.tail _ hq)
theorem ui {w : Wld} {l : List Rec} (h : IsW w l) (hi : qF w l) : ∀ (r : List Client) (k : Nat), r = w.c.drop k → aX w r k = true
 | [], _, _ => rfl
 | c :: r, k, hr => by
  have hlt : k < w.c.length := by
   rcases Nat.lt_or_ge k w.c.length with h' | h'
   ·exact h'
   ·rw [List.drop_of_length_le h'] at hr; cases hr
  rw [aE hlt] at hr
  obtain ⟨rfl, hr'⟩ := List.cons.inj hr
  have hk : k < 3 := by rw [← h.three]; exact hlt
  have hc := hi.cli k hk
  obtain ⟨m, m1, m2⟩ := hi.log.seqs k hk
  rw [aX]
  rw [← hc.life] at m2
  have hA : (aw w).1 = opsOf l := by rw [lF h]
  rw [rj _ 0 m (by rw [hA]; exact m2)]
  have hhi := hc.hi
  have hlo := hc.lo
  have e1 : (decide ((m : Int) > (gt w.c k).seq) || decide ((m : Int) < ((gt w.c k).seq - ((gt w.c k).pending.length : Int)))) = false := by
   simp only [Bool.or_eq_false_iff, decide_eq_false_iff_not]; omega
  rw [e1, cond_false]
  exact uh (ui h hi r (k + 1) hr') _ fun o ho hs => by rw [hA]; exact hc.pend o ho (by omega)
theorem un (l : List Happening) : eH l = true := by
 unfold eH
 rw [nz, Bool.true_and]
 have hp0 : ∀ k, k < 3 → peer [] k = ⟨0, 0, []⟩ ∧ gt bV.c k = ⟨0, 0, 0, [], 0, ⟨[], [], []⟩⟩ := fun k hk => by
  rcases (by omega : k = 0 ∨ k = 1 ∨ k = 2) with rfl | rfl | rfl <;> exact ⟨rfl, rfl⟩
 refine nH qF ⟨⟨rfl, fun k hk => ⟨0, ?_, .nil 0⟩, fun o ho => by cases ho⟩, fun k hk => ?_, fun m hm => by cases hm⟩ (fun w l x w' l' h hi hp => hi.step h hp) (fun w l h hi => ?_) l
 ·rw [(hp0 k hk).1]; rfl
 ·have e := hp0 k hk
  rw [e.2]
  refine ⟨by rw [e.1], by rw [e.1]; exact Int.le_refl _, by rw [e.1]; simp, fun o ho => by cases ho⟩
 ·unfold aO
  have e1 : ((aw w).2 != 0) = false := by rw [lF h]; rfl
  rw [e1, cond_false]
  exact ui h hi w.c 0 rfl
end Go.Proofs.YtpkaloknohpleaaGreatDoor
