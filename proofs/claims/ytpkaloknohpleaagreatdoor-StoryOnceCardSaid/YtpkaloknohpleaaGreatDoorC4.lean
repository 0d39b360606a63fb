/- Part of this claim. No condition. -/
import Derived.Test.YtpkaloknohpleaaGreatDoorC3
import Derived.Test.YtpkaloknohpleaaGreatDoorC2
set_option linter.unusedVariables false
set_option linter.unusedSimpArgs false
set_option maxHeartbeats 2000000
namespace Go.Proofs.YtpkaloknohpleaaGreatDoor
open Go Go.Proofs.YtpkaloknohpleaaGreatDoor.Fw Go.Proofs
attribute [local irreducible] RW CW
def ep (p1 : Place) : Int :=
 (bif (((((decide (p1.node < 1) || decide (p1.node ≥ 16)) || decide (p1.parent < 0)) || decide (p1.parent > 16)) || decide (p1.name < 0)) || decide (p1.name > 99)) then 3 else 0)
theorem ny (p1 : Place) : Does Tryz.prog 31 [.agg ⟨[.int .i64 p1.node, .int .i64 p1.parent, .int .i64 p1.name]⟩] [] (fun (_ : Unit) => .int .i64 (ep p1)) (fun _ => []) := by
 refine bj aZ Tryz.func31 rfl Tryz.ntmps31 Tryz.results31 rfl inferInstance (fun _ => inferInstance) fun C => ?_
 refine Tx ?_
 refine Bx fun g1 => ?_
 refine Tx ?_
 refine Cd (b := (((((decide (p1.node < 1) || decide (p1.node ≥ 16)) || decide (p1.parent < 0)) || decide (p1.parent > 16)) || decide (p1.name < 0)) || decide (p1.name > 99))) (fun hc1 => ?_) fun hc1 => ?_
 ·refine Tx ?_
  refine ai ?_; simp only [ep, hc1, Cf]; exact Re () (Vt Vn)
 ·refine Tx ?_
  refine ai ?_; simp only [ep, hc1, Cf]; exact Re () (Vt Vn)
def eE (node1 : Int) : List Place → Place
 | [] => (⟨0, 0, 0⟩ : Place)
 | pn1 :: rn1 => (bif (pn1.node == node1) then pn1 else (eE node1 rn1))
def ca (t1 : List Place) (node1 : Int) : Place :=
 (eE node1 t1)
theorem eJ (y1 : SlV) (t1 : List Place) (node1 : Int) : Does Tryz.prog 50 [.agg ⟨[y1.val t1.length]⟩, .int .i64 node1] [RdL EPlace y1 t1] (fun (_ : Unit) => .agg ⟨[.int .i64 (ca t1 node1).node, .int .i64 (ca t1 node1).parent, .int .i64 (ca t1 node1).name]⟩) (fun _ => []) := by
 refine bj aZ Tryz.func50 rfl Tryz.ntmps50 Tryz.results50 rfl inferInstance (fun _ => inferInstance) fun C => ?_
 refine Pc EPlace y1 t1 24 fun hlen1 => ?_
 refine Tx ?_
 refine Bx fun g1 => ?_
 refine Al fun g2 => ?_
 refine Tx ?_
 (repeat refine ao ?_); refine Lp [1,4,8,9] [true, true] (fun (n1 : Nat) => (⟨[(10, .v (.int .i64 (n1 : Int)))], [], [], [], (n1 ≤ t1.length) ∧ (eE node1 (t1.drop n1)) = (ca t1 node1), t1.length - n1⟩ : Ls)) 0 (Sc (Sc (Sc (Sc Sn)))) (.keep (.keep (.nil))) ⟨Nat.zero_le _, (by simp only [ca, Cf] : (ca t1 node1) = (eE node1 t1)).symm⟩ Le4 ?_
 rintro n1 ⟨hkn1, hf1⟩
 simp only [List.cons_append, List.nil_append]
 refine Tx ?_
 refine Cd (b := decide ((n1 : Int) < (t1.length : Int))) (fun hc1 => ?_) fun hc1 => ?_
 ·have hlt0 : n1 < t1.length := Int.ofNat_lt.1 (of_decide_eq_true hc1)
  refine Tx ?_
  refine rw_q rfl rfl rfl (q_idx EPlace n1 rfl rfl Zf rfl Zf rfl rfl rfl Mm rfl Zf (fun _ => by first | assumption | omega)) ?_
  refine rw_q rfl rfl rfl (q_leA EPlace rfl rfl Zf rfl rfl Mm (fun _ => by first | assumption | omega)) ?_
  refine Al fun g3 => ?_
  refine Tx ?_
  refine Cd (b := ((gt t1 n1).node == node1)) (fun hc2 => ?_) fun hc2 => ?_
  ·have hc2p := eq_of_beq hc2
   refine Tx ?_
   refine ai ?_; rw [show (ca t1 node1) = (gt t1 n1) by rw [← hf1, aE hlt0]; simp only [eE, hc2, Cf]]; exact Re () (Va Vn)
  ·have hc2p := ne_of_beq_false hc2
   refine Tx ?_
   refine rw_q rfl rfl rfl (q_add rfl rfl Zf rfl Zf Zo) ?_
   refine Tx ?_
   refine ⟨(n1 + 1), ⟨hlt0, (by rw [← hf1, aE hlt0]; simp only [eE, hc2, Cf] : (ca t1 node1) = (eE node1 (t1.drop (n1 + 1)))).symm⟩, (by simp only []; omega), Le4⟩
 ·have hge0 : t1.length ≤ n1 := by have := of_decide_eq_false hc1; omega
  refine Tx ?_
  refine ai ?_; rw [show (ca t1 node1) = (⟨0, 0, 0⟩ : Place) by rw [← hf1, List.drop_of_length_le hge0]; simp only [eE, Cf]]; exact Re () (Va Vn)
def dB (t1 : List Place) (top1 : Int) : Nat → Int → Bool
 | 0, node2 => false
 | fn1 + 1, node2 => (bif (node2 == top1) then true else (bif ((ca t1 node2).node == 0) then false else (dB t1 top1 fn1 (ca t1 node2).parent)))
def du (t1 : List Place) (node1 : Int) (top1 : Int) : Bool :=
 (dB t1 top1 ((t1.length + 1) - 0) node1)
theorem fS (y1 : SlV) (t1 : List Place) (node1 : Int) (top1 : Int) : Does Tryz.prog 32 [.agg ⟨[y1.val t1.length]⟩, .int .i64 node1, .int .i64 top1] [RdL EPlace y1 t1] (fun (_ : Unit) => .bool (du t1 node1 top1)) (fun _ => []) := by
 refine bj aZ Tryz.func32 rfl Tryz.ntmps32 Tryz.results32 rfl inferInstance (fun _ => inferInstance) fun C => ?_
 refine Pc EPlace y1 t1 24 fun hlen1 => ?_
 refine Tx ?_
 refine Bx fun g1 => ?_
 refine Tx ?_
 refine rw_q rfl rfl rfl (q_add rfl rfl Zf rfl Zf Zo) ?_
 refine Tx ?_
 (repeat refine ao ?_); refine Lp [2,3,6,11] [true] (fun (i_ : Int × Nat) => match i_ with | ⟨node2, n1⟩ => (⟨[(1, .v (.int .i64 node2)), (12, .v (.int .i64 (n1 : Int)))], [], [], [], (n1 ≤ (t1.length + 1)) ∧ (dB t1 top1 ((t1.length + 1) - n1) node2) = (du t1 node1 top1), (t1.length + 1) - n1⟩ : Ls)) ⟨node1, 0⟩ (Sc (Sc (Sc (Sc Sn)))) (.keep (.nil)) ⟨(Nat.zero_le _), (by simp only [du, Cf] : (du t1 node1 top1) = (dB t1 top1 ((t1.length + 1) - 0) node1)).symm⟩ Le4 ?_
 rintro ⟨node2, n1⟩ ⟨hkn1, hf1⟩
 simp only [List.cons_append, List.nil_append]
 refine Tx ?_
 refine Cd (b := decide ((n1 : Int) < ((t1.length : Int) + 1))) (fun hc1 => ?_) fun hc1 => ?_
 ·have hlt0 : n1 < (t1.length + 1) := by have := of_decide_eq_true hc1; omega
  have hlt0_ : (t1.length + 1) - n1 = ((t1.length + 1) - (n1 + 1)) + 1 := by omega
  refine Tx ?_
  refine Cd (b := (node2 == top1)) (fun hc2 => ?_) fun hc2 => ?_
  ·have hc2p := eq_of_beq hc2
   refine Tx ?_
   refine ai ?_; rw [show (du t1 node1 top1) = true by rw [← hf1]; (conv => lhs; rw [hlt0_]); simp only [dB, hc2, Cf]]; exact Re () (Vt Vn)
  ·have hc2p := ne_of_beq_false hc2
   refine Tx ?_
   refine Cl (eJ y1 t1 node2) fun _ => ?_
   refine Al fun g2 => ?_
   refine Tx ?_
   refine Cd (b := ((ca t1 node2).node == 0)) (fun hc3 => ?_) fun hc3 => ?_
   ·have hc3p := eq_of_beq hc3
    refine Tx ?_
    refine ai ?_; rw [show (du t1 node1 top1) = false by rw [← hf1]; (conv => lhs; rw [hlt0_]); simp only [dB, hc2, hc3, Cf]]; exact Re () (Vt Vn)
   ·have hc3p := ne_of_beq_false hc3
    refine Tx ?_
    refine rw_q rfl rfl rfl (q_add rfl rfl Zf rfl Zf Zo) ?_
    refine Tx ?_
    refine ⟨⟨(ca t1 node2).parent, (n1 + 1)⟩, ⟨hlt0, (by rw [← hf1]; (conv => lhs; rw [hlt0_]); simp only [dB, hc2, hc3, Cf] : (du t1 node1 top1) = (dB t1 top1 ((t1.length + 1) - (n1 + 1)) (ca t1 node2).parent)).symm⟩, (by simp only []; omega), Le4⟩
 ·have hge0 : (t1.length + 1) ≤ n1 := by have := of_decide_eq_false hc1; omega
  have hge0_ : (t1.length + 1) - n1 = 0 := by omega
  refine Tx ?_
  refine ai ?_; rw [show (du t1 node1 top1) = false by rw [← hf1, hge0_]; simp only [dB, Cf]]; exact Re () (Vt Vn)
def dF (t1 : List Place) : List Place → Int
 | [] => 0
 | pn2 :: rn2 => (bif (du t1 pn2.parent pn2.node) then 4 else (dF t1 rn2))
def dn (t1 : List Place) : List Place → Nat → Int
 | [], n1 => (dF t1 t1)
 | pn1 :: rn1, n1 => (bif ((ep pn1) != 0) then (ep pn1) else (bif (decide ((n1 : Int) > 0) && decide ((gt t1 (n1 - 1)).node ≥ pn1.node)) then 6 else (dn t1 rn1 (n1 + 1))))
def bx (t1 : List Place) : Int :=
 (dn t1 t1 0)
theorem ec (y1 : SlV) (t1 : List Place) : Does Tryz.prog 12 [.agg ⟨[y1.val t1.length]⟩] [RdL EPlace y1 t1] (fun (_ : Unit) => .int .i64 (bx t1)) (fun _ => []) := by
 refine bj aZ Tryz.func12 rfl Tryz.ntmps12 Tryz.results12 rfl inferInstance (fun _ => inferInstance) fun C => ?_
 refine Pc EPlace y1 t1 24 fun hlen1 => ?_
 refine Tx ?_
 refine Bx fun g1 => ?_
 refine Tx ?_
 (repeat refine ao ?_); refine Lp [1,2,9,10] [true] (fun (n1 : Nat) => (⟨[(11, .v (.int .i64 (n1 : Int)))], [], [], [], (n1 ≤ t1.length) ∧ (dn t1 (t1.drop n1) n1) = (bx t1), t1.length - n1⟩ : Ls)) 0 (Sc (Sc (Sc (Sc Sn)))) (.keep (.nil)) ⟨Nat.zero_le _, (by simp only [bx, Cf] : (bx t1) = (dn t1 t1 0)).symm⟩ Le4 ?_
 rintro n1 ⟨hkn1, hf1⟩
 simp only [List.cons_append, List.nil_append]
 refine Tx ?_
 refine Cd (b := decide ((n1 : Int) < (t1.length : Int))) (fun hc1 => ?_) fun hc1 => ?_
 ·have hlt0 : n1 < t1.length := Int.ofNat_lt.1 (of_decide_eq_true hc1)
  refine Tx ?_
  refine rw_q rfl rfl rfl (q_idx EPlace n1 rfl rfl Zf rfl Zf rfl rfl rfl Mm rfl Zf (fun _ => by first | assumption | omega)) ?_
  refine rw_q rfl rfl rfl (q_leA EPlace rfl rfl Zf rfl rfl Mm (fun _ => by first | assumption | omega)) ?_
  refine Al fun g2 => ?_
  refine Tx ?_
  refine Cl (ny (gt t1 n1)) fun _ => ?_
  refine Tx ?_
  refine Cd (b := ((ep (gt t1 n1)) != 0)) (fun hc2 => ?_) fun hc2 => ?_
  ·have hc2p := bne_iff_ne.1 hc2
   refine Tx ?_
   refine ai ?_; rw [show (bx t1) = (ep (gt t1 n1)) by rw [← hf1, aE hlt0]; simp only [dn, hc2, Cf]]; exact Re () (Vt Vn)
  ·have hc2p := ae hc2
   refine Tx ?_
   (repeat refine ao ?_); refine au (fun _ => some []) ?_
   refine Rb 0 rfl Qp ?_
   refine Rb 1 rfl Qp ?_
   refine Ra 2 rfl Qp ?_
   refine Gb 3 rfl (aG rfl rfl rfl) (q_pev rfl Bt) ?_
   refine Gb 4 rfl (aG rfl rfl rfl) (q_ld1 rfl rfl Bt rfl Mm rfl) ?_
   refine Gb 5 rfl (aG rfl rfl rfl) (q_pev rfl Bt) ?_
   refine Gb 6 rfl (aG rfl rfl rfl) (q_sub rfl rfl Bt rfl Bt (by intro h; first | omega | (simp at h; omega))) ?_
   refine Gb 7 rfl (aG rfl rfl rfl) (q_idx EPlace (n1 - 1) rfl rfl Bt rfl Bt rfl rfl rfl Mm rfl (by intro h; first | omega | rfl | (simp at h; omega)) (by first | (intro _; first | assumption | omega) | (intro h; simp at h; omega))) ?_
   refine Gb 8 rfl (aG rfl rfl rfl) (q_fae rfl rfl Bt rfl rfl) ?_
   refine Gb 9 rfl (aG rfl rfl rfl) (q_le1 EPlace rfl rfl Bt rfl rfl Mm (by first | (intro _; first | assumption | omega) | (intro h; simp at h; omega)) rfl) ?_
   refine Gb 10 rfl (aG rfl rfl rfl) (q_pev rfl Bt) ?_
   refine Gb 11 rfl (aG rfl rfl rfl) (q_ld1 rfl rfl Bt rfl Mm rfl) ?_
   refine Ga 12 rfl (aG rfl rfl rfl) (q_pev rfl Bt) ?_
   refine Ra 13 rfl (q_pev rfl Bt) ?_
   refine bn Kr ?_
   (repeat refine ao ?_)
   refine Cd (b := (decide ((n1 : Int) > 0) && decide ((gt t1 (n1 - 1)).node ≥ (gt t1 n1).node))) (fun hc3 => ?_) fun hc3 => ?_
   ·refine Tx ?_
    refine ai ?_; rw [show (bx t1) = 6 by rw [← hf1, aE hlt0]; simp only [dn, hc2, hc3, Cf]]; exact Re () (Vt Vn)
   ·refine Tx ?_
    refine rw_q rfl rfl rfl (q_add rfl rfl Zf rfl Zf Zo) ?_
    refine Tx ?_
    refine ⟨(n1 + 1), ⟨hlt0, (by rw [← hf1, aE hlt0]; simp only [dn, hc2, hc3, Cf] : (bx t1) = (dn t1 (t1.drop (n1 + 1)) (n1 + 1))).symm⟩, (by simp only []; omega), Le4⟩
 ·have hge0 : t1.length ≤ n1 := by have := of_decide_eq_false hc1; omega
  refine Tx ?_
  (repeat refine ao ?_); refine Lp [1,2,37,38] [true] (fun (n2 : Nat) => (⟨[(39, .v (.int .i64 (n2 : Int)))], [], [], [], (n2 ≤ t1.length) ∧ (dF t1 (t1.drop n2)) = (bx t1), t1.length - n2⟩ : Ls)) 0 (Sc (Sc (Sc (Sc Sn)))) (.keep (.nil)) ⟨Nat.zero_le _, (by rw [← hf1, List.drop_of_length_le hge0]; simp only [dn, Cf] : (bx t1) = (dF t1 t1)).symm⟩ Le4 ?_
  rintro n2 ⟨hkn2, hf2⟩
  simp only [List.cons_append, List.nil_append]
  refine Tx ?_
  refine Cd (b := decide ((n2 : Int) < (t1.length : Int))) (fun hc4 => ?_) fun hc4 => ?_
  ·have hlt1 : n2 < t1.length := Int.ofNat_lt.1 (of_decide_eq_true hc4)
   refine Tx ?_
   refine rw_q rfl rfl rfl (q_idx EPlace n2 rfl rfl Zf rfl Zf rfl rfl rfl Mm rfl Zf (fun _ => by first | assumption | omega)) ?_
   refine rw_q rfl rfl rfl (q_leA EPlace rfl rfl Zf rfl rfl Mm (fun _ => by first | assumption | omega)) ?_
   refine Al fun g3 => ?_
   refine Tx ?_
   refine Cl (fS y1 t1 (gt t1 n2).parent (gt t1 n2).node) fun _ => ?_
   refine dY ?_
   (repeat refine ao ?_)
   refine Cd (b := (du t1 (gt t1 n2).parent (gt t1 n2).node)) (fun hc5 => ?_) fun hc5 => ?_
   ·refine Tx ?_
    refine ai ?_; rw [show (bx t1) = 4 by rw [← hf2, aE hlt1]; simp only [dF, hc5, Cf]]; exact Re () (Vt Vn)
   ·refine Tx ?_
    refine rw_q rfl rfl rfl (q_add rfl rfl Zf rfl Zf Zo) ?_
    refine Tx ?_
    refine ⟨(n2 + 1), ⟨hlt1, (by rw [← hf2, aE hlt1]; simp only [dF, hc5, Cf] : (bx t1) = (dF t1 (t1.drop (n2 + 1)))).symm⟩, (by simp only []; omega), Le4⟩
  ·have hge1 : t1.length ≤ n2 := by have := of_decide_eq_false hc4; omega
   refine Tx ?_
   refine ai ?_; rw [show (bx t1) = 0 by rw [← hf2, List.drop_of_length_le hge1]; simp only [dF, Cf]]; exact Re () (Vt Vn)
def fK (t1 : List Place) : List Place :=
 t1
theorem jb (y1 : SlV) (t1 : List Place) : DoesG Tryz.prog 51 [.agg ⟨[y1.val t1.length]⟩] [RdL EPlace y1 t1] ⟨[], []⟩ (fun (X : SlV × Option Nat) => .agg ⟨[X.1.val (fK t1).length]⟩) (fun X => []) (fun X => ⟨[], [ownL EPlace 83 X.1 X.2 (fK t1)]⟩) := by
 refine co aZ Tryz.func51 rfl Tryz.ntmps51 Tryz.results51 rfl inferInstance (fun _ => inferInstance) fun C => ?_
 refine Pc EPlace y1 t1 24 fun hlen1 => ?_
 refine Tx ?_
 refine Bx fun g1 => ?_
 refine Al fun g2 => ?_
 refine Tx ?_
 refine Cg (c8 y1 t1) fun x1 => ?_
 refine Tx ?_
 refine ai ?_; simp only [fK, Cf]; exact Re ⟨x1.1, x1.2⟩ (Va Vn)
def cA (p1 : Place) : List Place → Bool → (List Place) → (List Place)
 | [], done1, p2 => (bif (!done1) then (p2 ++ [p1]) else p2)
 | pn1 :: rn1, done1, p2 => (bif ((!done1) && decide (pn1.node ≥ p1.node)) then (bif (pn1.node != p1.node) then (cA p1 rn1 true ((p2 ++ [p1]) ++ [pn1])) else (cA p1 rn1 true (p2 ++ [p1]))) else (bif (pn1.node != p1.node) then (cA p1 rn1 done1 (p2 ++ [pn1])) else (cA p1 rn1 done1 p2)))
def cq (t1 : List Place) (p1 : Place) : List Place :=
 (cA p1 t1 (decide (p1.parent < 0)) [])
theorem fA (y1 : SlV) (t1 : List Place) (p1 : Place) (hl : t1.length ≤ 1000000) : Does Tryz.prog 52 [.agg ⟨[y1.val t1.length]⟩, .agg ⟨[.int .i64 p1.node, .int .i64 p1.parent, .int .i64 p1.name]⟩] [RdL EPlace y1 t1] (fun (X : SlV) => .agg ⟨[X.val (cq t1 p1).length]⟩) (fun X => [RdL EPlace X (cq t1 p1)]) := by
 refine bj aZ Tryz.func52 rfl Tryz.ntmps52 Tryz.results52 rfl inferInstance (fun _ => inferInstance) fun C => ?_
 refine Pc EPlace y1 t1 24 fun hlen1 => ?_
 refine Tx ?_
 refine Bx fun g1 => ?_
 refine Bx fun g2 => ?_
 refine Al fun g3 => ?_
 refine Tx ?_
 refine Al fun g4 => ?_
 refine Tx ?_
 (repeat refine ao ?_); refine Lp [3,4,5,13,14] [false, true, true, true] (fun (i_ : Bool × Nat × List Place × SlV × Option Nat) => match i_ with | ⟨done1, n1, p2, x1, x1b⟩ => (⟨[(6, .v (.bool done1)), (15, .v (.int .i64 (n1 : Int)))], [⟨g4, 27, [x1.val p2.length]⟩], [ownL EPlace 83 x1 x1b p2], [], (n1 ≤ t1.length) ∧ (p2.length ≤ 2 * n1) ∧ (cA p1 (t1.drop n1) done1 p2) = (cq t1 p1), t1.length - n1⟩ : Ls)) ⟨decide (p1.parent < 0), 0, [], ⟨none, 0⟩, none⟩ (Sc (Sc (Sc (Sc (Sc Sn))))) (.drop (.keep (.keep (.keep (.nil))))) ⟨Nat.zero_le _, (by first | exact Nat.le_refl _ | exact Nat.zero_le _ | omega), (by simp only [cq, Cf] : (cq t1 p1) = (cA p1 t1 (decide (p1.parent < 0)) [])).symm⟩ (Le.trans (eO EPlace 83) Le4) ?_
 rintro ⟨done1, n1, p2, x1, x1b⟩ ⟨hkn1, hp2, hf1⟩
 simp only [List.cons_append, List.nil_append]
 refine Tx ?_
 refine Cd (b := decide ((n1 : Int) < (t1.length : Int))) (fun hc1 => ?_) fun hc1 => ?_
 ·have hlt0 : n1 < t1.length := Int.ofNat_lt.1 (of_decide_eq_true hc1)
  refine Tx ?_
  refine rw_q rfl rfl rfl (q_idx EPlace n1 rfl rfl Zf rfl Zf rfl rfl rfl Mm rfl Zf (fun _ => by first | assumption | omega)) ?_
  refine rw_q rfl rfl rfl (q_leA EPlace rfl rfl Zf rfl rfl Mm (fun _ => by first | assumption | omega)) ?_
  refine Al fun g5 => ?_
  refine Tx ?_
  refine Cd (b := ((!done1) && decide ((gt t1 n1).node ≥ p1.node))) (fun hc2 => ?_) fun hc2 => ?_
  ·refine Tx ?_
   refine bB EPlace [p1] .sq (ac rfl) rfl rfl rfl rfl rfl rfl rfl rfl rfl rfl rfl rfl rfl rfl rfl fun x2 x2b => ?_
   refine b5 EPlace p2 [p1] (b := x1b) .sq (fun _ _ => .inl ⟨_, rfl⟩) (ac rfl) rfl rfl rfl rfl rfl rfl rfl (fun _ _ => Uo) rfl rfl rfl rfl rfl rfl rfl (c6 (e := 83) (b := x2b) Mm) (by show (p2.length + 1) * 24 ≤ 140737488355328; (try simp only [List.length_append, List.length_cons, List.length_nil]); omega) fun x3 x3b => ?_
   refine Tx ?_
   refine Cd (b := ((gt t1 n1).node != p1.node)) (fun hc3 => ?_) fun hc3 => ?_
   ·have hc3p := bne_iff_ne.1 hc3
    refine Tx ?_
    refine bB EPlace [(gt t1 n1)] .sq (ac rfl) rfl rfl rfl rfl rfl rfl rfl rfl rfl rfl rfl rfl rfl rfl rfl fun x4 x4b => ?_
    refine b5 EPlace (p2 ++ [p1]) [(gt t1 n1)] (b := x3b) .sq (fun _ _ => .inl ⟨_, rfl⟩) (ac rfl) rfl rfl rfl rfl rfl rfl rfl (fun _ _ => Uo) rfl rfl rfl rfl rfl rfl rfl (c6 (e := 83) (b := x4b) Mm) (by show ((p2 ++ [p1]).length + 1) * 24 ≤ 140737488355328; (try simp only [List.length_append, List.length_cons, List.length_nil]); omega) fun x5 x5b => ?_
    refine Tx ?_
    refine rw_q rfl rfl rfl (q_add rfl rfl Zf rfl Zf Zo) ?_
    refine Tx ?_
    refine ⟨⟨true, (n1 + 1), ((p2 ++ [p1]) ++ [(gt t1 n1)]), x5, x5b⟩, ⟨hlt0, Zl, (by rw [← hf1, aE hlt0]; simp only [cA, hc2, hc3, Cf] : (cq t1 p1) = (cA p1 (t1.drop (n1 + 1)) true ((p2 ++ [p1]) ++ [(gt t1 n1)]))).symm⟩, (by simp only []; omega), Le4⟩
   ·have hc3p := ae hc3
    refine Tx ?_
    refine rw_q rfl rfl rfl (q_add rfl rfl Zf rfl Zf Zo) ?_
    refine Tx ?_
    refine ⟨⟨true, (n1 + 1), (p2 ++ [p1]), x3, x3b⟩, ⟨hlt0, Zl, (by rw [← hf1, aE hlt0]; simp only [cA, hc2, hc3, Cf] : (cq t1 p1) = (cA p1 (t1.drop (n1 + 1)) true (p2 ++ [p1]))).symm⟩, (by simp only []; omega), Le4⟩
  ·refine Tx ?_
   refine Cd (b := ((gt t1 n1).node != p1.node)) (fun hc4 => ?_) fun hc4 => ?_
   ·have hc4p := bne_iff_ne.1 hc4
    refine Tx ?_
    refine bB EPlace [(gt t1 n1)] .sq (ac rfl) rfl rfl rfl rfl rfl rfl rfl rfl rfl rfl rfl rfl rfl rfl rfl fun x6 x6b => ?_
    refine b5 EPlace p2 [(gt t1 n1)] (b := x1b) .sq (fun _ _ => .inl ⟨_, rfl⟩) (ac rfl) rfl rfl rfl rfl rfl rfl rfl (fun _ _ => Uo) rfl rfl rfl rfl rfl rfl rfl (c6 (e := 83) (b := x6b) Mm) (by show (p2.length + 1) * 24 ≤ 140737488355328; (try simp only [List.length_append, List.length_cons, List.length_nil]); omega) fun x7 x7b => ?_
    refine Tx ?_
    refine rw_q rfl rfl rfl (q_add rfl rfl Zf rfl Zf Zo) ?_
    refine Tx ?_
    refine ⟨⟨done1, (n1 + 1), (p2 ++ [(gt t1 n1)]), x7, x7b⟩, ⟨hlt0, Zl, (by rw [← hf1, aE hlt0]; simp only [cA, hc2, hc4, Cf] : (cq t1 p1) = (cA p1 (t1.drop (n1 + 1)) done1 (p2 ++ [(gt t1 n1)]))).symm⟩, (by simp only []; omega), Le4⟩
   ·have hc4p := ae hc4
    refine Tx ?_
    refine rw_q rfl rfl rfl (q_add rfl rfl Zf rfl Zf Zo) ?_
    refine Tx ?_
    refine ⟨⟨done1, (n1 + 1), p2, x1, x1b⟩, ⟨hlt0, Zl, (by rw [← hf1, aE hlt0]; simp only [cA, hc2, hc4, Cf] : (cq t1 p1) = (cA p1 (t1.drop (n1 + 1)) done1 p2)).symm⟩, (by simp only []; omega), Le4⟩
 ·have hge0 : t1.length ≤ n1 := by have := of_decide_eq_false hc1; omega
  refine Tx ?_
  refine Cd (b := (!done1)) (fun hc5 => ?_) fun hc5 => ?_
  ·refine Tx ?_
   refine bB EPlace [p1] .sq (ac rfl) rfl rfl rfl rfl rfl rfl rfl rfl rfl rfl rfl rfl rfl rfl rfl fun x8 x8b => ?_
   refine b5 EPlace p2 [p1] (b := x1b) .sq (fun _ _ => .inl ⟨_, rfl⟩) (ac rfl) rfl rfl rfl rfl rfl rfl rfl (fun _ _ => Uo) rfl rfl rfl rfl rfl rfl rfl (c6 (e := 83) (b := x8b) Mm) (by show (p2.length + 1) * 24 ≤ 140737488355328; (try simp only [List.length_append, List.length_cons, List.length_nil]); omega) fun x9 x9b => ?_
   refine Tx ?_
   refine cw_le (ay EPlace 83 x9 x9b (p2 ++ [p1]) Uo) ?_
   refine ai ?_; rw [show (cq t1 p1) = (p2 ++ [p1]) by rw [← hf1, List.drop_of_length_le hge0]; simp only [cA, hc5, Cf]]; exact Re x9 (Va Vn)
  ·refine Tx ?_
   refine cw_le (ay EPlace 83 x1 x1b p2 Uo) ?_
   refine ai ?_; rw [show (cq t1 p1) = p2 by rw [← hf1, List.drop_of_length_le hge0]; simp only [cA, hc5, Cf]]; exact Re x1 (Va Vn)
def ck (o1 : Op) : Int :=
 (bif (((((((((((((decide (o1.time < 1) || decide (o1.time > 10000)) || decide (o1.who < 0)) || decide (o1.who ≥ 3)) || decide (o1.node < 1)) || decide (o1.node ≥ 16)) || decide (o1.parent < 0)) || decide (o1.parent > 16)) || decide (o1.name < 0)) || decide (o1.name > 99)) || decide (o1.life < 1)) || decide (o1.life > 50)) || decide (o1.seq < 1)) || decide (o1.seq > 30)) then 3 else 0)
theorem ef (o1 : Op) : Does Tryz.prog 23 [.agg ⟨[.int .i64 o1.time, .int .i64 o1.who, .int .i64 o1.node, .int .i64 o1.parent, .int .i64 o1.name, .int .i64 o1.life, .int .i64 o1.seq]⟩] [] (fun (_ : Unit) => .int .i64 (ck o1)) (fun _ => []) := by
 refine bj aZ Tryz.func23 rfl Tryz.ntmps23 Tryz.results23 rfl inferInstance (fun _ => inferInstance) fun C => ?_
 refine Tx ?_
 refine Bx fun g1 => ?_
 refine Tx ?_
 refine Cd (b := (((((((((((((decide (o1.time < 1) || decide (o1.time > 10000)) || decide (o1.who < 0)) || decide (o1.who ≥ 3)) || decide (o1.node < 1)) || decide (o1.node ≥ 16)) || decide (o1.parent < 0)) || decide (o1.parent > 16)) || decide (o1.name < 0)) || decide (o1.name > 99)) || decide (o1.life < 1)) || decide (o1.life > 50)) || decide (o1.seq < 1)) || decide (o1.seq > 30))) (fun hc1 => ?_) fun hc1 => ?_
 ·refine Tx ?_
  refine ai ?_; simp only [ck, hc1, Cf]; exact Re () (Vt Vn)
 ·refine Tx ?_
  refine ai ?_; simp only [ck, hc1, Cf]; exact Re () (Vt Vn)
def eK (a1 : Stamp) (b1 : Stamp) : Bool :=
 (decide (a1.time < b1.time) || ((a1.time == b1.time) && decide (a1.who < b1.who)))
theorem gS (a1 : Stamp) (b1 : Stamp) : Does Tryz.prog 27 [.agg ⟨[.int .i64 a1.time, .int .i64 a1.who]⟩, .agg ⟨[.int .i64 b1.time, .int .i64 b1.who]⟩] [] (fun (_ : Unit) => .bool (eK a1 b1)) (fun _ => []) := by
 refine bj aZ Tryz.func27 rfl Tryz.ntmps27 Tryz.results27 rfl inferInstance (fun _ => inferInstance) fun C => ?_
 refine Tx ?_
 refine Bx fun g1 => ?_
 refine Bx fun g2 => ?_
 refine Tx ?_
 refine ai ?_; simp only [eK, Cf]; exact Re () (Vt Vn)
end Go.Proofs.YtpkaloknohpleaaGreatDoor

namespace Go.Proofs.YtpkaloknohpleaaGreatDoor
open Go Go.Proofs.YtpkaloknohpleaaGreatDoor.Fw Go.Proofs
theorem rE {p : Place} (h : ep p = 0) : 1 ≤ p.node ∧ p.node < 16 ∧ 0 ≤ p.parent ∧ p.parent ≤ 16 ∧ 0 ≤ p.name ∧ p.name ≤ 99 := by
 unfold ep at h
 cases hb : (((((decide (p.node < 1) || decide (p.node ≥ 16)) || decide (p.parent < 0)) || decide (p.parent > 16)) || decide (p.name < 0)) || decide (p.name > 99)) with
 | true => rw [hb] at h; simp at h
 | false => simp at hb; omega
theorem kg (t : List Place) : ∀ (r : List Place) (k : Nat), r = t.drop k → dn t r k = 0 →
  (∀ i, k ≤ i → i < t.length → ep (gt t i) = 0) ∧ (∀ i, k ≤ i → i < t.length → 0 < i → (gt t (i - 1)).node < (gt t i).node) ∧ dF t t = 0
 | [], k, hr, h => by
  have : t.length ≤ k := by have := congrArg List.length hr; simp at this; omega
  exact ⟨fun i h1 h2 => by omega, fun i h1 h2 => by omega, h⟩
 | p :: r, k, hr, h => by
  have hk : k < t.length := by have := congrArg List.length hr; simp at this; omega
  rw [aE hk] at hr
  obtain ⟨rfl, hr'⟩ := List.cons.inj hr
  rw [dn] at h
  cases h1 : (ep (gt t k) != 0) with
  | true => rw [h1, cond_true] at h; rw [h] at h1; simp at h1
  | false =>
   rw [h1, cond_false] at h
   cases h2 : (decide ((k : Int) > 0) && decide ((gt t (k - 1)).node ≥ (gt t k).node)) with
   | true => rw [h2] at h; simp at h
   | false =>
    rw [h2, cond_false] at h
    obtain ⟨ha, hb, hc⟩ := kg t r (k + 1) hr' h
    refine ⟨fun i hi hl => ?_, fun i hi hl hp => ?_, hc⟩
    ·by_cases he : i = k
     ·subst he; simpa using h1
     ·exact ha i (by omega) hl
    ·by_cases he : i = k
     ·subst he
      have : (0 : Int) < (i : Int) := by omega
      simp [this] at h2
      omega
     ·exact hb i (by omega) hl hp
theorem pg {t : List Place} (h : bx t = 0) : (∀ i, i < t.length → ep (gt t i) = 0) ∧ (∀ i, i < t.length → 0 < i → (gt t (i - 1)).node < (gt t i).node) ∧ dF t t = 0 := by
 obtain ⟨a, b, c⟩ := kg t t 0 rfl h
 exact ⟨fun i hi => a i (Nat.zero_le _) hi, fun i hi hp => b i (Nat.zero_le _) hi hp, c⟩
theorem kO {t : List Place} (h : bx t = 0) : t.length ≤ 15 := by
 obtain ⟨ha, hb, _⟩ := pg h
 have key : ∀ i, i < t.length → (i : Int) + 1 ≤ (gt t i).node := by
  intro i
  induction i with
  | zero => intro hi; have := (rE (ha 0 hi)).1; omega
  | succ i ih =>
   intro hi
   have h1 := ih (by omega)
   have h2 := hb (i + 1) hi (by omega)
   simp at h2
   omega
 by_cases hl : t.length ≤ 15
 ·exact hl
 ·have h1 := key 15 (by omega)
  have h2 := rE (ha 15 (by omega))
  omega
theorem pi (t : List Place) (h : bx t = 0) : t.length ≤ 1000000 := Nat.le_trans (kO h) (by omega)
end Go.Proofs.YtpkaloknohpleaaGreatDoor

set_option maxHeartbeats 2000000
namespace Go.Proofs.YtpkaloknohpleaaGreatDoor
open Go Go.Proofs.YtpkaloknohpleaaGreatDoor.Fw Go.Proofs
attribute [local irreducible] RW CW
def cI (t1 : List Place) (o1 : Op) : (List Place) × Step × Int :=
 (bif ((bx t1) != 0) then (([] : List Place), (⟨(⟨0, 0, 0, 0, 0, 0, 0⟩ : Op), false, (⟨0, 0, 0⟩ : Place)⟩ : Step), (bx t1)) else (bif ((ck o1) != 0) then (([] : List Place), (⟨(⟨0, 0, 0, 0, 0, 0, 0⟩ : Op), false, (⟨0, 0, 0⟩ : Place)⟩ : Step), (ck o1)) else (bif (du t1 o1.parent o1.node) then ((fK t1), (⟨o1, false, (ca t1 o1.node)⟩ : Step), 0) else ((cq t1 (⟨o1.node, o1.parent, o1.name⟩ : Place)), (⟨o1, true, (ca t1 o1.node)⟩ : Step), 0))))
theorem mQ (y1 : SlV) (t1 : List Place) (o1 : Op) : Does Tryz.prog 28 [.agg ⟨[y1.val t1.length]⟩, .agg ⟨[.int .i64 o1.time, .int .i64 o1.who, .int .i64 o1.node, .int .i64 o1.parent, .int .i64 o1.name, .int .i64 o1.life, .int .i64 o1.seq]⟩] [RdL EPlace y1 t1] (fun (X : SlV) => .tuple #[.agg ⟨[X.val (cI t1 o1).1.length]⟩, .agg ⟨[.int .i64 (cI t1 o1).2.1.o.time, .int .i64 (cI t1 o1).2.1.o.who, .int .i64 (cI t1 o1).2.1.o.node, .int .i64 (cI t1 o1).2.1.o.parent, .int .i64 (cI t1 o1).2.1.o.name, .int .i64 (cI t1 o1).2.1.o.life, .int .i64 (cI t1 o1).2.1.o.seq, .bool (cI t1 o1).2.1.did, .int .i64 (cI t1 o1).2.1.was.node, .int .i64 (cI t1 o1).2.1.was.parent, .int .i64 (cI t1 o1).2.1.was.name]⟩, .int .i64 (cI t1 o1).2.2]) (fun X => [RdL EPlace X (cI t1 o1).1]) := by
 refine bj aZ Tryz.func28 rfl Tryz.ntmps28 Tryz.results28 rfl inferInstance (fun _ => inferInstance) fun C => ?_
 refine Pc EPlace y1 t1 24 fun hlen1 => ?_
 refine Tx ?_
 refine Bx fun g1 => ?_
 refine Bx fun g2 => ?_
 refine Al fun g3 => ?_
 refine Al fun g4 => ?_
 refine Tx ?_
 refine Cl (ec y1 t1) fun _ => ?_
 refine Tx ?_
 refine Cd (b := ((bx t1) != 0)) (fun hc1 => ?_) fun hc1 => ?_
 ·have hc1p := bne_iff_ne.1 hc1
  refine Tx ?_
  refine Fc EPlace ?_
  refine ai ?_; simp only [cI, hc1, Cf]; exact Re (⟨none, 0⟩ : SlV) (Va (Va (Vt Vn)))
 ·have hc1p := ae hc1
  refine Tx ?_
  refine Cl (ef o1) fun _ => ?_
  refine Tx ?_
  refine Cd (b := ((ck o1) != 0)) (fun hc2 => ?_) fun hc2 => ?_
  ·have hc2p := bne_iff_ne.1 hc2
   refine Tx ?_
   refine Fc EPlace ?_
   refine ai ?_; simp only [cI, hc1, hc2, Cf]; exact Re (⟨none, 0⟩ : SlV) (Va (Va (Vt Vn)))
  ·have hc2p := ae hc2
   refine Tx ?_
   refine gp [2, 3, 4, 5, 6] [true, true, true, true] (fun (g5 : Nat) => [(9, .v (.pointer (some ⟨g5, 0, none⟩)))]) (fun (g5 : Nat) => [⟨g5, 85, [.int .i64 o1.time, .int .i64 o1.who, .int .i64 o1.node, .int .i64 o1.parent, .int .i64 o1.name, .int .i64 o1.life, .int .i64 o1.seq, .bool false, .int .i64 (ca t1 o1.node).node, .int .i64 (ca t1 o1.node).parent, .int .i64 (ca t1 o1.node).name]⟩]) (fun (g5 : Nat) => []) (fun (g5 : Nat) => []) (fun _ => True) (.cons rfl (.cons rfl (.cons rfl (.cons rfl (.cons rfl (.nil _)))))) (.keep (.keep (.keep (.keep (.nil))))) ?_ ?_
   ·refine au (fun j => match j with | 7 => none | _ => some []) ?_
    refine Ra 0 rfl (q_ldA rfl rfl Zf rfl Mm rfl) ?_
    refine Rb 1 rfl (q_ldA rfl rfl Zf rfl Mm rfl) ?_
    refine Rb 2 rfl Qp ?_
    refine Rb 3 rfl Q1 ?_
    refine fu 4 6 Kr ?_ ?_
    ·refine cJ (eJ y1 t1 o1.node) (.an rfl rfl) (ac rfl) rfl rfl rfl Kr rfl rfl Sm ?_
     intro _
     refine Ra 5 rfl Qp ?_
     refine ap 6 Kr ?_
     refine di (.an rfl rfl) (ac rfl) rfl rfl rfl rfl fun g6 => ?_
     refine ap 7 Kr ?_
     refine cY (.lo [g6] rfl rfl) (.inr (by simp)) (ac rfl) rfl rfl rfl rfl rfl rfl rfl rfl rfl Ub rfl ?_
     refine bn Kr ?_
     refine ⟨g6, trivial, Le4⟩
    ·refine di (.an rfl rfl) (ac rfl) rfl rfl rfl rfl fun g7 => ?_
     refine ap 4 Kr ?_
     refine cJ (eJ y1 t1 o1.node) (.an rfl rfl) (ac rfl) rfl rfl rfl Kr rfl rfl Sm ?_
     intro _
     refine Ra 5 rfl Qp ?_
     refine ap 7 Kr ?_
     refine cY (.lo [g7] rfl rfl) (.inr (by simp)) (ac rfl) rfl rfl rfl rfl rfl rfl rfl rfl rfl Ub rfl ?_
     refine bn Kr ?_
     refine ⟨g7, trivial, Le4⟩
   ·rintro g5 -
    simp only [List.cons_append, List.nil_append]
    refine Tx ?_
    refine Cl (fS y1 t1 o1.parent o1.node) fun _ => ?_
    refine dY ?_
    (repeat refine ao ?_)
    refine Cd (b := (du t1 o1.parent o1.node)) (fun hc3 => ?_) fun hc3 => ?_
    ·(repeat refine ao ?_); refine au (fun j => match j with | 3 => some [g3] | 4 => some [g4] | _ => some []) ?_
     refine Ra 0 rfl (q_ldA rfl rfl Zf rfl Mm rfl) ?_
     refine ra_q (.an (i := 2) (js := [1, 3]) rfl Kr Kr Kr Kr) (.keep (.keep (.drop (bK.all _)))) (by intro g hg; simp at hg; simp [hg]) rfl rfl rfl (q_ldA rfl rfl Zf rfl Mm rfl) ?_
     refine ap 1 Kr ?_
     refine aV (jb y1 t1) (.an rfl rfl) (.inr (by simp [Lent.ids])) (ac rfl) rfl rfl rfl Kr rfl rfl Sm (.nil _) (.nil _) ?_
     intro x1
     refine ap 3 Kr ?_
     refine cY (.an rfl rfl) (.inr (by simp)) (ac rfl) rfl rfl rfl rfl rfl rfl rfl rfl rfl Ub rfl ?_
     refine ap 4 Kr ?_
     refine cY (.an rfl rfl) (.inr (by simp)) (ac rfl) rfl rfl rfl rfl rfl rfl rfl rfl rfl Ub rfl ?_
     refine Ra 5 rfl Qp ?_
     refine bn Kr ?_
     (repeat refine ao ?_)
     refine cw_le (ay EPlace 83 x1.1 x1.2 (fK t1) Uo) ?_
     refine ai ?_; simp only [cI, hc1, hc2, hc3, Cf]; exact Re x1.1 (Va (Va (Vt Vn)))
    ·refine Tx ?_
     (repeat refine ao ?_); refine au (fun j => match j with | 10 => some [g3] | 11 => some [g4] | _ => some []) ?_
     refine Ra 0 rfl (q_ldA rfl rfl Zf rfl Mm rfl) ?_
     refine Rb 1 rfl Qp ?_
     refine Rb 2 rfl Q1 ?_
     refine Rb 3 rfl Qp ?_
     refine Rb 4 rfl Q1 ?_
     refine Rb 5 rfl Qp ?_
     refine Rb 6 rfl Q1 ?_
     refine Ra 7 rfl Qp ?_
     refine ra_q (.an (i := 9) (js := [8, 10]) rfl Kr Kr Kr Kr) (.keep (.keep (.drop (bK.all _)))) (by intro g hg; simp at hg; simp [hg]) rfl rfl rfl (q_ldA rfl rfl Zf rfl Mm rfl) ?_
     refine ap 8 Kr ?_
     refine cJ (fA y1 t1 (⟨o1.node, o1.parent, o1.name⟩ : Place) (pi t1 (by first | assumption | simpa using hc1))) (.an rfl rfl) (ac rfl) rfl rfl rfl Kr rfl rfl Sm ?_
     intro x2
     refine Pr EPlace x2 (cq t1 (⟨o1.node, o1.parent, o1.name⟩ : Place)) 24 fun hlen2 => ?_
     refine ap 10 Kr ?_
     refine cY (.an rfl rfl) (.inr (by simp)) (ac rfl) rfl rfl rfl rfl rfl rfl rfl rfl rfl Ub rfl ?_
     refine ap 11 Kr ?_
     refine cY (.an rfl rfl) (.inr (by simp)) (ac rfl) rfl rfl rfl rfl rfl rfl rfl rfl rfl Ub rfl ?_
     refine Ra 12 rfl Qp ?_
     refine bn Kr ?_
     (repeat refine ao ?_)
     refine ai ?_; simp only [cI, hc1, hc2, hc3, Cf]; exact Re x2 (Va (Va (Vt Vn)))
def cn (t1 : List Place) (s1 : Step) : (List Place) × Int :=
 (bif ((bx t1) != 0) then (([] : List Place), (bx t1)) else (bif ((ck s1.o) != 0) then (([] : List Place), (ck s1.o)) else (bif (!s1.did) then ((fK t1), 0) else (bif (s1.was.node == 0) then (bif ((s1.o.node != s1.o.node) || (!(decide ((ca t1 s1.o.node) = (⟨s1.o.node, s1.o.parent, s1.o.name⟩ : Place))))) then (([] : List Place), 4) else (bif ((bx (cq t1 (⟨s1.o.node, (-1), 0⟩ : Place))) != 0) then (([] : List Place), (bx (cq t1 (⟨s1.o.node, (-1), 0⟩ : Place)))) else ((cq t1 (⟨s1.o.node, (-1), 0⟩ : Place)), 0))) else (bif ((s1.was.node != s1.o.node) || (!(decide ((ca t1 s1.o.node) = (⟨s1.o.node, s1.o.parent, s1.o.name⟩ : Place))))) then (([] : List Place), 4) else (bif ((bx (cq t1 s1.was)) != 0) then (([] : List Place), (bx (cq t1 s1.was))) else ((cq t1 s1.was), 0)))))))
theorem lp (y1 : SlV) (t1 : List Place) (s1 : Step) : Does Tryz.prog 127 [.agg ⟨[y1.val t1.length]⟩, .agg ⟨[.int .i64 s1.o.time, .int .i64 s1.o.who, .int .i64 s1.o.node, .int .i64 s1.o.parent, .int .i64 s1.o.name, .int .i64 s1.o.life, .int .i64 s1.o.seq, .bool s1.did, .int .i64 s1.was.node, .int .i64 s1.was.parent, .int .i64 s1.was.name]⟩] [RdL EPlace y1 t1] (fun (X : SlV) => .tuple #[.agg ⟨[X.val (cn t1 s1).1.length]⟩, .int .i64 (cn t1 s1).2]) (fun X => [RdL EPlace X (cn t1 s1).1]) := by
 refine bj aZ Tryz.func127 rfl Tryz.ntmps127 Tryz.results127 rfl inferInstance (fun _ => inferInstance) fun C => ?_
 refine Pc EPlace y1 t1 24 fun hlen1 => ?_
 refine Tx ?_
 refine Bx fun g1 => ?_
 refine Bx fun g2 => ?_
 refine Al fun g3 => ?_
 refine Tx ?_
 refine Cl (ec y1 t1) fun _ => ?_
 refine Tx ?_
 refine Cd (b := ((bx t1) != 0)) (fun hc1 => ?_) fun hc1 => ?_
 ·have hc1p := bne_iff_ne.1 hc1
  refine Tx ?_
  refine Fc EPlace ?_
  refine ai ?_; simp only [cn, hc1, Cf]; exact Re (⟨none, 0⟩ : SlV) (Va (Vt Vn))
 ·have hc1p := ae hc1
  refine Tx ?_
  refine Cl (ef s1.o) fun _ => ?_
  refine Tx ?_
  refine Cd (b := ((ck s1.o) != 0)) (fun hc2 => ?_) fun hc2 => ?_
  ·have hc2p := bne_iff_ne.1 hc2
   refine Tx ?_
   refine Fc EPlace ?_
   refine ai ?_; simp only [cn, hc1, hc2, Cf]; exact Re (⟨none, 0⟩ : SlV) (Va (Vt Vn))
  ·have hc2p := ae hc2
   refine Tx ?_
   refine Cd (b := (!s1.did)) (fun hc3 => ?_) fun hc3 => ?_
   ·refine Tx ?_
    refine Cg (jb y1 t1) fun x1 => ?_
    refine Tx ?_
    refine cw_le (ay EPlace 83 x1.1 x1.2 (fK t1) Uo) ?_
    refine ai ?_; simp only [cn, hc1, hc2, hc3, Cf]; exact Re x1.1 (Va (Vt Vn))
   ·refine Tx ?_
    refine Al fun g4 => ?_
    refine Tx ?_
    refine Cd (b := (s1.was.node == 0)) (fun hc4 => ?_) fun hc4 => ?_
    ·have hc4p := eq_of_beq hc4
     refine Tx ?_
     refine Al fun g5 => ?_
     refine Tx ?_
     (repeat refine ao ?_); refine au (fun _ => some []) ?_
     refine Rb 0 rfl Qp ?_
     refine Rb 1 rfl Q1 ?_
     refine Rb 2 rfl Qp ?_
     refine Rb 3 rfl Qp ?_
     refine Rb 4 rfl Q1 ?_
     refine Rb 5 rfl Qp ?_
     refine Ra 6 rfl Qp ?_
     refine Gb 7 rfl (aB rfl rfl rfl) (q_ldA rfl rfl Bt rfl Mm rfl) ?_
     refine Gb 8 rfl (aB rfl rfl rfl) (q_pev rfl Bt) ?_
     refine Gb 9 rfl (aB rfl rfl rfl) (q_pev rfl Bt) ?_
     refine Gb 10 rfl (aB rfl rfl rfl) (q_ld1 rfl rfl Bt rfl Mm rfl) ?_
     refine Gb 12 rfl (aB rfl rfl rfl) (q_ldA rfl rfl Bt rfl Mm rfl) ?_
     refine ap 11 Kr ?_
     refine dv (fun hG_ => eJ y1 t1 s1.o.node) Zf (.an rfl rfl) (aB rfl rfl rfl) rfl rfl rfl Kr rfl Bt Sm ?_
     refine Ga 13 rfl (aB rfl rfl rfl) (q_neE mb (iX (ca t1 s1.o.node) (⟨s1.o.node, s1.o.parent, s1.o.name⟩ : Place)) rfl rfl Bt rfl Bt rfl rfl) ?_
     refine Ra 14 rfl (q_pev rfl Bt) ?_
     refine bn Kr ?_
     (repeat refine ao ?_)
     refine Cd (b := ((s1.o.node != s1.o.node) || (!(decide ((ca t1 s1.o.node) = (⟨s1.o.node, s1.o.parent, s1.o.name⟩ : Place)))))) (fun hc5 => ?_) fun hc5 => ?_
     ·refine Tx ?_
      refine Fc EPlace ?_
      refine ai ?_; simp only [cn, hc1, hc2, hc3, hc4, hc5, Cf]; exact Re (⟨none, 0⟩ : SlV) (Va (Vt Vn))
     ·refine Tx ?_
      refine Cl (fA y1 t1 (⟨s1.o.node, (-1), 0⟩ : Place) (pi t1 (by first | assumption | simpa using hc1))) fun x2 => ?_
      refine Pr EPlace x2 (cq t1 (⟨s1.o.node, (-1), 0⟩ : Place)) 24 fun hlen2 => ?_
      refine Tx ?_
      refine Cl (ec x2 (cq t1 (⟨s1.o.node, (-1), 0⟩ : Place))) fun _ => ?_
      refine Tx ?_
      refine Cd (b := ((bx (cq t1 (⟨s1.o.node, (-1), 0⟩ : Place))) != 0)) (fun hc6 => ?_) fun hc6 => ?_
      ·have hc6p := bne_iff_ne.1 hc6
       refine Tx ?_
       refine Fc EPlace ?_
       refine ai ?_; simp only [cn, hc1, hc2, hc3, hc4, hc5, hc6, Cf]; exact Re (⟨none, 0⟩ : SlV) (Va (Vt Vn))
      ·have hc6p := ae hc6
       refine Tx ?_
       refine ai ?_; simp only [cn, hc1, hc2, hc3, hc4, hc5, hc6, Cf]; exact Re x2 (Va (Vt Vn))
    ·have hc4p := ne_of_beq_false hc4
     refine Tx ?_
     refine Al fun g6 => ?_
     refine Tx ?_
     (repeat refine ao ?_); refine au (fun _ => some []) ?_
     refine Rb 0 rfl Qp ?_
     refine Rb 1 rfl Q1 ?_
     refine Rb 2 rfl Qp ?_
     refine Rb 3 rfl Qp ?_
     refine Rb 4 rfl Q1 ?_
     refine Rb 5 rfl Qp ?_
     refine Ra 6 rfl Qp ?_
     refine Gb 7 rfl (aB rfl rfl rfl) (q_ldA rfl rfl Bt rfl Mm rfl) ?_
     refine Gb 8 rfl (aB rfl rfl rfl) (q_pev rfl Bt) ?_
     refine Gb 9 rfl (aB rfl rfl rfl) (q_pev rfl Bt) ?_
     refine Gb 10 rfl (aB rfl rfl rfl) (q_ld1 rfl rfl Bt rfl Mm rfl) ?_
     refine Gb 12 rfl (aB rfl rfl rfl) (q_ldA rfl rfl Bt rfl Mm rfl) ?_
     refine ap 11 Kr ?_
     refine dv (fun hG_ => eJ y1 t1 s1.o.node) Zf (.an rfl rfl) (aB rfl rfl rfl) rfl rfl rfl Kr rfl Bt Sm ?_
     refine Ga 13 rfl (aB rfl rfl rfl) (q_neE mb (iX (ca t1 s1.o.node) (⟨s1.o.node, s1.o.parent, s1.o.name⟩ : Place)) rfl rfl Bt rfl Bt rfl rfl) ?_
     refine Ra 14 rfl (q_pev rfl Bt) ?_
     refine bn Kr ?_
     (repeat refine ao ?_)
     refine Cd (b := ((s1.was.node != s1.o.node) || (!(decide ((ca t1 s1.o.node) = (⟨s1.o.node, s1.o.parent, s1.o.name⟩ : Place)))))) (fun hc7 => ?_) fun hc7 => ?_
     ·refine Tx ?_
      refine Fc EPlace ?_
      refine ai ?_; simp only [cn, hc1, hc2, hc3, hc4, hc7, Cf]; exact Re (⟨none, 0⟩ : SlV) (Va (Vt Vn))
     ·refine Tx ?_
      refine Cl (fA y1 t1 s1.was (pi t1 (by first | assumption | simpa using hc1))) fun x3 => ?_
      refine Pr EPlace x3 (cq t1 s1.was) 24 fun hlen3 => ?_
      refine Tx ?_
      refine Cl (ec x3 (cq t1 s1.was)) fun _ => ?_
      refine Tx ?_
      refine Cd (b := ((bx (cq t1 s1.was)) != 0)) (fun hc8 => ?_) fun hc8 => ?_
      ·have hc8p := bne_iff_ne.1 hc8
       refine Tx ?_
       refine Fc EPlace ?_
       refine ai ?_; simp only [cn, hc1, hc2, hc3, hc4, hc7, hc8, Cf]; exact Re (⟨none, 0⟩ : SlV) (Va (Vt Vn))
      ·have hc8p := ae hc8
       refine Tx ?_
       refine ai ?_; simp only [cn, hc1, hc2, hc3, hc4, hc7, hc8, Cf]; exact Re x3 (Va (Vt Vn))
def ci (f1 : Int → Bool) : List Int → Nat → Int
 | [], n1 => (-1)
 | pn1 :: rn1, n1 => (bif (f1 pn1) then (n1 : Int) else (ci f1 rn1 (n1 + 1)))
def cT (s1 : List Int) (f1 : Int → Bool) : Int :=
 (ci f1 s1 0)
theorem jc (y1 : SlV) (s1 : List Int) (f2 : Nat) (caps1 : List Value) (pre1 : List Pred) [StabL pre1] (f1 : Int → Bool) (hfb1 : tab.fnb f2 = true) (hfn1 : ∀ (a0_ : Int), Does Tryz.prog f2 ([.int .i64 a0_] ++ caps1) pre1 (fun (_ : Unit) => .bool (f1 a0_)) (fun _ => [])) : Does Tryz.prog 104 [y1.val s1.length, .func (.func f2) #[] ⟨caps1⟩] (RdL EInt y1 s1 :: pre1) (fun (_ : Unit) => .int .i64 (cT s1 f1)) (fun _ => []) := by
 refine bj aZ Tryz.func104 rfl Tryz.ntmps104 Tryz.results104 rfl inferInstance (fun _ => inferInstance) fun C => ?_
 refine dP (φ := s1.length * 8 ≤ 140737488355328) [RdL EInt y1 s1] Sf (fun M w h => (allF1 h).len) fun hlen1 => ?_
 refine Tx ?_
 (repeat refine ao ?_); refine Lp [0,1,4,7] [] (fun (n1 : Nat) => (⟨[(8, .v (.int .i64 (n1 : Int)))], [], [], [], (n1 ≤ s1.length) ∧ (ci f1 (s1.drop n1) n1) = (cT s1 f1), s1.length - n1⟩ : Ls)) 0 (Sc (Sc (Sc (Sc Sn)))) (.nil) ⟨Nat.zero_le _, (by simp only [cT, Cf] : (cT s1 f1) = (ci f1 s1 0)).symm⟩ Le5 ?_
 rintro n1 ⟨hkn1, hf1⟩
 simp only [List.cons_append, List.nil_append]
 refine Tx ?_
 refine Cd (b := decide ((n1 : Int) < (s1.length : Int))) (fun hc1 => ?_) fun hc1 => ?_
 ·have hlt0 : n1 < s1.length := Int.ofNat_lt.1 (of_decide_eq_true hc1)
  refine Tx ?_
  refine rw_q rfl rfl rfl (q_idx EInt n1 rfl rfl Zf rfl Zf rfl rfl rfl Mm rfl Zf (fun _ => by first | assumption | omega)) ?_
  refine rw_q rfl rfl rfl (q_le1 EInt rfl rfl Zf rfl rfl Mm (fun _ => by first | assumption | omega) rfl) ?_
  refine gg (hfn1 (gt s1 n1)) .sq (ac rfl) rfl rfl rfl rfl rfl (by assumption) rfl rfl rfl Sf ?_
  intro _
  refine dY ?_
  (repeat refine ao ?_)
  refine Cd (b := (f1 (gt s1 n1))) (fun hc2 => ?_) fun hc2 => ?_
  ·refine Tx ?_
   have hr1 : (cT s1 f1) = (n1 : Int) := by rw [← hf1, aE hlt0]; simp only [ci, hc2, Cf]
   refine ai ?_
   rw [hr1]
   exact ⟨(), _, (.cons (.tmp rfl) .nil), rfl, Sf, .nil _, .nil _⟩
  ·refine Tx ?_
   refine rw_q rfl rfl rfl (q_add rfl rfl Zf rfl Zf Zo) ?_
   refine Tx ?_
   refine ⟨(n1 + 1), ⟨hlt0, (by rw [← hf1, aE hlt0]; simp only [ci, hc2, Cf] : (cT s1 f1) = (ci f1 (s1.drop (n1 + 1)) (n1 + 1))).symm⟩, (by simp only []; omega), Le5⟩
 ·have hge0 : s1.length ≤ n1 := by have := of_decide_eq_false hc1; omega
  refine Tx ?_
  have hr2 : (cT s1 f1) = (-1) := by rw [← hf1, List.drop_of_length_le hge0]; simp only [ci, Cf]
  refine ai ?_
  rw [hr2]
  exact ⟨(), _, (.cons (.tmp rfl) .nil), rfl, Sf, .nil _, .nil _⟩
def ej (s1 : List Int) (f1 : Int → Bool) : Bool :=
 decide ((cT s1 f1) ≥ 0)
theorem ie (y1 : SlV) (s1 : List Int) (f2 : Nat) (caps1 : List Value) (pre1 : List Pred) [StabL pre1] (f1 : Int → Bool) (hfb1 : tab.fnb f2 = true) (hfn1 : ∀ (a0_ : Int), Does Tryz.prog f2 ([.int .i64 a0_] ++ caps1) pre1 (fun (_ : Unit) => .bool (f1 a0_)) (fun _ => [])) : Does Tryz.prog 80 [y1.val s1.length, .func (.func f2) #[] ⟨caps1⟩] (RdL EInt y1 s1 :: pre1) (fun (_ : Unit) => .bool (ej s1 f1)) (fun _ => []) := by
 refine bj aZ Tryz.func80 rfl Tryz.ntmps80 Tryz.results80 rfl inferInstance (fun _ => inferInstance) fun C => ?_
 refine dP (φ := s1.length * 8 ≤ 140737488355328) [RdL EInt y1 s1] Sf (fun M w h => (allF1 h).len) fun hlen1 => ?_
 refine Tx ?_
 refine cJ (jc y1 s1 _ _ _ f1 (by assumption) hfn1) .sq (ac rfl) rfl rfl rfl Kr rfl rfl Sf ?_
 intro _
 refine Tx ?_
 have hr1 : (ej s1 f1) = decide ((cT s1 f1) ≥ 0) := by simp only [ej, Cf]
 refine ai ?_
 rw [hr1]
 exact ⟨(), _, (.cons (.tmp rfl) .nil), rfl, Sf, .nil _, .nil _⟩
theorem iT (s : List Int) (f : Int → Bool) : ej s f = s.any f := by
 have key : ∀ (l : List Int) (k : Nat), decide (ci f l k ≥ 0) = l.any f := by
  intro l
  induction l with
  | nil => intro k; rfl
  | cons p r ih =>
   intro k
   rw [ci, List.any_cons]
   cases f p with
   | true => simp only [cond_true, Bool.true_or, decide_eq_true_eq]; omega
   | false => rw [cond_false, ih, Bool.false_or]
 exact key s 0
theorem fc (y1 : SlV) (s1 : List Int) (f1 : Nat) (caps1 : List Value) (pre1 : List Pred) [StabL pre1] (p1 : Int → Bool) (hfb1 : tab.fnb f1 = true) (hfn1 : ∀ (a0_ : Int), Does Tryz.prog f1 ([.int .i64 a0_] ++ caps1) pre1 (fun (_ : Unit) => .bool (p1 a0_)) (fun _ => [])) :
  Does Tryz.prog 80 [y1.val s1.length, .func (.func f1) #[] ⟨caps1⟩] (RdL EInt y1 s1 :: pre1) (fun (_ : Unit) => .bool (s1.any p1)) (fun (_ : Unit) => []) := by
 have := ie y1 s1 f1 caps1 pre1 p1 hfb1 hfn1
 rw [iT] at this
 exact this
def dE (l1 : List Int) : List Int → Nat → Int
 | [], n1 => 0
 | pn1 :: rn1, n1 => (bif (decide (pn1 < 0) || decide (pn1 > 16)) then 5 else (bif (decide ((n1 : Int) > 0) && decide ((gt l1 (n1 - 1)) ≥ pn1)) then 6 else (dE l1 rn1 (n1 + 1))))
def bL (l1 : List Int) : Int :=
 (bif decide ((l1.length : Int) > 4) then 2 else (dE l1 l1 0))
theorem gb (y1 : SlV) (l1 : List Int) : Does Tryz.prog 55 [y1.val l1.length] [RdL EInt y1 l1] (fun (_ : Unit) => .int .i64 (bL l1)) (fun _ => []) := by
 refine bj aZ Tryz.func55 rfl Tryz.ntmps55 Tryz.results55 rfl inferInstance (fun _ => inferInstance) fun C => ?_
 refine Pc EInt y1 l1 8 fun hlen1 => ?_
 refine Tx ?_
 refine Cd (b := decide ((l1.length : Int) > 4)) (fun hc1 => ?_) fun hc1 => ?_
 ·have hc1p := of_decide_eq_true hc1
  refine Tx ?_
  refine ai ?_; simp only [bL, hc1, Cf]; exact Re () (Vt Vn)
 ·have hc1p := of_decide_eq_false hc1
  refine Tx ?_
  (repeat refine ao ?_); refine Lp [0,2,8,9] [] (fun (n1 : Nat) => (⟨[(10, .v (.int .i64 (n1 : Int)))], [], [], [], (n1 ≤ l1.length) ∧ (dE l1 (l1.drop n1) n1) = (bL l1), l1.length - n1⟩ : Ls)) 0 (Sc (Sc (Sc (Sc Sn)))) (.nil) ⟨Nat.zero_le _, (by simp only [bL, hc1, Cf] : (bL l1) = (dE l1 l1 0)).symm⟩ Le4 ?_
  rintro n1 ⟨hkn1, hf1⟩
  simp only [List.cons_append, List.nil_append]
  refine Tx ?_
  refine Cd (b := decide ((n1 : Int) < (l1.length : Int))) (fun hc2 => ?_) fun hc2 => ?_
  ·have hlt0 : n1 < l1.length := Int.ofNat_lt.1 (of_decide_eq_true hc2)
   refine Tx ?_
   refine rw_q rfl rfl rfl (q_idx EInt n1 rfl rfl Zf rfl Zf rfl rfl rfl Mm rfl Zf (fun _ => by first | assumption | omega)) ?_
   refine rw_q rfl rfl rfl (q_le1 EInt rfl rfl Zf rfl rfl Mm (fun _ => by first | assumption | omega) rfl) ?_
   refine Tx ?_
   refine Cd (b := (decide ((gt l1 n1) < 0) || decide ((gt l1 n1) > 16))) (fun hc3 => ?_) fun hc3 => ?_
   ·refine Tx ?_
    refine ai ?_; rw [show (bL l1) = 5 by rw [← hf1, aE hlt0]; simp only [dE, hc3, Cf]]; exact Re () (Vt Vn)
   ·refine Tx ?_
    refine rw_qg (aG rfl rfl rfl) rfl rfl (q_sub rfl rfl Bt rfl Bt (by intro h; first | omega | (simp at h; omega))) ?_
    refine rw_qg (aG rfl rfl rfl) rfl rfl (q_idx EInt (n1 - 1) rfl rfl Bt rfl Bt rfl rfl rfl Mm rfl (by intro h; first | omega | rfl | (simp at h; omega)) (by first | (intro _; first | assumption | omega) | (intro h; simp at h; omega))) ?_
    refine rw_qg (aG rfl rfl rfl) rfl rfl (q_le1 EInt rfl rfl Bt rfl rfl Mm (by first | (intro _; first | assumption | omega) | (intro h; simp at h; omega)) rfl) ?_
    refine Tx ?_
    refine Cd (b := (decide ((n1 : Int) > 0) && decide ((gt l1 (n1 - 1)) ≥ (gt l1 n1)))) (fun hc4 => ?_) fun hc4 => ?_
    ·refine Tx ?_
     refine ai ?_; rw [show (bL l1) = 6 by rw [← hf1, aE hlt0]; simp only [dE, hc3, hc4, Cf]]; exact Re () (Vt Vn)
    ·refine Tx ?_
     refine rw_q rfl rfl rfl (q_add rfl rfl Zf rfl Zf Zo) ?_
     refine Tx ?_
     refine ⟨(n1 + 1), ⟨hlt0, (by rw [← hf1, aE hlt0]; simp only [dE, hc3, hc4, Cf] : (bL l1) = (dE l1 (l1.drop (n1 + 1)) (n1 + 1))).symm⟩, (by simp only []; omega), Le4⟩
  ·have hge0 : l1.length ≤ n1 := by have := of_decide_eq_false hc2; omega
   refine Tx ?_
   refine ai ?_; rw [show (bL l1) = 0 by rw [← hf1, List.drop_of_length_le hge0]; simp only [dE, Cf]]; exact Re () (Vt Vn)
def gC (r1 : Int) (t1 : List Place) (node1 : Int) : Bool :=
 (du t1 node1 r1)
theorem ml (r1 : Int) (c1 : Nat) (y1 : SlV) (t1 : List Place) (c2 : Nat) (node1 : Int) : Does Tryz.prog 81 [.int .i64 r1, .pointer (some ⟨c1, 0, none⟩), .pointer (some ⟨c2, 0, none⟩)] [VarP c1 [y1.val t1.length], RdL EPlace y1 t1, VarP c2 [.int .i64 node1]] (fun (_ : Unit) => .bool (gC r1 t1 node1)) (fun _ => []) := by
 refine bj aZ Tryz.func81 rfl Tryz.ntmps81 Tryz.results81 rfl inferInstance (fun _ => inferInstance) fun C => ?_
 refine Tx ?_
 refine Cl (fS y1 t1 node1 r1) fun _ => ?_
 refine Tx ?_
 refine ai ?_; simp only [gC, Cf]; exact Re () (Vt Vn)
def gD (r1 : Int) (node1 : Int) (t1 : List Place) : Bool :=
 ((r1 != node1) && (du t1 r1 node1))
theorem mm (r1 : Int) (c1 : Nat) (node1 : Int) (c2 : Nat) (y1 : SlV) (t1 : List Place) : Does Tryz.prog 82 [.int .i64 r1, .pointer (some ⟨c1, 0, none⟩), .pointer (some ⟨c2, 0, none⟩)] [VarP c1 [.int .i64 node1], VarP c2 [y1.val t1.length], RdL EPlace y1 t1] (fun (_ : Unit) => .bool (gD r1 node1 t1)) (fun _ => []) := by
 refine bj aZ Tryz.func82 rfl Tryz.ntmps82 Tryz.results82 rfl inferInstance (fun _ => inferInstance) fun C => ?_
 refine Tx ?_
 refine rw_qg (aG rfl rfl rfl) rfl rfl (q_lfA rfl rfl Bt rfl Mm rfl) ?_
 refine Tx ?_
 refine rw_qg (aG rfl rfl rfl) rfl rfl (q_lf1 rfl rfl Bt rfl Mm rfl) ?_
 refine dv (fun hG_ => fS y1 t1 r1 node1) Zf .sq (aG rfl rfl rfl) rfl rfl rfl Kr rfl Bt Sm ?_
 refine Tx ?_
 refine ai ?_; simp only [gD, Cf]; exact Re () (Vt Vn)
def dj (t1 : List Place) (node1 : Int) (roots1 : List Int) : Bool :=
 (roots1.any (fun a0_ => gC a0_ t1 node1))
theorem nv (y1 : SlV) (t1 : List Place) (node1 : Int) (y2 : SlV) (roots1 : List Int) : Does Tryz.prog 57 [.agg ⟨[y1.val t1.length]⟩, .int .i64 node1, y2.val roots1.length] [RdL EPlace y1 t1, RdL EInt y2 roots1] (fun (_ : Unit) => .bool (dj t1 node1 roots1)) (fun _ => []) := by
 refine bj aZ Tryz.func57 rfl Tryz.ntmps57 Tryz.results57 rfl inferInstance (fun _ => inferInstance) fun C => ?_
 refine Pc EPlace y1 t1 24 fun hlen1 => ?_
 refine Pc EInt y2 roots1 8 fun hlen2 => ?_
 refine Tx ?_
 refine Bx fun g1 => ?_
 refine s3 (cs := [_]) .sq (ac rfl) rfl rfl rfl rfl rfl rfl fun g2 => ?_
 refine Tx ?_
 refine rw_le (nR (g := g1) Pk) ?_
 refine rw_le (nR (g := g2) Pk) ?_
 refine Cl (fc y2 roots1 _ _ _ (fun a0_ => gC a0_ t1 node1) Kr (fun a0_ => ml a0_ g1 y1 t1 g2 node1)) fun _ => ?_
 refine Tx ?_
 refine ai ?_; simp only [dj, Cf]; exact Re () (Vt Vn)
def dI (t1 : List Place) (node1 : Int) (roots1 : List Int) : Bool :=
 (roots1.any (fun a0_ => gD a0_ node1 t1))
theorem nw (y1 : SlV) (t1 : List Place) (node1 : Int) (y2 : SlV) (roots1 : List Int) : Does Tryz.prog 58 [.agg ⟨[y1.val t1.length]⟩, .int .i64 node1, y2.val roots1.length] [RdL EPlace y1 t1, RdL EInt y2 roots1] (fun (_ : Unit) => .bool (dI t1 node1 roots1)) (fun _ => []) := by
 refine bj aZ Tryz.func58 rfl Tryz.ntmps58 Tryz.results58 rfl inferInstance (fun _ => inferInstance) fun C => ?_
 refine Pc EPlace y1 t1 24 fun hlen1 => ?_
 refine Pc EInt y2 roots1 8 fun hlen2 => ?_
 refine Tx ?_
 refine Bx fun g1 => ?_
 refine s3 (cs := [_]) .sq (ac rfl) rfl rfl rfl rfl rfl rfl fun g2 => ?_
 refine Tx ?_
 refine rw_le (nR (g := g2) Pk) ?_
 refine rw_le (nR (g := g1) Pk) ?_
 refine Cl (fc y2 roots1 _ _ _ (fun a0_ => gD a0_ node1 t1) Kr (fun a0_ => mm a0_ g2 node1 g1 y1 t1)) fun _ => ?_
 refine Tx ?_
 refine ai ?_; simp only [dI, Cf]; exact Re () (Vt Vn)
def dQ (t1 : List Place) (roots1 : List Int) : List Place → (List Place) → (List Place) → (View × Int)
 | [], known1, way1 => ((⟨roots1, known1, way1⟩ : View), 0)
 | pn1 :: rn1, known1, way1 => (bif (dj t1 pn1.node roots1) then (dQ t1 roots1 rn1 (known1 ++ [pn1]) way1) else (bif (dI t1 pn1.node roots1) then (dQ t1 roots1 rn1 known1 (way1 ++ [pn1])) else (dQ t1 roots1 rn1 known1 way1)))
def bW (t1 : List Place) (roots1 : List Int) : View × Int :=
 (bif ((bx t1) != 0) then ((⟨[], [], []⟩ : View), (bx t1)) else (bif ((bL roots1) != 0) then ((⟨[], [], []⟩ : View), (bL roots1)) else (dQ t1 roots1 t1 [] [])))
theorem gE (y1 : SlV) (t1 : List Place) (y2 : SlV) (roots1 : List Int) : Does Tryz.prog 37 [.agg ⟨[y1.val t1.length]⟩, y2.val roots1.length] [RdL EPlace y1 t1, RdL EInt y2 roots1] (fun (X : SlV × SlV × SlV) => .tuple #[.agg ⟨[X.1.val (bW t1 roots1).1.roots.length, X.2.1.val (bW t1 roots1).1.known.length, X.2.2.val (bW t1 roots1).1.way.length]⟩, .int .i64 (bW t1 roots1).2]) (fun X => [RdL EInt X.1 (bW t1 roots1).1.roots, RdL EPlace X.2.1 (bW t1 roots1).1.known, RdL EPlace X.2.2 (bW t1 roots1).1.way]) := by
 refine bj aZ Tryz.func37 rfl Tryz.ntmps37 Tryz.results37 rfl inferInstance (fun _ => inferInstance) fun C => ?_
 refine Pc EPlace y1 t1 24 fun hlen1 => ?_
 refine Pc EInt y2 roots1 8 fun hlen2 => ?_
 refine Tx ?_
 refine Bx fun g1 => ?_
 refine Al fun g2 => ?_
 refine Tx ?_
 refine Cl (ec y1 t1) fun _ => ?_
 refine Tx ?_
 refine Cd (b := ((bx t1) != 0)) (fun hc1 => ?_) fun hc1 => ?_
 ·have hc1p := bne_iff_ne.1 hc1
  refine Tx ?_
  refine Fc EInt ?_
  refine Fc EPlace ?_
  refine ai ?_; simp only [bW, hc1, Cf]; exact Re ⟨(⟨none, 0⟩ : SlV), (⟨none, 0⟩ : SlV), (⟨none, 0⟩ : SlV)⟩ (Va (Vt Vn))
 ·have hc1p := ae hc1
  refine Tx ?_
  refine Cl (gb y2 roots1) fun _ => ?_
  refine Tx ?_
  refine Cd (b := ((bL roots1) != 0)) (fun hc2 => ?_) fun hc2 => ?_
  ·have hc2p := bne_iff_ne.1 hc2
   refine Tx ?_
   refine Fc EInt ?_
   refine Fc EPlace ?_
   refine ai ?_; simp only [bW, hc1, hc2, Cf]; exact Re ⟨(⟨none, 0⟩ : SlV), (⟨none, 0⟩ : SlV), (⟨none, 0⟩ : SlV)⟩ (Va (Vt Vn))
  ·have hc2p := ae hc2
   refine Tx ?_
   refine Cg (cP y2 roots1) fun x1 => ?_
   refine Rp rfl rfl rfl rfl ?_
   refine Al fun g3 => ?_
   refine Tx ?_
   (repeat refine ao ?_); refine Lp [1,2,4,5,8,27,28] [false, true, true] (fun (i_ : Nat × List Place × SlV × Option Nat × List Place × SlV × Option Nat) => match i_ with | ⟨n1, known1, x2, x2b, way1, x3, x3b⟩ => (⟨[(29, .v (.int .i64 (n1 : Int)))], [⟨g3, 59, [x1.1.val roots1.length, x2.val known1.length, x3.val way1.length]⟩], [ownL EInt 3 x1.1 x1.2 roots1, ownL EPlace 83 x2 x2b known1, ownL EPlace 83 x3 x3b way1], [], (n1 ≤ t1.length) ∧ (known1.length ≤ n1) ∧ (way1.length ≤ n1) ∧ (dQ t1 roots1 (t1.drop n1) known1 way1) = (bW t1 roots1), t1.length - n1⟩ : Ls)) ⟨0, [], ⟨none, 0⟩, none, [], ⟨none, 0⟩, none⟩ (Sc (Sc (Sc (Sc (Sc (Sc (Sc Sn))))))) (.drop (.keep (.keep (.nil)))) ⟨Nat.zero_le _, (by first | exact Nat.le_refl _ | exact Nat.zero_le _ | omega), (by first | exact Nat.le_refl _ | exact Nat.zero_le _ | omega), (by simp only [bW, hc1, hc2, Cf] : (bW t1 roots1) = (dQ t1 roots1 t1 [] [])).symm⟩ (Le.trans (eO EPlace 83) (Le.trans (eO EPlace 83) Le4)) ?_
   rintro ⟨n1, known1, x2, x2b, way1, x3, x3b⟩ ⟨hkn1, hknown1, hway1, hf1⟩
   simp only [List.cons_append, List.nil_append]
   refine Tx ?_
   refine Cd (b := decide ((n1 : Int) < (t1.length : Int))) (fun hc3 => ?_) fun hc3 => ?_
   ·have hlt0 : n1 < t1.length := Int.ofNat_lt.1 (of_decide_eq_true hc3)
    refine Tx ?_
    refine rw_q rfl rfl rfl (q_idx EPlace n1 rfl rfl Zf rfl Zf rfl rfl rfl Mm rfl Zf (fun _ => by first | assumption | omega)) ?_
    refine rw_q rfl rfl rfl (q_leA EPlace rfl rfl Zf rfl rfl Mm (fun _ => by first | assumption | omega)) ?_
    refine Al fun g4 => ?_
    refine Tx ?_
    refine Cl (nv y1 t1 (gt t1 n1).node y2 roots1) fun _ => ?_
    refine dY ?_
    (repeat refine ao ?_)
    refine Cd (b := (dj t1 (gt t1 n1).node roots1)) (fun hc4 => ?_) fun hc4 => ?_
    ·refine Tx ?_
     refine bB EPlace [(gt t1 n1)] .sq (ac rfl) rfl rfl rfl rfl rfl rfl rfl rfl rfl rfl rfl rfl rfl rfl rfl fun x4 x4b => ?_
     refine b5 EPlace known1 [(gt t1 n1)] (b := x2b) .sq (fun _ _ => .inl ⟨_, rfl⟩) (ac rfl) rfl rfl rfl rfl rfl rfl rfl (fun _ _ => Uo) rfl rfl rfl rfl rfl rfl rfl (c6 (e := 83) (b := x4b) Mm) (by show (known1.length + 1) * 24 ≤ 140737488355328; (try simp only [List.length_append, List.length_cons, List.length_nil]); omega) fun x5 x5b => ?_
     refine Tx ?_
     refine rw_q rfl rfl rfl (q_add rfl rfl Zf rfl Zf Zo) ?_
     refine Tx ?_
     refine ⟨⟨(n1 + 1), (known1 ++ [(gt t1 n1)]), x5, x5b, way1, x3, x3b⟩, ⟨hlt0, Zl, Zl, (by rw [← hf1, aE hlt0]; simp only [dQ, hc4, Cf] : (bW t1 roots1) = (dQ t1 roots1 (t1.drop (n1 + 1)) (known1 ++ [(gt t1 n1)]) way1)).symm⟩, (by simp only []; omega), Le4⟩
    ·refine Tx ?_
     refine Cl (nw y1 t1 (gt t1 n1).node y2 roots1) fun _ => ?_
     refine dY ?_
     (repeat refine ao ?_)
     refine Cd (b := (dI t1 (gt t1 n1).node roots1)) (fun hc5 => ?_) fun hc5 => ?_
     ·refine Tx ?_
      refine bB EPlace [(gt t1 n1)] .sq (ac rfl) rfl rfl rfl rfl rfl rfl rfl rfl rfl rfl rfl rfl rfl rfl rfl fun x6 x6b => ?_
      refine b5 EPlace way1 [(gt t1 n1)] (b := x3b) .sq (fun _ _ => .inl ⟨_, rfl⟩) (ac rfl) rfl rfl rfl rfl rfl rfl rfl (fun _ _ => Uo) rfl rfl rfl rfl rfl rfl rfl (c6 (e := 83) (b := x6b) Mm) (by show (way1.length + 1) * 24 ≤ 140737488355328; (try simp only [List.length_append, List.length_cons, List.length_nil]); omega) fun x7 x7b => ?_
      refine Tx ?_
      refine rw_q rfl rfl rfl (q_add rfl rfl Zf rfl Zf Zo) ?_
      refine Tx ?_
      refine ⟨⟨(n1 + 1), known1, x2, x2b, (way1 ++ [(gt t1 n1)]), x7, x7b⟩, ⟨hlt0, Zl, Zl, (by rw [← hf1, aE hlt0]; simp only [dQ, hc4, hc5, Cf] : (bW t1 roots1) = (dQ t1 roots1 (t1.drop (n1 + 1)) known1 (way1 ++ [(gt t1 n1)]))).symm⟩, (by simp only []; omega), Le4⟩
     ·refine Tx ?_
      refine rw_q rfl rfl rfl (q_add rfl rfl Zf rfl Zf Zo) ?_
      refine Tx ?_
      refine ⟨⟨(n1 + 1), known1, x2, x2b, way1, x3, x3b⟩, ⟨hlt0, Zl, Zl, (by rw [← hf1, aE hlt0]; simp only [dQ, hc4, hc5, Cf] : (bW t1 roots1) = (dQ t1 roots1 (t1.drop (n1 + 1)) known1 way1)).symm⟩, (by simp only []; omega), Le4⟩
   ·have hge0 : t1.length ≤ n1 := by have := of_decide_eq_false hc3; omega
    refine Tx ?_
    refine cw_le (ay EInt 3 x1.1 x1.2 roots1 Uo) ?_
    refine cw_le (ay EPlace 83 x2 x2b known1 Uo) ?_
    refine cw_le (ay EPlace 83 x3 x3b way1 Uo) ?_
    refine ai ?_; rw [show (bW t1 roots1) = ((⟨roots1, known1, way1⟩ : View), 0) by rw [← hf1, List.drop_of_length_le hge0]; simp only [dQ, Cf]]; exact Re ⟨x1.1, x2, x3⟩ (Va (Vt Vn))
def eD (a1 : View) (b1 : View) : Bool :=
 (((decide (a1.roots = b1.roots)) && (decide (a1.known = b1.known))) && (decide (a1.way = b1.way)))
theorem ja (y1 : SlV) (y2 : SlV) (y3 : SlV) (a1 : View) (y4 : SlV) (y5 : SlV) (y6 : SlV) (b1 : View) : Does Tryz.prog 16 [.agg ⟨[y1.val a1.roots.length, y2.val a1.known.length, y3.val a1.way.length]⟩, .agg ⟨[y4.val b1.roots.length, y5.val b1.known.length, y6.val b1.way.length]⟩] [RdL EInt y1 a1.roots, RdL EPlace y2 a1.known, RdL EPlace y3 a1.way, RdL EInt y4 b1.roots, RdL EPlace y5 b1.known, RdL EPlace y6 b1.way] (fun (_ : Unit) => .bool (eD a1 b1)) (fun _ => []) := by
 refine bj aZ Tryz.func16 rfl Tryz.ntmps16 Tryz.results16 rfl inferInstance (fun _ => inferInstance) fun C => ?_
 refine Pc EInt y1 a1.roots 8 fun hlen1 => ?_
 refine Pc EPlace y2 a1.known 24 fun hlen2 => ?_
 refine Pc EPlace y3 a1.way 24 fun hlen3 => ?_
 refine Pc EInt y4 b1.roots 8 fun hlen4 => ?_
 refine Pc EPlace y5 b1.known 24 fun hlen5 => ?_
 refine Pc EPlace y6 b1.way 24 fun hlen6 => ?_
 refine Tx ?_
 refine Bx fun g1 => ?_
 refine Bx fun g2 => ?_
 refine Tx ?_
 refine Cl ((fun y1 a y2 b => dA y1 y2 a b) y1 a1.roots y4 b1.roots) fun _ => ?_
 refine Tx ?_
 refine dv (fun hG_ => (fun y1 a y2 b => dJ y1 y2 a b) y2 a1.known y5 b1.known) Zf .sq (aG rfl rfl rfl) rfl rfl rfl Kr rfl Bt Sm ?_
 refine Tx ?_
 refine dv (fun hG_ => (fun y1 a y2 b => dJ y1 y2 a b) y3 a1.way y6 b1.way) Zf .sq (aG rfl rfl rfl) rfl rfl rfl Kr rfl Bt Sm ?_
 refine Tx ?_
 refine ai ?_; simp only [eD, Cf]; exact Re () (Vt Vn)
theorem iC (p : Place) : ∀ (l : List Place) (d : Bool) (acc : List Place), (cA p l d acc).length ≤ acc.length + l.length + (bif d then 0 else 1)
 | [], d, acc => by rw [cA]; cases d <;> simp
 | q :: r, d, acc => by
  rw [cA]
  cases h1 : (!d && decide (q.node ≥ p.node)) with
  | true =>
   have hd : d = false := by cases d; rfl; simp at h1
   subst hd
   cases (q.node != p.node) with
   | true => simp only [cond_true]; have := iC p r true ((acc ++ [p]) ++ [q]); simp at this ⊢; omega
   | false => simp only [cond_true, cond_false]; have := iC p r true (acc ++ [p]); simp at this ⊢; omega
  | false =>
   cases (q.node != p.node) with
   | true => simp only [cond_true, cond_false]; have := iC p r d (acc ++ [q]); simp at this ⊢; omega
   | false => simp only [cond_false]; have := iC p r d acc; simp at this ⊢; omega
theorem pq (l : List Place) (p : Place) : (cq l p).length ≤ l.length + 1 := by
 have := iC p l (decide (p.parent < 0)) []
 unfold cq
 generalize decide (p.parent < 0) = d at *
 cases d <;> simp at this ⊢ <;> omega
def eY  : List Place → (List Place) → (List Place)
 | [], p1 => p1
 | pn1 :: rn1, p1 => (eY rn1 (cq p1 pn1))
def cd (v1 : View) : List Place :=
 (eY v1.way v1.known)
theorem lN (y1 : SlV) (y2 : SlV) (y3 : SlV) (v1 : View) (hk1 : v1.known.length ≤ 1000) (hw1 : v1.way.length ≤ 1000) : Does Tryz.prog 97 [.agg ⟨[y1.val v1.roots.length, y2.val v1.known.length, y3.val v1.way.length]⟩] [RdL EInt y1 v1.roots, RdL EPlace y2 v1.known, RdL EPlace y3 v1.way] (fun (X : SlV) => .agg ⟨[X.val (cd v1).length]⟩) (fun X => [RdL EPlace X (cd v1)]) := by
 refine bj aZ Tryz.func97 rfl Tryz.ntmps97 Tryz.results97 rfl inferInstance (fun _ => inferInstance) fun C => ?_
 refine Pc EInt y1 v1.roots 8 fun hlen1 => ?_
 refine Pc EPlace y2 v1.known 24 fun hlen2 => ?_
 refine Pc EPlace y3 v1.way 24 fun hlen3 => ?_
 refine Tx ?_
 refine Bx fun g1 => ?_
 refine Al fun g2 => ?_
 refine Tx ?_
 refine Cg (c8 y2 v1.known) fun x1 => ?_
 refine Rp rfl rfl rfl rfl ?_
 refine Al fun g3 => ?_
 refine Tx ?_
 (repeat refine ao ?_); refine Lp [2,3,11,12] [false, true, true] (fun (i_ : Nat × List Place × SlV) => match i_ with | ⟨n1, p1, x2⟩ => (⟨[(13, .v (.int .i64 (n1 : Int)))], [⟨g3, 27, [x2.val p1.length]⟩], [], [RdL EPlace x2 p1], (n1 ≤ v1.way.length) ∧ (p1.length ≤ v1.known.length + n1) ∧ (eY (v1.way.drop n1) p1) = (cd v1), v1.way.length - n1⟩ : Ls)) ⟨0, v1.known, x1.1⟩ (Sc (Sc (Sc (Sc Sn)))) (.drop (.keep (.keep (.nil)))) ⟨Nat.zero_le _, (by simp), (by simp only [cd, Cf] : (cd v1) = (eY v1.way v1.known)).symm⟩ (Le.trans (ay EPlace 83 x1.1 x1.2 v1.known Uo) Le4) ?_
 rintro ⟨n1, p1, x2⟩ ⟨hkn1, hpb, hf1⟩
 simp only [List.cons_append, List.nil_append]
 refine Tx ?_
 refine Cd (b := decide ((n1 : Int) < (v1.way.length : Int))) (fun hc1 => ?_) fun hc1 => ?_
 ·have hlt0 : n1 < v1.way.length := Int.ofNat_lt.1 (of_decide_eq_true hc1)
  refine Tx ?_
  refine rw_q rfl rfl rfl (q_idx EPlace n1 rfl rfl Zf rfl Zf rfl rfl rfl Mm rfl Zf (fun _ => by first | assumption | omega)) ?_
  refine rw_q rfl rfl rfl (q_leA EPlace rfl rfl Zf rfl rfl Mm (fun _ => by first | assumption | omega)) ?_
  refine Al fun g4 => ?_
  refine Tx ?_
  refine Cl (fA x2 p1 (gt v1.way n1) (by omega)) fun x3 => ?_
  refine Pr EPlace x3 (cq p1 (gt v1.way n1)) 24 fun hlen4 => ?_
  refine Tx ?_
  refine rw_q rfl rfl rfl (q_add rfl rfl Zf rfl Zf Zo) ?_
  refine Tx ?_
  refine ⟨⟨(n1 + 1), (cq p1 (gt v1.way n1)), x3⟩, ⟨hlt0, (by have := pq p1 (gt v1.way n1); simp only []; omega), (by rw [← hf1, aE hlt0]; simp only [eY, Cf] : (cd v1) = (eY (v1.way.drop (n1 + 1)) (cq p1 (gt v1.way n1)))).symm⟩, (by simp only []; omega), Le4⟩
 ·have hge0 : v1.way.length ≤ n1 := by have := of_decide_eq_false hc1; omega
  refine Tx ?_
  refine ai ?_; rw [show (cd v1) = p1 by rw [← hf1, List.drop_of_length_le hge0]; simp only [eY, Cf]]; exact Re x2 (Va Vn)
def er (v1 : View) : Int :=
 (bif (((bW (cd v1) v1.roots).2 == 0) && (!(eD (bW (cd v1) v1.roots).1 v1))) then 4 else (bW (cd v1) v1.roots).2)
def es (v1 : View) : Int :=
 (bif ((bx v1.way) != 0) then (bx v1.way) else (er v1))
def et (v1 : View) : Int :=
 (bif ((bx v1.known) != 0) then (bx v1.known) else (es v1))
def bv (v1 : View) : Int :=
 (bif ((bL v1.roots) != 0) then (bL v1.roots) else (et v1))
theorem eN (y1 : SlV) (y2 : SlV) (y3 : SlV) (v1 : View) : Does Tryz.prog 71 [.agg ⟨[y1.val v1.roots.length, y2.val v1.known.length, y3.val v1.way.length]⟩] [RdL EInt y1 v1.roots, RdL EPlace y2 v1.known, RdL EPlace y3 v1.way] (fun (_ : Unit) => .int .i64 (bv v1)) (fun _ => []) := by
 refine bj aZ Tryz.func71 rfl Tryz.ntmps71 Tryz.results71 rfl inferInstance (fun _ => inferInstance) fun C => ?_
 refine Pc EInt y1 v1.roots 8 fun hlen1 => ?_
 refine Pc EPlace y2 v1.known 24 fun hlen2 => ?_
 refine Pc EPlace y3 v1.way 24 fun hlen3 => ?_
 refine Tx ?_
 refine Bx fun g1 => ?_
 refine Tx ?_
 refine Cl (gb y1 v1.roots) fun _ => ?_
 refine Tx ?_
 refine Cd (b := ((bL v1.roots) != 0)) (fun hc1 => ?_) fun hc1 => ?_
 ·have hc1p := bne_iff_ne.1 hc1
  refine Tx ?_
  refine ai ?_; simp only [bv, hc1, Cf]; exact Re () (Vt Vn)
 ·have hc1p := ae hc1
  refine Tx ?_
  refine rw_q rfl rfl rfl (kZ rfl rfl Zf rfl rfl rfl rfl) ?_
  refine Tx ?_
  (repeat refine ao ?_); refine Lp [1,2,19] [true] (fun (n1 : Nat) => (⟨[(20, .v (.int .i64 (n1 : Int)))], [], [], [], (n1 ≤ 2) ∧ (1 ≤ n1 → bx v1.known = 0) ∧ (2 ≤ n1 → bx v1.way = 0) ∧ (match n1 with | 0 => (et v1) | 1 => (es v1) | _ => (er v1)) = (bv v1), 2 - n1⟩ : Ls)) 0 (Sc (Sc (Sc Sn))) (.keep (.nil)) ⟨Nat.zero_le _, (fun h => absurd h (by omega)), (fun h => absurd h (by omega)), (by simp only [bv, hc1, Cf] : (bv v1) = (et v1)).symm⟩ Le4 ?_
  rintro n1 ⟨hkn1, hi1, hi2, hf1⟩
  simp only [List.cons_append, List.nil_append]
  have hkn13 : n1 = 0 ∨ n1 = 1 ∨ n1 = 2 := by omega
  rcases hkn13 with rfl | rfl | rfl
  ·have hf1 : (et v1) = (bv v1) := hf1
   refine Tx ?_
   refine Cd (b := decide ((0 : Int) < 2)) (fun hc2 => ?_) fun hc2 => ?_
   ·refine Tx ?_
    refine rw_q rfl rfl rfl (q_ixL 0 rfl rfl Zf rfl Zf rfl rfl rfl rfl rfl) ?_
    refine Tx ?_
    refine Cl (ec y2 v1.known) fun _ => ?_
    refine Tx ?_
    refine Cd (b := ((bx v1.known) != 0)) (fun hc3 => ?_) fun hc3 => ?_
    ·have hc3p := bne_iff_ne.1 hc3
     refine Tx ?_
     refine ai ?_; rw [show (bv v1) = (bx v1.known) by rw [← hf1]; simp only [et, hc3, Cf]]; exact Re () (Vt Vn)
    ·have hc3p := ae hc3
     have hck := ae hc3
     refine Tx ?_
     refine rw_q rfl rfl rfl (q_add rfl rfl Zf rfl Zf (fun _ => by decide)) ?_
     refine Tx ?_
     refine ⟨1, ⟨by omega, (fun _ => by first | exact hck | exact hi1 (by omega) | omega), (fun _ => by first | exact hck | omega), (by rw [← hf1]; simp only [et, hc3, Cf] : (bv v1) = (es v1)).symm⟩, (show 2 - 1 < 2 - 0 by decide), Le4⟩
   ·exact Bool.noConfusion (hc2.symm.trans (decide_eq_true (by decide)))
  ·have hf1 : (es v1) = (bv v1) := hf1
   refine Tx ?_
   refine Cd (b := decide ((1 : Int) < 2)) (fun hc4 => ?_) fun hc4 => ?_
   ·refine Tx ?_
    refine rw_q rfl rfl rfl (q_ixL 1 rfl rfl Zf rfl Zf rfl rfl rfl rfl rfl) ?_
    refine Tx ?_
    refine Cl (ec y3 v1.way) fun _ => ?_
    refine Tx ?_
    refine Cd (b := ((bx v1.way) != 0)) (fun hc5 => ?_) fun hc5 => ?_
    ·have hc5p := bne_iff_ne.1 hc5
     refine Tx ?_
     refine ai ?_; rw [show (bv v1) = (bx v1.way) by rw [← hf1]; simp only [es, hc5, Cf]]; exact Re () (Vt Vn)
    ·have hc5p := ae hc5
     have hck := ae hc5
     refine Tx ?_
     refine rw_q rfl rfl rfl (q_add rfl rfl Zf rfl Zf (fun _ => by decide)) ?_
     refine Tx ?_
     refine ⟨2, ⟨by omega, (fun _ => by first | exact hck | exact hi1 (by omega) | omega), (fun _ => by first | exact hck | omega), (by rw [← hf1]; simp only [es, hc5, Cf] : (bv v1) = (er v1)).symm⟩, (show 2 - 2 < 2 - 1 by decide), Le4⟩
   ·exact Bool.noConfusion (hc4.symm.trans (decide_eq_true (by decide)))
  ·have hf1 : (er v1) = (bv v1) := hf1
   refine Tx ?_
   refine Cd (b := decide ((2 : Int) < 2)) (fun hc6 => ?_) fun hc6 => ?_
   ·exact Bool.noConfusion (hc6.symm.trans (decide_eq_false (by decide)))
   ·refine Tx ?_
    refine gp [1, 2] [true] (fun (i_ : Nat × SlV × SlV × SlV) => match i_ with | ⟨g2, x1, x2, x3⟩ => [(7, .v (.pointer (some ⟨g2, 0, none⟩))), (8, .v (.int .i64 (bW (cd v1) v1.roots).2))]) (fun (i_ : Nat × SlV × SlV × SlV) => match i_ with | ⟨g2, x1, x2, x3⟩ => [⟨g2, 59, [x1.val (bW (cd v1) v1.roots).1.roots.length, x2.val (bW (cd v1) v1.roots).1.known.length, x3.val (bW (cd v1) v1.roots).1.way.length]⟩]) (fun (i_ : Nat × SlV × SlV × SlV) => match i_ with | ⟨g2, x1, x2, x3⟩ => []) (fun (i_ : Nat × SlV × SlV × SlV) => match i_ with | ⟨g2, x1, x2, x3⟩ => [RdL EInt x1 (bW (cd v1) v1.roots).1.roots, RdL EPlace x2 (bW (cd v1) v1.roots).1.known, RdL EPlace x3 (bW (cd v1) v1.roots).1.way]) (fun _ => True) (.cons rfl (.cons rfl (.nil _))) (.keep (.nil)) ?_ ?_
    ·refine au (fun j => match j with | 9 => none | _ => some []) ?_
     refine Rb 0 rfl (q_ldA rfl rfl Zf rfl Mm rfl) ?_
     refine Rb 2 rfl Qp ?_
     refine Rb 3 rfl Q1 ?_
     refine fu 1 8 Kr ?_ ?_
     ·refine cJ (lN y1 y2 y3 v1 (Nat.le_trans (kO (hi1 (by omega))) (by omega)) (Nat.le_trans (kO (hi2 (by omega))) (by omega))) (.an rfl rfl) (ac rfl) rfl rfl rfl Kr rfl rfl Sm ?_
      intro x4
      refine Pr EPlace x4 (cd v1) 24 fun hlen4 => ?_
      refine fu 4 8 Kr ?_ ?_
      ·refine cJ (gE x4 (cd v1) y1 v1.roots) (.an rfl rfl) (ac rfl) rfl rfl rfl Kr rfl rfl Sm ?_
       intro x5
       refine Pr EInt x5.1 (bW (cd v1) v1.roots).1.roots 8 fun hlen5 => ?_
       refine Pr EPlace x5.2.1 (bW (cd v1) v1.roots).1.known 24 fun hlen6 => ?_
       refine Pr EPlace x5.2.2 (bW (cd v1) v1.roots).1.way 24 fun hlen7 => ?_
       refine Ra 5 rfl Qp ?_
       refine Ra 6 rfl Qp ?_
       refine ra_p (.an (i := 7) (js := [8, 9]) rfl Kr Kr Kr Kr) rfl rfl rfl (q_pev rfl Zf) ?_
       refine ap 8 Kr ?_
       refine di (.an rfl rfl) (ac rfl) rfl rfl rfl rfl fun g3 => ?_
       refine ap 9 Kr ?_
       refine cY (.lo [g3] rfl rfl) (.inr (by simp)) (ac rfl) rfl rfl rfl rfl rfl rfl rfl rfl rfl Ub rfl ?_
       refine Ra 10 rfl Qp ?_
       refine bn Kr ?_
       refine ⟨⟨g3, x5.1, x5.2.1, x5.2.2⟩, trivial, Le4⟩
      ·refine di (.an rfl rfl) (ac rfl) rfl rfl rfl rfl fun g4 => ?_
       refine ap 4 Kr ?_
       refine cJ (gE x4 (cd v1) y1 v1.roots) (.an rfl rfl) (ac rfl) rfl rfl rfl Kr rfl rfl Sm ?_
       intro x6
       refine Pr EInt x6.1 (bW (cd v1) v1.roots).1.roots 8 fun hlen8 => ?_
       refine Pr EPlace x6.2.1 (bW (cd v1) v1.roots).1.known 24 fun hlen9 => ?_
       refine Pr EPlace x6.2.2 (bW (cd v1) v1.roots).1.way 24 fun hlen10 => ?_
       refine Ra 5 rfl Qp ?_
       refine Ra 6 rfl Qp ?_
       refine ra_p (.an (i := 7) (js := [9]) rfl Kr Kr Kr Kr) rfl rfl rfl (q_pev rfl Zf) ?_
       refine ap 9 Kr ?_
       refine cY (.lo [g4] rfl rfl) (.inr (by simp)) (ac rfl) rfl rfl rfl rfl rfl rfl rfl rfl rfl Ub rfl ?_
       refine Ra 10 rfl Qp ?_
       refine bn Kr ?_
       refine ⟨⟨g4, x6.1, x6.2.1, x6.2.2⟩, trivial, Le4⟩
     ·refine di (.an rfl rfl) (ac rfl) rfl rfl rfl rfl fun g5 => ?_
      refine ap 1 Kr ?_
      refine cJ (lN y1 y2 y3 v1 (Nat.le_trans (kO (hi1 (by omega))) (by omega)) (Nat.le_trans (kO (hi2 (by omega))) (by omega))) (.an rfl rfl) (ac rfl) rfl rfl rfl Kr rfl rfl Sm ?_
      intro x7
      refine Pr EPlace x7 (cd v1) 24 fun hlen11 => ?_
      refine ap 4 Kr ?_
      refine cJ (gE x7 (cd v1) y1 v1.roots) (.an rfl rfl) (ac rfl) rfl rfl rfl Kr rfl rfl Sm ?_
      intro x8
      refine Pr EInt x8.1 (bW (cd v1) v1.roots).1.roots 8 fun hlen12 => ?_
      refine Pr EPlace x8.2.1 (bW (cd v1) v1.roots).1.known 24 fun hlen13 => ?_
      refine Pr EPlace x8.2.2 (bW (cd v1) v1.roots).1.way 24 fun hlen14 => ?_
      refine Ra 5 rfl Qp ?_
      refine Ra 6 rfl Qp ?_
      refine ra_p (.an (i := 7) (js := [9]) rfl Kr Kr Kr Kr) rfl rfl rfl (q_pev rfl Zf) ?_
      refine ap 9 Kr ?_
      refine cY (.lo [g5] rfl rfl) (.inr (by simp)) (ac rfl) rfl rfl rfl rfl rfl rfl rfl rfl rfl Ub rfl ?_
      refine Ra 10 rfl Qp ?_
      refine bn Kr ?_
      refine ⟨⟨g5, x8.1, x8.2.1, x8.2.2⟩, trivial, Le4⟩
    ·rintro ⟨g2, x1, x2, x3⟩ -
     simp only [List.cons_append, List.nil_append]
     refine Tx ?_
     refine dv (fun hG_ => ja x1 x2 x3 (bW (cd v1) v1.roots).1 y1 y2 y3 v1) Zf .sq (aG rfl rfl rfl) rfl rfl rfl Kr rfl Bt Sm ?_
     refine Tx ?_
     refine Cd (b := (((bW (cd v1) v1.roots).2 == 0) && (!(eD (bW (cd v1) v1.roots).1 v1)))) (fun hc7 => ?_) fun hc7 => ?_
     ·refine Tx ?_
      refine ai ?_; rw [show (bv v1) = 4 by rw [← hf1]; simp only [er, hc7, Cf]]; exact Re () (Vt Vn)
     ·refine Tx ?_
      refine ai ?_; rw [show (bv v1) = (bW (cd v1) v1.roots).2 by rw [← hf1]; simp only [er, hc7, Cf]]; exact Re () (Vt Vn)
def cB (v1 : Int) : List Int → Nat → Int
 | [], n1 => (-1)
 | pn1 :: rn1, n1 => (bif (v1 == pn1) then (n1 : Int) else (cB v1 rn1 (n1 + 1)))
def dR (s1 : List Int) (v1 : Int) : Int :=
 (cB v1 s1 0)
theorem kB (y1 : SlV) (s1 : List Int) (v1 : Int) : Does Tryz.prog 134 [y1.val s1.length, .int .i64 v1] [RdL EInt y1 s1] (fun (_ : Unit) => .int .i64 (dR s1 v1)) (fun _ => []) := by
 refine bj aZ Tryz.func134 rfl Tryz.ntmps134 Tryz.results134 rfl inferInstance (fun _ => inferInstance) fun C => ?_
 refine Pc EInt y1 s1 8 fun hlen1 => ?_
 refine Tx ?_
 (repeat refine ao ?_); refine Lp [0,1,4,7] [] (fun (n1 : Nat) => (⟨[(8, .v (.int .i64 (n1 : Int)))], [], [], [], (n1 ≤ s1.length) ∧ (cB v1 (s1.drop n1) n1) = (dR s1 v1), s1.length - n1⟩ : Ls)) 0 (Sc (Sc (Sc (Sc Sn)))) (.nil) ⟨Nat.zero_le _, (by simp only [dR, Cf] : (dR s1 v1) = (cB v1 s1 0)).symm⟩ Le4 ?_
 rintro n1 ⟨hkn1, hf1⟩
 simp only [List.cons_append, List.nil_append]
 refine Tx ?_
 refine Cd (b := decide ((n1 : Int) < (s1.length : Int))) (fun hc1 => ?_) fun hc1 => ?_
 ·have hlt0 : n1 < s1.length := Int.ofNat_lt.1 (of_decide_eq_true hc1)
  refine Tx ?_
  refine rw_q rfl rfl rfl (q_idx EInt n1 rfl rfl Zf rfl Zf rfl rfl rfl Mm rfl Zf (fun _ => by first | assumption | omega)) ?_
  refine rw_q rfl rfl rfl (q_le1 EInt rfl rfl Zf rfl rfl Mm (fun _ => by first | assumption | omega) rfl) ?_
  refine Tx ?_
  refine Cd (b := (v1 == (gt s1 n1))) (fun hc2 => ?_) fun hc2 => ?_
  ·have hc2p := eq_of_beq hc2
   refine Tx ?_
   refine ai ?_; rw [show (dR s1 v1) = (n1 : Int) by rw [← hf1, aE hlt0]; simp only [cB, hc2, Cf]]; exact Re () (Vt Vn)
  ·have hc2p := ne_of_beq_false hc2
   refine Tx ?_
   refine rw_q rfl rfl rfl (q_add rfl rfl Zf rfl Zf Zo) ?_
   refine Tx ?_
   refine ⟨(n1 + 1), ⟨hlt0, (by rw [← hf1, aE hlt0]; simp only [cB, hc2, Cf] : (dR s1 v1) = (cB v1 (s1.drop (n1 + 1)) (n1 + 1))).symm⟩, (by simp only []; omega), Le4⟩
 ·have hge0 : s1.length ≤ n1 := by have := of_decide_eq_false hc1; omega
  refine Tx ?_
  refine ai ?_; rw [show (dR s1 v1) = (-1) by rw [← hf1, List.drop_of_length_le hge0]; simp only [cB, Cf]]; exact Re () (Vt Vn)
def fV (s1 : List Int) (v1 : Int) : Bool :=
 decide ((dR s1 v1) ≥ 0)
theorem jo (y1 : SlV) (s1 : List Int) (v1 : Int) : Does Tryz.prog 118 [y1.val s1.length, .int .i64 v1] [RdL EInt y1 s1] (fun (_ : Unit) => .bool (fV s1 v1)) (fun _ => []) := by
 refine bj aZ Tryz.func118 rfl Tryz.ntmps118 Tryz.results118 rfl inferInstance (fun _ => inferInstance) fun C => ?_
 refine Pc EInt y1 s1 8 fun hlen1 => ?_
 refine Tx ?_
 refine Cl (kB y1 s1 v1) fun _ => ?_
 refine Tx ?_
 refine ai ?_; simp only [fV, Cf]; exact Re () (Vt Vn)
theorem kr (s : List Int) (v : Int) : fV s v = decide (v ∈ s) := by
 have key : ∀ (l : List Int) (k : Nat), decide (cB v l k ≥ 0) = decide (v ∈ l) := by
  intro l
  induction l with
  | nil => intro k; simp [cB]
  | cons p r ih =>
   intro k
   rw [cB]
   by_cases h : v = p
   ·first | (simp [h]; done) | (simp [h]; omega)
   ·have : (v == p) = false := by simpa using h
    rw [this, cond_false, ih]; simp [h]
 exact key s 0
theorem fM (y1 : SlV) (s1 : List Int) (v1 : Int) : Does Tryz.prog 118 [y1.val s1.length, .int .i64 v1] [RdL EInt y1 s1] (fun (_ : Unit) => .bool (decide (v1 ∈ s1))) (fun _ => []) := by
 have := jo y1 s1 v1
 rw [kr] at this
 exact this
def ff  : Int :=
 0
def dc (d1 : Delta) : List Place → Nat → Int
 | [], n5 => (ff)
 | pn5 :: rn5, n5 => (bif (((((decide (pn5.node < 1) || decide (pn5.node ≥ 16)) || decide (pn5.parent < 0)) || decide (pn5.parent > 16)) || decide (pn5.name < 0)) || decide (pn5.name > 99)) then 3 else (bif ((decide ((n5 : Int) > 0) && decide ((gt d1.wayHere (n5 - 1)).node ≥ pn5.node)) || (decide (pn5.node ∈ d1.wayGone))) then 6 else (dc d1 rn5 (n5 + 1))))
def dp (d1 : Delta) : List Int → Nat → Int
 | [], n4 => (dc d1 d1.wayHere 0)
 | pn4 :: rn4, n4 => (bif (decide (pn4 < 1) || decide (pn4 ≥ 16)) then 5 else (bif (decide ((n4 : Int) > 0) && decide ((gt d1.wayGone (n4 - 1)) ≥ pn4)) then 6 else (dp d1 rn4 (n4 + 1))))
def dH (d1 : Delta) : Int :=
 (bif (decide ((d1.wayGone.length : Int) > 16) || decide ((d1.wayHere.length : Int) > 16)) then 2 else (dp d1 d1.wayGone 0))
def de (d1 : Delta) : List Place → Nat → Int
 | [], n3 => (dH d1)
 | pn3 :: rn3, n3 => (bif (((((decide (pn3.node < 1) || decide (pn3.node ≥ 16)) || decide (pn3.parent < 0)) || decide (pn3.parent > 16)) || decide (pn3.name < 0)) || decide (pn3.name > 99)) then 3 else (bif ((decide ((n3 : Int) > 0) && decide ((gt d1.here (n3 - 1)).node ≥ pn3.node)) || (decide (pn3.node ∈ d1.gone))) then 6 else (de d1 rn3 (n3 + 1))))
def dq (d1 : Delta) : List Int → Nat → Int
 | [], n2 => (de d1 d1.here 0)
 | pn2 :: rn2, n2 => (bif (decide (pn2 < 1) || decide (pn2 ≥ 16)) then 5 else (bif (decide ((n2 : Int) > 0) && decide ((gt d1.gone (n2 - 1)) ≥ pn2)) then 6 else (dq d1 rn2 (n2 + 1))))
def eh (d1 : Delta) : Int :=
 (bif (decide ((d1.gone.length : Int) > 16) || decide ((d1.here.length : Int) > 16)) then 2 else (dq d1 d1.gone 0))
def bg (d1 : Delta) : Int :=
 (eh d1)
theorem gX (y1 : SlV) (y2 : SlV) (y3 : SlV) (y4 : SlV) (d1 : Delta) : Does Tryz.prog 96 [.agg ⟨[y1.val d1.gone.length, y2.val d1.here.length, y3.val d1.wayGone.length, y4.val d1.wayHere.length]⟩] [RdL EInt y1 d1.gone, RdL EPlace y2 d1.here, RdL EInt y3 d1.wayGone, RdL EPlace y4 d1.wayHere] (fun (_ : Unit) => .int .i64 (bg d1)) (fun _ => []) := by
 refine bj aZ Tryz.func96 rfl Tryz.ntmps96 Tryz.results96 rfl inferInstance (fun _ => inferInstance) fun C => ?_
 refine Pc EInt y1 d1.gone 8 fun hlen1 => ?_
 refine Pc EPlace y2 d1.here 24 fun hlen2 => ?_
 refine Pc EInt y3 d1.wayGone 8 fun hlen3 => ?_
 refine Pc EPlace y4 d1.wayHere 24 fun hlen4 => ?_
 refine Tx ?_
 refine Bx fun g1 => ?_
 refine Tx ?_
 refine rw_q rfl rfl rfl (kZ rfl rfl Zf rfl rfl rfl rfl) ?_
 refine Tx ?_
 (repeat refine ao ?_); refine Lp [1,2,14] [true] (fun (n1 : Nat) => (⟨[(15, .v (.int .i64 (n1 : Int)))], [], [], [], (n1 ≤ 2) ∧ (match n1 with | 0 => (eh d1) | 1 => (dH d1) | _ => ff) = (bg d1), 2 - n1⟩ : Ls)) 0 (Sc (Sc (Sc Sn))) (.keep (.nil)) ⟨Nat.zero_le _, (by simp only [bg, Cf] : (bg d1) = (eh d1)).symm⟩ Le4 ?_
 rintro n1 ⟨hkn1, hf1⟩
 simp only [List.cons_append, List.nil_append]
 have hkn13 : n1 = 0 ∨ n1 = 1 ∨ n1 = 2 := by omega
 rcases hkn13 with rfl | rfl | rfl
 ·have hf1 : (eh d1) = (bg d1) := hf1
  refine Tx ?_
  refine Cd (b := decide ((0 : Int) < 2)) (fun hc1 => ?_) fun hc1 => ?_
  ·refine Tx ?_
   refine rw_q rfl rfl rfl (q_ixL 0 rfl rfl Zf rfl Zf rfl rfl rfl rfl rfl) ?_
   refine Tx ?_
   refine rw_q rfl rfl rfl (kZ rfl rfl Zf rfl rfl rfl rfl) ?_
   refine Rp rfl rfl rfl rfl ?_
   refine rw_q rfl rfl rfl (q_ixL 0 rfl rfl Zf rfl Zf rfl rfl rfl rfl rfl) ?_
   refine Tx ?_
   refine Cd (b := (decide ((d1.gone.length : Int) > 16) || decide ((d1.here.length : Int) > 16))) (fun hc2 => ?_) fun hc2 => ?_
   ·refine Tx ?_
    refine ai ?_; rw [show (bg d1) = 2 by rw [← hf1]; simp only [eh, hc2, Cf]]; exact Re () (Vt Vn)
   ·refine Tx ?_
    (repeat refine ao ?_); refine Lp [1,2,3,4,5,14,15,16,17,18,19,20,21,22,23,24,25,26,27,28,29,33,34,35] [true] (fun (n2 : Nat) => (⟨[(36, .v (.int .i64 (n2 : Int)))], [], [], [], (n2 ≤ d1.gone.length) ∧ (dq d1 (d1.gone.drop n2) n2) = (bg d1), d1.gone.length - n2⟩ : Ls)) 0 (Sc (Sc (Sc (Sc (Sc (Sc (Sc (Sc (Sc (Sc (Sc (Sc (Sc (Sc (Sc (Sc (Sc (Sc (Sc (Sc (Sc (Sc (Sc (Sc Sn)))))))))))))))))))))))) (.keep (.nil)) ⟨Nat.zero_le _, (by rw [← hf1]; simp only [eh, hc2, Cf] : (bg d1) = (dq d1 d1.gone 0)).symm⟩ Le4 ?_
    rintro n2 ⟨hkn2, hf2⟩
    simp only [List.cons_append, List.nil_append]
    refine Tx ?_
    refine Cd (b := decide ((n2 : Int) < (d1.gone.length : Int))) (fun hc3 => ?_) fun hc3 => ?_
    ·have hlt1 : n2 < d1.gone.length := Int.ofNat_lt.1 (of_decide_eq_true hc3)
     refine Tx ?_
     refine rw_q rfl rfl rfl (q_idx EInt n2 rfl rfl Zf rfl Zf rfl rfl rfl Mm rfl Zf (fun _ => by first | assumption | omega)) ?_
     refine rw_q rfl rfl rfl (q_le1 EInt rfl rfl Zf rfl rfl Mm (fun _ => by first | assumption | omega) rfl) ?_
     refine Tx ?_
     refine Cd (b := (decide ((gt d1.gone n2) < 1) || decide ((gt d1.gone n2) ≥ 16))) (fun hc4 => ?_) fun hc4 => ?_
     ·refine Tx ?_
      refine ai ?_; rw [show (bg d1) = 5 by rw [← hf2, aE hlt1]; simp only [dq, hc4, Cf]]; exact Re () (Vt Vn)
     ·refine Tx ?_
      refine rw_qg (aG rfl rfl rfl) rfl rfl (q_sub rfl rfl Bt rfl Bt (by intro h; first | omega | (simp at h; omega))) ?_
      refine rw_qg (aG rfl rfl rfl) rfl rfl (q_idx EInt (n2 - 1) rfl rfl Bt rfl Bt rfl rfl rfl Mm rfl (by intro h; first | omega | rfl | (simp at h; omega)) (by first | (intro _; first | assumption | omega) | (intro h; simp at h; omega))) ?_
      refine rw_qg (aG rfl rfl rfl) rfl rfl (q_le1 EInt rfl rfl Bt rfl rfl Mm (by first | (intro _; first | assumption | omega) | (intro h; simp at h; omega)) rfl) ?_
      refine Tx ?_
      refine Cd (b := (decide ((n2 : Int) > 0) && decide ((gt d1.gone (n2 - 1)) ≥ (gt d1.gone n2)))) (fun hc5 => ?_) fun hc5 => ?_
      ·refine Tx ?_
       refine ai ?_; rw [show (bg d1) = 6 by rw [← hf2, aE hlt1]; simp only [dq, hc4, hc5, Cf]]; exact Re () (Vt Vn)
      ·refine Tx ?_
       refine rw_q rfl rfl rfl (q_add rfl rfl Zf rfl Zf Zo) ?_
       refine Tx ?_
       refine ⟨(n2 + 1), ⟨hlt1, (by rw [← hf2, aE hlt1]; simp only [dq, hc4, hc5, Cf] : (bg d1) = (dq d1 (d1.gone.drop (n2 + 1)) (n2 + 1))).symm⟩, (by simp only []; omega), Le4⟩
    ·have hge1 : d1.gone.length ≤ n2 := by have := of_decide_eq_false hc3; omega
     refine Tx ?_
     (repeat refine ao ?_); refine Lp [1,2,3,4,5,14,15,16,17,18,19,20,21,22,23,24,25,26,27,28,29,33,34,35,36,37,59,60] [true] (fun (n3 : Nat) => (⟨[(61, .v (.int .i64 (n3 : Int)))], [], [], [], (n3 ≤ d1.here.length) ∧ (de d1 (d1.here.drop n3) n3) = (bg d1), d1.here.length - n3⟩ : Ls)) 0 (Sc (Sc (Sc (Sc (Sc (Sc (Sc (Sc (Sc (Sc (Sc (Sc (Sc (Sc (Sc (Sc (Sc (Sc (Sc (Sc (Sc (Sc (Sc (Sc (Sc (Sc (Sc (Sc Sn)))))))))))))))))))))))))))) (.keep (.nil)) ⟨Nat.zero_le _, (by rw [← hf2, List.drop_of_length_le hge1]; simp only [dq, Cf] : (bg d1) = (de d1 d1.here 0)).symm⟩ Le4 ?_
     rintro n3 ⟨hkn3, hf3⟩
     simp only [List.cons_append, List.nil_append]
     refine Tx ?_
     refine Cd (b := decide ((n3 : Int) < (d1.here.length : Int))) (fun hc6 => ?_) fun hc6 => ?_
     ·have hlt2 : n3 < d1.here.length := Int.ofNat_lt.1 (of_decide_eq_true hc6)
      refine Tx ?_
      refine rw_q rfl rfl rfl (q_idx EPlace n3 rfl rfl Zf rfl Zf rfl rfl rfl Mm rfl Zf (fun _ => by first | assumption | omega)) ?_
      refine rw_q rfl rfl rfl (q_leA EPlace rfl rfl Zf rfl rfl Mm (fun _ => by first | assumption | omega)) ?_
      refine Al fun g2 => ?_
      refine Tx ?_
      refine Cd (b := (((((decide ((gt d1.here n3).node < 1) || decide ((gt d1.here n3).node ≥ 16)) || decide ((gt d1.here n3).parent < 0)) || decide ((gt d1.here n3).parent > 16)) || decide ((gt d1.here n3).name < 0)) || decide ((gt d1.here n3).name > 99))) (fun hc7 => ?_) fun hc7 => ?_
      ·refine Tx ?_
       refine ai ?_; rw [show (bg d1) = 3 by rw [← hf3, aE hlt2]; simp only [de, hc7, Cf]]; exact Re () (Vt Vn)
      ·refine Tx ?_
       (repeat refine ao ?_); refine au (fun _ => some []) ?_
       refine Rb 0 rfl Qp ?_
       refine Rb 1 rfl Qp ?_
       refine Rb 2 rfl Qp ?_
       refine Gb 3 rfl (aG rfl rfl rfl) (q_pev rfl Bt) ?_
       refine Gb 4 rfl (aG rfl rfl rfl) (q_pev rfl Bt) ?_
       refine Gb 5 rfl (aG rfl rfl rfl) (q_sub rfl rfl Bt rfl Bt (by intro h; first | omega | (simp at h; omega))) ?_
       refine Gb 6 rfl (aG rfl rfl rfl) (q_idx EPlace (n3 - 1) rfl rfl Bt rfl Bt rfl rfl rfl Mm rfl (by intro h; first | omega | rfl | (simp at h; omega)) (by first | (intro _; first | assumption | omega) | (intro h; simp at h; omega))) ?_
       refine Gb 7 rfl (aG rfl rfl rfl) (q_fae rfl rfl Bt rfl rfl) ?_
       refine Gb 8 rfl (aG rfl rfl rfl) (q_le1 EPlace rfl rfl Bt rfl rfl Mm (by first | (intro _; first | assumption | omega) | (intro h; simp at h; omega)) rfl) ?_
       refine Gb 9 rfl (aG rfl rfl rfl) (q_pev rfl Bt) ?_
       refine Gb 10 rfl (aG rfl rfl rfl) (q_ld1 rfl rfl Bt rfl Mm rfl) ?_
       refine Gb 11 rfl (aG rfl rfl rfl) (q_pev rfl Bt) ?_
       refine Rb 12 rfl (q_pev rfl Bt) ?_
       refine Ra 13 rfl Qp ?_
       refine Gb 14 rfl (aB rfl rfl rfl) (q_pev rfl Bt) ?_
       refine Gb 15 rfl (aB rfl rfl rfl) (q_pev rfl Bt) ?_
       refine Gb 16 rfl (aB rfl rfl rfl) (q_ld1 rfl rfl Bt rfl Mm rfl) ?_
       refine ap 17 Kr ?_
       refine dv (fun hG_ => fM y1 d1.gone (gt d1.here n3).node) Zf (.an rfl rfl) (aB rfl rfl rfl) rfl rfl rfl Kr rfl Bt Sm ?_
       refine Ra 18 rfl (q_pev rfl Bt) ?_
       refine bn Kr ?_
       (repeat refine ao ?_)
       refine Cd (b := ((decide ((n3 : Int) > 0) && decide ((gt d1.here (n3 - 1)).node ≥ (gt d1.here n3).node)) || (decide ((gt d1.here n3).node ∈ d1.gone)))) (fun hc8 => ?_) fun hc8 => ?_
       ·refine Tx ?_
        refine ai ?_; rw [show (bg d1) = 6 by rw [← hf3, aE hlt2]; simp only [de, hc7, hc8, Cf]]; exact Re () (Vt Vn)
       ·refine Tx ?_
        refine rw_q rfl rfl rfl (q_add rfl rfl Zf rfl Zf Zo) ?_
        refine Tx ?_
        refine ⟨(n3 + 1), ⟨hlt2, (by rw [← hf3, aE hlt2]; simp only [de, hc7, hc8, Cf] : (bg d1) = (de d1 (d1.here.drop (n3 + 1)) (n3 + 1))).symm⟩, (by simp only []; omega), Le4⟩
     ·have hge2 : d1.here.length ≤ n3 := by have := of_decide_eq_false hc6; omega
      refine Tx ?_
      refine rw_q rfl rfl rfl (q_add rfl rfl Zf rfl Zf (fun _ => by decide)) ?_
      refine Tx ?_
      refine ⟨1, ⟨by omega, (by rw [← hf3, List.drop_of_length_le hge2]; simp only [de, Cf] : (bg d1) = (dH d1)).symm⟩, (show 2 - 1 < 2 - 0 by decide), Le4⟩
  ·exact Bool.noConfusion (hc1.symm.trans (decide_eq_true (by decide)))
 ·have hf1 : (dH d1) = (bg d1) := hf1
  refine Tx ?_
  refine Cd (b := decide ((1 : Int) < 2)) (fun hc9 => ?_) fun hc9 => ?_
  ·refine Tx ?_
   refine rw_q rfl rfl rfl (q_ixL 1 rfl rfl Zf rfl Zf rfl rfl rfl rfl rfl) ?_
   refine Tx ?_
   refine rw_q rfl rfl rfl (kZ rfl rfl Zf rfl rfl rfl rfl) ?_
   refine Rp rfl rfl rfl rfl ?_
   refine rw_q rfl rfl rfl (q_ixL 1 rfl rfl Zf rfl Zf rfl rfl rfl rfl rfl) ?_
   refine Tx ?_
   refine Cd (b := (decide ((d1.wayGone.length : Int) > 16) || decide ((d1.wayHere.length : Int) > 16))) (fun hc10 => ?_) fun hc10 => ?_
   ·refine Tx ?_
    refine ai ?_; rw [show (bg d1) = 2 by rw [← hf1]; simp only [dH, hc10, Cf]]; exact Re () (Vt Vn)
   ·refine Tx ?_
    (repeat refine ao ?_); refine Lp [1,2,3,4,5,14,15,16,17,18,19,20,21,22,23,24,25,26,27,28,29,33,34,35] [true] (fun (n4 : Nat) => (⟨[(36, .v (.int .i64 (n4 : Int)))], [], [], [], (n4 ≤ d1.wayGone.length) ∧ (dp d1 (d1.wayGone.drop n4) n4) = (bg d1), d1.wayGone.length - n4⟩ : Ls)) 0 (Sc (Sc (Sc (Sc (Sc (Sc (Sc (Sc (Sc (Sc (Sc (Sc (Sc (Sc (Sc (Sc (Sc (Sc (Sc (Sc (Sc (Sc (Sc (Sc Sn)))))))))))))))))))))))) (.keep (.nil)) ⟨Nat.zero_le _, (by rw [← hf1]; simp only [dH, hc10, Cf] : (bg d1) = (dp d1 d1.wayGone 0)).symm⟩ Le4 ?_
    rintro n4 ⟨hkn4, hf4⟩
    simp only [List.cons_append, List.nil_append]
    refine Tx ?_
    refine Cd (b := decide ((n4 : Int) < (d1.wayGone.length : Int))) (fun hc11 => ?_) fun hc11 => ?_
    ·have hlt1 : n4 < d1.wayGone.length := Int.ofNat_lt.1 (of_decide_eq_true hc11)
     refine Tx ?_
     refine rw_q rfl rfl rfl (q_idx EInt n4 rfl rfl Zf rfl Zf rfl rfl rfl Mm rfl Zf (fun _ => by first | assumption | omega)) ?_
     refine rw_q rfl rfl rfl (q_le1 EInt rfl rfl Zf rfl rfl Mm (fun _ => by first | assumption | omega) rfl) ?_
     refine Tx ?_
     refine Cd (b := (decide ((gt d1.wayGone n4) < 1) || decide ((gt d1.wayGone n4) ≥ 16))) (fun hc12 => ?_) fun hc12 => ?_
     ·refine Tx ?_
      refine ai ?_; rw [show (bg d1) = 5 by rw [← hf4, aE hlt1]; simp only [dp, hc12, Cf]]; exact Re () (Vt Vn)
     ·refine Tx ?_
      refine rw_qg (aG rfl rfl rfl) rfl rfl (q_sub rfl rfl Bt rfl Bt (by intro h; first | omega | (simp at h; omega))) ?_
      refine rw_qg (aG rfl rfl rfl) rfl rfl (q_idx EInt (n4 - 1) rfl rfl Bt rfl Bt rfl rfl rfl Mm rfl (by intro h; first | omega | rfl | (simp at h; omega)) (by first | (intro _; first | assumption | omega) | (intro h; simp at h; omega))) ?_
      refine rw_qg (aG rfl rfl rfl) rfl rfl (q_le1 EInt rfl rfl Bt rfl rfl Mm (by first | (intro _; first | assumption | omega) | (intro h; simp at h; omega)) rfl) ?_
      refine Tx ?_
      refine Cd (b := (decide ((n4 : Int) > 0) && decide ((gt d1.wayGone (n4 - 1)) ≥ (gt d1.wayGone n4)))) (fun hc13 => ?_) fun hc13 => ?_
      ·refine Tx ?_
       refine ai ?_; rw [show (bg d1) = 6 by rw [← hf4, aE hlt1]; simp only [dp, hc12, hc13, Cf]]; exact Re () (Vt Vn)
      ·refine Tx ?_
       refine rw_q rfl rfl rfl (q_add rfl rfl Zf rfl Zf Zo) ?_
       refine Tx ?_
       refine ⟨(n4 + 1), ⟨hlt1, (by rw [← hf4, aE hlt1]; simp only [dp, hc12, hc13, Cf] : (bg d1) = (dp d1 (d1.wayGone.drop (n4 + 1)) (n4 + 1))).symm⟩, (by simp only []; omega), Le4⟩
    ·have hge1 : d1.wayGone.length ≤ n4 := by have := of_decide_eq_false hc11; omega
     refine Tx ?_
     (repeat refine ao ?_); refine Lp [1,2,3,4,5,14,15,16,17,18,19,20,21,22,23,24,25,26,27,28,29,33,34,35,36,37,59,60] [true] (fun (n5 : Nat) => (⟨[(61, .v (.int .i64 (n5 : Int)))], [], [], [], (n5 ≤ d1.wayHere.length) ∧ (dc d1 (d1.wayHere.drop n5) n5) = (bg d1), d1.wayHere.length - n5⟩ : Ls)) 0 (Sc (Sc (Sc (Sc (Sc (Sc (Sc (Sc (Sc (Sc (Sc (Sc (Sc (Sc (Sc (Sc (Sc (Sc (Sc (Sc (Sc (Sc (Sc (Sc (Sc (Sc (Sc (Sc Sn)))))))))))))))))))))))))))) (.keep (.nil)) ⟨Nat.zero_le _, (by rw [← hf4, List.drop_of_length_le hge1]; simp only [dp, Cf] : (bg d1) = (dc d1 d1.wayHere 0)).symm⟩ Le4 ?_
     rintro n5 ⟨hkn5, hf5⟩
     simp only [List.cons_append, List.nil_append]
     refine Tx ?_
     refine Cd (b := decide ((n5 : Int) < (d1.wayHere.length : Int))) (fun hc14 => ?_) fun hc14 => ?_
     ·have hlt2 : n5 < d1.wayHere.length := Int.ofNat_lt.1 (of_decide_eq_true hc14)
      refine Tx ?_
      refine rw_q rfl rfl rfl (q_idx EPlace n5 rfl rfl Zf rfl Zf rfl rfl rfl Mm rfl Zf (fun _ => by first | assumption | omega)) ?_
      refine rw_q rfl rfl rfl (q_leA EPlace rfl rfl Zf rfl rfl Mm (fun _ => by first | assumption | omega)) ?_
      refine Al fun g3 => ?_
      refine Tx ?_
      refine Cd (b := (((((decide ((gt d1.wayHere n5).node < 1) || decide ((gt d1.wayHere n5).node ≥ 16)) || decide ((gt d1.wayHere n5).parent < 0)) || decide ((gt d1.wayHere n5).parent > 16)) || decide ((gt d1.wayHere n5).name < 0)) || decide ((gt d1.wayHere n5).name > 99))) (fun hc15 => ?_) fun hc15 => ?_
      ·refine Tx ?_
       refine ai ?_; rw [show (bg d1) = 3 by rw [← hf5, aE hlt2]; simp only [dc, hc15, Cf]]; exact Re () (Vt Vn)
      ·refine Tx ?_
       (repeat refine ao ?_); refine au (fun _ => some []) ?_
       refine Rb 0 rfl Qp ?_
       refine Rb 1 rfl Qp ?_
       refine Rb 2 rfl Qp ?_
       refine Gb 3 rfl (aG rfl rfl rfl) (q_pev rfl Bt) ?_
       refine Gb 4 rfl (aG rfl rfl rfl) (q_pev rfl Bt) ?_
       refine Gb 5 rfl (aG rfl rfl rfl) (q_sub rfl rfl Bt rfl Bt (by intro h; first | omega | (simp at h; omega))) ?_
       refine Gb 6 rfl (aG rfl rfl rfl) (q_idx EPlace (n5 - 1) rfl rfl Bt rfl Bt rfl rfl rfl Mm rfl (by intro h; first | omega | rfl | (simp at h; omega)) (by first | (intro _; first | assumption | omega) | (intro h; simp at h; omega))) ?_
       refine Gb 7 rfl (aG rfl rfl rfl) (q_fae rfl rfl Bt rfl rfl) ?_
       refine Gb 8 rfl (aG rfl rfl rfl) (q_le1 EPlace rfl rfl Bt rfl rfl Mm (by first | (intro _; first | assumption | omega) | (intro h; simp at h; omega)) rfl) ?_
       refine Gb 9 rfl (aG rfl rfl rfl) (q_pev rfl Bt) ?_
       refine Gb 10 rfl (aG rfl rfl rfl) (q_ld1 rfl rfl Bt rfl Mm rfl) ?_
       refine Gb 11 rfl (aG rfl rfl rfl) (q_pev rfl Bt) ?_
       refine Rb 12 rfl (q_pev rfl Bt) ?_
       refine Ra 13 rfl Qp ?_
       refine Gb 14 rfl (aB rfl rfl rfl) (q_pev rfl Bt) ?_
       refine Gb 15 rfl (aB rfl rfl rfl) (q_pev rfl Bt) ?_
       refine Gb 16 rfl (aB rfl rfl rfl) (q_ld1 rfl rfl Bt rfl Mm rfl) ?_
       refine ap 17 Kr ?_
       refine dv (fun hG_ => fM y3 d1.wayGone (gt d1.wayHere n5).node) Zf (.an rfl rfl) (aB rfl rfl rfl) rfl rfl rfl Kr rfl Bt Sm ?_
       refine Ra 18 rfl (q_pev rfl Bt) ?_
       refine bn Kr ?_
       (repeat refine ao ?_)
       refine Cd (b := ((decide ((n5 : Int) > 0) && decide ((gt d1.wayHere (n5 - 1)).node ≥ (gt d1.wayHere n5).node)) || (decide ((gt d1.wayHere n5).node ∈ d1.wayGone)))) (fun hc16 => ?_) fun hc16 => ?_
       ·refine Tx ?_
        refine ai ?_; rw [show (bg d1) = 6 by rw [← hf5, aE hlt2]; simp only [dc, hc15, hc16, Cf]]; exact Re () (Vt Vn)
       ·refine Tx ?_
        refine rw_q rfl rfl rfl (q_add rfl rfl Zf rfl Zf Zo) ?_
        refine Tx ?_
        refine ⟨(n5 + 1), ⟨hlt2, (by rw [← hf5, aE hlt2]; simp only [dc, hc15, hc16, Cf] : (bg d1) = (dc d1 (d1.wayHere.drop (n5 + 1)) (n5 + 1))).symm⟩, (by simp only []; omega), Le4⟩
     ·have hge2 : d1.wayHere.length ≤ n5 := by have := of_decide_eq_false hc14; omega
      refine Tx ?_
      refine rw_q rfl rfl rfl (q_add rfl rfl Zf rfl Zf (fun _ => by decide)) ?_
      refine Tx ?_
      refine ⟨2, ⟨by omega, (by rw [← hf5, List.drop_of_length_le hge2]; simp only [dc, Cf] : (bg d1) = ff).symm⟩, (show 2 - 2 < 2 - 1 by decide), Le4⟩
  ·exact Bool.noConfusion (hc9.symm.trans (decide_eq_true (by decide)))
 ·have hf1 : ff = (bg d1) := hf1
  refine Tx ?_
  refine Cd (b := decide ((2 : Int) < 2)) (fun hc17 => ?_) fun hc17 => ?_
  ·exact Bool.noConfusion (hc17.symm.trans (decide_eq_false (by decide)))
  ·refine Tx ?_
   refine ai ?_; rw [show (bg d1) = 0 by rw [← hf1]; simp only [ff, Cf]]; exact Re () (Vt Vn)
def mA (a1 : Delta) (b1 : Delta) : Bool :=
 ((((decide (a1.gone = b1.gone)) && (decide (a1.here = b1.here))) && (decide (a1.wayGone = b1.wayGone))) && (decide (a1.wayHere = b1.wayHere)))
theorem nZ (y1 : SlV) (y2 : SlV) (y3 : SlV) (y4 : SlV) (a1 : Delta) (y5 : SlV) (y6 : SlV) (y7 : SlV) (y8 : SlV) (b1 : Delta) : Does Tryz.prog 117 [.agg ⟨[y1.val a1.gone.length, y2.val a1.here.length, y3.val a1.wayGone.length, y4.val a1.wayHere.length]⟩, .agg ⟨[y5.val b1.gone.length, y6.val b1.here.length, y7.val b1.wayGone.length, y8.val b1.wayHere.length]⟩] [RdL EInt y1 a1.gone, RdL EPlace y2 a1.here, RdL EInt y3 a1.wayGone, RdL EPlace y4 a1.wayHere, RdL EInt y5 b1.gone, RdL EPlace y6 b1.here, RdL EInt y7 b1.wayGone, RdL EPlace y8 b1.wayHere] (fun (_ : Unit) => .bool (mA a1 b1)) (fun _ => []) := by
 refine bj aZ Tryz.func117 rfl Tryz.ntmps117 Tryz.results117 rfl inferInstance (fun _ => inferInstance) fun C => ?_
 refine Pc EInt y1 a1.gone 8 fun hlen1 => ?_
 refine Pc EPlace y2 a1.here 24 fun hlen2 => ?_
 refine Pc EInt y3 a1.wayGone 8 fun hlen3 => ?_
 refine Pc EPlace y4 a1.wayHere 24 fun hlen4 => ?_
 refine Pc EInt y5 b1.gone 8 fun hlen5 => ?_
 refine Pc EPlace y6 b1.here 24 fun hlen6 => ?_
 refine Pc EInt y7 b1.wayGone 8 fun hlen7 => ?_
 refine Pc EPlace y8 b1.wayHere 24 fun hlen8 => ?_
 refine Tx ?_
 refine Bx fun g1 => ?_
 refine Bx fun g2 => ?_
 refine Tx ?_
 refine Cl ((fun y1 a y2 b => dA y1 y2 a b) y1 a1.gone y5 b1.gone) fun _ => ?_
 refine Tx ?_
 refine dv (fun hG_ => (fun y1 a y2 b => dJ y1 y2 a b) y2 a1.here y6 b1.here) Zf .sq (aG rfl rfl rfl) rfl rfl rfl Kr rfl Bt Sm ?_
 refine Tx ?_
 refine dv (fun hG_ => (fun y1 a y2 b => dA y1 y2 a b) y3 a1.wayGone y7 b1.wayGone) Zf .sq (aG rfl rfl rfl) rfl rfl rfl Kr rfl Bt Sm ?_
 refine Tx ?_
 refine dv (fun hG_ => (fun y1 a y2 b => dJ y1 y2 a b) y4 a1.wayHere y8 b1.wayHere) Zf .sq (aG rfl rfl rfl) rfl rfl rfl Kr rfl Bt Sm ?_
 refine Tx ?_
 refine ai ?_; simp only [mA, Cf]; exact Re () (Vt Vn)
end Go.Proofs.YtpkaloknohpleaaGreatDoor

namespace Go.Proofs.YtpkaloknohpleaaGreatDoor
open Go Go.Proofs.YtpkaloknohpleaaGreatDoor.Fw Go.Proofs
def find : List Place → Int → Place
 | [], _ => ⟨0, 0, 0⟩
 | p :: r, n => bif p.node == n then p else find r n
def place (p : Place) : Int := bif (decide (p.node < 1) || decide (p.node ≥ 16) || decide (p.parent < 0) || decide (p.parent > 16) || decide (p.name < 0) || decide (p.name > 99)) then 3 else 0
def ly (l : List Place) (top : Int) : Nat → Int → Bool
 | 0, _ => false
 | k + 1, nd => bif nd == top then true else bif (find l nd).node == 0 then false else ly l top k (find l nd).parent
def stands (l : List Place) (nd top : Int) : Bool := ly l top (l.length + 1) nd
def chk1 (l : List Place) : Nat → Nat → Int
 | 0, _ => 0
 | f + 1, k => bif place (gt l k) != 0 then place (gt l k) else bif (decide ((k : Int) > 0) && decide ((gt l (k - 1)).node ≥ (gt l k).node)) then 6 else chk1 l f (k + 1)
def chk2 (t : List Place) : List Place → Int
 | [] => 0
 | p :: r => bif stands t p.parent p.node then 4 else chk2 t r
def dz (l : List Place) : Int := bif chk1 l l.length 0 != 0 then chk1 l l.length 0 else chk2 l l
def put (p : Place) : Bool → List Place → List Place
 | d, [] => bif !d then [p] else []
 | d, q :: r => bif (!d && decide (q.node ≥ p.node)) then p :: (bif q.node != p.node then q :: put p true r else put p true r) else (bif q.node != p.node then q :: put p d r else put p d r)
def putT (l : List Place) (p : Place) : List Place := put p (decide (p.parent < 0)) l
def under (l : List Place) (nd top : Int) : Bool × Int := bif dz l != 0 then (false, dz l) else bif (decide (nd < 0) || decide (nd > 16) || decide (top < 0) || decide (top > 16)) then (false, 5) else (stands l nd top, 0)
def chkO (o : Op) : Int := bif (decide (o.time < 1) || decide (o.time > 10000) || decide (o.who < 0) || decide (o.who ≥ 3) || decide (o.node < 1) || decide (o.node ≥ 16) || decide (o.parent < 0) || decide (o.parent > 16) || decide (o.name < 0) || decide (o.name > 99) || decide (o.life < 1) || decide (o.life > 50) || decide (o.seq < 1) || decide (o.seq > 30)) then 3 else 0
def eT (l : List Place) (o : Op) : List Place × Step × Int :=
 bif dz l != 0 then ([], default, dz l) else bif chkO o != 0 then ([], default, chkO o) else
 bif stands l o.parent o.node then (l, ⟨o, false, find l o.node⟩, 0) else (putT l ⟨o.node, o.parent, o.name⟩, ⟨o, true, find l o.node⟩, 0)
def wasOf (s : Step) : Place := bif s.was.node == 0 then ⟨s.o.node, -1, 0⟩ else s.was
def lT (l : List Place) (s : Step) : List Place × Int :=
 bif dz l != 0 then ([], dz l) else bif chkO s.o != 0 then ([], chkO s.o) else bif !s.did then (l, 0) else
 bif ((wasOf s).node != s.o.node || find l s.o.node != ⟨s.o.node, s.o.parent, s.o.name⟩) then ([], 4) else
 bif dz (putT l (wasOf s)) != 0 then ([], dz (putT l (wasOf s))) else (putT l (wasOf s), 0)
theorem q8 (l : List Place) : ∀ (f k : Nat), k + f = l.length → chk1 l f k = 0 → (∀ i, k ≤ i → i < l.length → place (gt l i) = 0) ∧ ∀ i, k ≤ i → i < l.length → 0 < i → (gt l (i - 1)).node < (gt l i).node
 | 0, k, h, _ => ⟨fun i h1 h2 => by omega, fun i h1 h2 => by omega⟩
 | f + 1, k, h, hc => by
  rw [chk1] at hc
  cases h1 : place (gt l k) != 0 with
  | true => rw [h1, cond_true] at hc; simp [hc] at h1
  | false =>
   rw [h1, cond_false] at hc
   cases h2 : (decide ((k : Int) > 0) && decide ((gt l (k - 1)).node ≥ (gt l k).node)) with
   | true => rw [h2, cond_true] at hc; cases hc
   | false =>
    rw [h2, cond_false] at hc
    obtain ⟨ha, hb⟩ := q8 l f (k + 1) (by omega) hc
    refine ⟨fun i hi hlt => ?_, fun i hi hlt hp => ?_⟩
    ·rcases Nat.eq_or_lt_of_le hi with rfl | hi
     ·simpa using h1
     ·exact ha i hi hlt
    ·rcases Nat.eq_or_lt_of_le hi with rfl | hi
     ·simp only [Bool.and_eq_false_iff, decide_eq_false_iff_not] at h2
      rcases h2 with h2 | h2 <;> omega
     ·exact hb i hi hlt hp
theorem rV {l : List Place} (h : dz l = 0) : chk1 l l.length 0 = 0 := by
 unfold dz at h
 cases h1 : chk1 l l.length 0 != 0 with
 | true => rw [h1, cond_true] at h; exact h
 | false => simpa using h1
theorem nG {p : Place} (h : place p = 0) : 1 ≤ p.node ∧ p.node < 16 ∧ 0 ≤ p.parent ∧ p.parent ≤ 16 ∧ 0 ≤ p.name ∧ p.name ≤ 99 := by
 unfold place at h
 generalize hb : (decide (p.node < 1) || decide (p.node ≥ 16) || decide (p.parent < 0) || decide (p.parent > 16) || decide (p.name < 0) || decide (p.name > 99)) = b at h
 cases b with
 | true => simp at h
 | false => simp only [Bool.or_eq_false_iff, decide_eq_false_iff_not] at hb; omega
theorem ld {l : List Place} (h : dz l = 0) : l.length ≤ 15 := by
 obtain ⟨ha, hb⟩ := q8 l l.length 0 (by omega) (rV h)
 have key : ∀ i, i < l.length → (i : Int) + 1 ≤ (gt l i).node := by
  intro i
  induction i with
  | zero => intro h0; have := (nG (ha 0 (by omega) h0)).1; simpa using this
  | succ i ih => intro hi; have := ih (by omega); have := hb (i + 1) (by omega) hi (by omega); simp at this; push_cast; omega
 apply Classical.byContradiction
 intro hn
 have h1 := key 15 (by omega)
 have h2 := (nG (ha 15 (by omega) (by omega))).2.1
 omega
end Go.Proofs.YtpkaloknohpleaaGreatDoor

namespace Go.Proofs.YtpkaloknohpleaaGreatDoor
open Go Go.Proofs.YtpkaloknohpleaaGreatDoor.Fw
inductive Way (l : List Place) (ok : Int → Prop) : Int → Int → Nat → Prop
 | here (a : Int) : Way l ok a a 0
 | up {a b : Int} {k : Nat} (hok : ok a) (hn : (find l a).node ≠ 0) (h : Way l ok (find l a).parent b k) : Way l ok a b (k + 1)
theorem nA (l : List Place) (top : Int) : ∀ (f : Nat) (nd : Int), ly l top f nd = true ↔ ∃ k, k < f ∧ Way l (fun _ => True) nd top k
 | 0, nd => by simp [ly]
 | f + 1, nd => by
  rw [ly]
  by_cases h : nd = top
  ·subst h
   simp only [beq_self_eq_true, cond_true, true_iff]
   exact ⟨0, by omega, .here _⟩
  ·have hb : (nd == top) = false := by simpa using h
   rw [hb, cond_false]
   by_cases h0 : (find l nd).node = 0
   ·have : ((find l nd).node == 0) = true := by simpa using h0
    rw [this, cond_true]
    constructor
    ·intro h; cases h
    ·rintro ⟨k, _, hw⟩
     cases hw with
     | here => exact absurd rfl h
     | up _ hn _ => exact absurd h0 hn
   ·have : ((find l nd).node == 0) = false := by simpa using h0
    rw [this, cond_false, nA l top f]
    constructor
    ·rintro ⟨k, hk, hw⟩; exact ⟨k + 1, by omega, .up trivial h0 hw⟩
    ·rintro ⟨k, hk, hw⟩
     cases hw with
     | here => exact absurd rfl h
     | up _ _ hw => exact ⟨_, by omega, hw⟩
theorem Way.last {l : List Place} {ok : Int → Prop} (a : Int) {x b : Int} {k : Nat} (h : Way l ok x b k) :
  (∃ k', Way l (fun z => ok z ∧ z ≠ a) x b k') ∨ (ok a ∧ (find l a).node ≠ 0 ∧ ∃ k', Way l (fun z => ok z ∧ z ≠ a) (find l a).parent b k') := by
 induction h with
 | here x => exact .inl ⟨0, .here _⟩
 | @up x b k hok hn h ih =>
  rcases ih with ⟨k', hw⟩ | h2
  ·by_cases hx : x = a
   ·subst hx; exact .inr ⟨hok, hn, k', hw⟩
   ·exact .inl ⟨k' + 1, .up ⟨hok, hx⟩ hn hw⟩
  ·exact .inr h2
theorem Way.mono {l : List Place} {ok ok' : Int → Prop} (hm : ∀ z, ok z → ok' z) {a b : Int} {k : Nat} (h : Way l ok a b k) : Way l ok' a b k := by
 induction h with
 | here x => exact .here x
 | up hok hn _ ih => exact .up (hm _ hok) hn ih
theorem Way.short {l : List Place} : ∀ (m : Nat) (S : List Int), S.length ≤ m → ∀ {a b : Int} {k : Nat}, Way l (fun z => z ∈ S) a b k → ∃ k', k' ≤ m ∧ Way l (fun z => z ∈ S) a b k' := by
 intro m
 induction m with
 | zero =>
  intro S hS a b k h
  cases h with
  | here => exact ⟨0, Nat.le_refl _, .here _⟩
  | up hok _ _ =>
   have : S = [] := List.length_eq_zero_iff.1 (by omega)
   subst this; cases hok
 | succ m ih =>
  intro S hS a b k h
  rcases h.last a with ⟨k', hw⟩ | ⟨hok, hn, k', hw⟩
  ·cases hw with
   | here => exact ⟨0, by omega, .here _⟩
   | up hok _ _ => exact absurd rfl hok.2
  ·have hlt : (S.filter (· != a)).length < S.length := by
    apply Classical.byContradiction
    intro hge
    have := List.filter_eq_self.1 ((List.filter_sublist (p := (· != a)) (l := S)).eq_of_length_le (by omega)) a hok
    simp at this
   obtain ⟨k2, hk2, hw2⟩ := ih (S.filter (· != a)) (by omega) (hw.mono fun z hz => by simpa using hz)
   exact ⟨k2 + 1, by omega, .up hok hn (hw2.mono fun z hz => (List.mem_filter.1 hz).1)⟩
theorem jC {l : List Place} {a : Int} : (find l a).node ≠ 0 → (find l a).node = a ∧ find l a ∈ l := by
 induction l with
 | nil => intro h; exact absurd rfl h
 | cons p r ih =>
  intro h
  rw [find] at h ⊢
  cases hp : p.node == a with
  | true => rw [cond_true]; exact ⟨by simpa using hp, .head _⟩
  | false => rw [hp, cond_false] at h; rw [cond_false]; exact ⟨(ih h).1, .tail _ (ih h).2⟩
def Up (l : List Place) (a b : Int) : Prop := ∃ k, Way l (fun _ => True) a b k
theorem jl (l : List Place) (a b : Int) : stands l a b = true ↔ Up l a b := by
 unfold stands
 rw [nA]
 constructor
 ·rintro ⟨k, _, h⟩; exact ⟨k, h⟩
 ·rintro ⟨k, h⟩
  have h1 : ∀ {a b : Int} {k : Nat}, Way l (fun _ => True) a b k → Way l (fun z => z ∈ l.map (·.node)) a b k := by
   intro a b k h
   induction h with
   | here x => exact .here x
   | up _ hn _ ih =>
    obtain ⟨e, hm⟩ := jC hn
    exact .up (List.mem_map.2 ⟨_, hm, e⟩) hn ih
  obtain ⟨k', hk, hw⟩ := (h1 h).short (l := l) l.length (l.map (·.node)) (by simp)
  exact ⟨k', by omega, hw.mono fun _ _ => trivial⟩
theorem Up.refl (l : List Place) (a : Int) : Up l a a := ⟨0, .here a⟩
theorem Way.trans {l : List Place} {ok : Int → Prop} {a b c : Int} {k m : Nat} (h : Way l ok a b k) (h' : Way l ok b c m) : ∃ n, Way l ok a c n := by
 induction h with
 | here => exact ⟨m, h'⟩
 | up hok hn _ ih => obtain ⟨n, hw⟩ := ih h'; exact ⟨n + 1, .up hok hn hw⟩
theorem Up.trans {l : List Place} {a b c : Int} (h : Up l a b) (h' : Up l b c) : Up l a c := by
 obtain ⟨_, h⟩ := h
 obtain ⟨_, h'⟩ := h'
 exact h.trans h'
structure gr (l : List Place) : Prop where
 ok : ∀ p ∈ l, place p = 0
 up : l.Pairwise (fun a b => a.node < b.node)
 no : ∀ p ∈ l, ¬ Up l p.parent p.node
theorem qo (p : Place) (r : List Place) (i : Nat) : gt (p :: r) (i + 1) = gt r i := by simp [gt]
theorem nJ : ∀ (l : List Place), (∀ i, i + 1 < l.length → (gt l i).node < (gt l (i + 1)).node) → l.Pairwise (fun a b => a.node < b.node)
 | [], _ => .nil
 | [p], _ => by simp
 | p :: q :: r, h => by
  have h1 := nJ (q :: r) (fun i hi => by have := h (i + 1) (by simp at hi ⊢; omega); simpa [qo] using this)
  have h0 : p.node < q.node := by have := h 0 (by simp); simpa [gt] using this
  refine .cons (fun a ha => ?_) h1
  rcases List.mem_cons.1 ha with rfl | ha
  ·exact h0
  ·exact Int.lt_trans h0 (List.rel_of_pairwise_cons h1 ha)
theorem qX : ∀ {l : List Place}, l.Pairwise (fun a b => a.node < b.node) → ∀ i, i + 1 < l.length → (gt l i).node < (gt l (i + 1)).node := by
 intro l h i hi
 rw [gt_eq (by omega), gt_eq hi]
 exact List.pairwise_iff_getElem.1 h i (i + 1) (by omega) hi (by omega)
theorem tT (l : List Place) (ha : ∀ i, i < l.length → place (gt l i) = 0) (hb : ∀ i, i + 1 < l.length → (gt l i).node < (gt l (i + 1)).node) : ∀ (f k : Nat), k + f = l.length → chk1 l f k = 0
 | 0, _, _ => rfl
 | f + 1, k, h => by
  rw [chk1, ha k (by omega)]
  have h2 : (decide ((k : Int) > 0) && decide ((gt l (k - 1)).node ≥ (gt l k).node)) = false := by
   cases k with
   | zero => simp
   | succ k => have := hb k (by omega); simp; omega
  rw [h2]
  exact tT l ha hb f (k + 1) (by omega)
theorem pH (t : List Place) : ∀ (l : List Place), chk2 t l = 0 ↔ ∀ p ∈ l, ¬ Up t p.parent p.node
 | [] => by simp [chk2]
 | p :: r => by
  rw [chk2]
  cases h : stands t p.parent p.node with
  | true => simp only [cond_true, List.forall_mem_cons, (jl t _ _).1 h, not_true, false_and, iff_false]; decide
  | false =>
   have hn : ¬ Up t p.parent p.node := fun hu => by rw [(jl t _ _).2 hu] at h; cases h
   simp only [cond_false, List.forall_mem_cons, hn, not_false_eq_true, true_and, pH t r]
theorem eB (l : List Place) : dz l = 0 ↔ gr l := by
 constructor
 ·intro h
  have h1 := rV h
  obtain ⟨ha, hb⟩ := q8 l l.length 0 (by omega) h1
  have h2 : chk2 l l = 0 := by
   unfold dz at h
   rw [h1] at h
   exact h
  refine ⟨fun p hp => ?_, nJ l fun i hi => by have := hb (i + 1) (by omega) hi (by omega); simpa using this, (pH l l).1 h2⟩
  obtain ⟨i, hi, rfl⟩ := List.getElem_of_mem hp
  have := ha i (by omega) hi
  rwa [gt_eq hi] at this
 ·intro h
  have h1 : chk1 l l.length 0 = 0 := tT l (fun i hi => by rw [gt_eq hi]; exact h.ok _ (List.getElem_mem hi)) (qX h.up) _ _ (by omega)
  unfold dz
  rw [h1]
  exact (pH l l).2 h.no
theorem my (p : Place) (n : Int) : ∀ l : List Place, find (put p true l) n = bif n == p.node then ⟨0, 0, 0⟩ else find l n
 | [] => by simp [put, find]
 | q :: r => by
  have ih := my p n r
  rw [put]
  simp only [Bool.not_true, Bool.false_and, cond_false]
  by_cases hq : q.node = p.node
  ·have : (q.node != p.node) = false := by simpa using hq
   rw [this, cond_false, ih, find]
   by_cases hn : n = p.node
   ·simp [hn]
   ·have h1 : (n == p.node) = false := by simpa using hn
    have h2 : (q.node == n) = false := by rw [hq]; simpa using Ne.symm hn
    rw [h1, h2]; rfl
  ·have : (q.node != p.node) = true := by simpa using hq
   rw [this, cond_true, find, find, ih]
   by_cases hn : n = p.node
   ·have h2 : (q.node == n) = false := by rw [hn]; simpa using hq
    rw [h2, hn]; simp
   ·have h1 : (n == p.node) = false := by simpa using hn
    rw [h1]; rfl
theorem o0 (p : Place) (n : Int) : ∀ l : List Place, find (put p false l) n = bif n == p.node then p else find l n
 | [] => by
  by_cases hn : n = p.node
  ·simp [put, find, hn]
  ·have h1 : (n == p.node) = false := by simpa using hn
   have h2 : (p.node == n) = false := by simpa using Ne.symm hn
   simp [put, find, h1, h2]
 | q :: r => by
  rw [put]
  by_cases hge : q.node ≥ p.node
  ·have h0 : (!false && decide (q.node ≥ p.node)) = true := by simpa using hge
   rw [h0, cond_true]
   have e : (bif q.node != p.node then q :: put p true r else put p true r) = put p true (q :: r) := by rw [put]; rfl
   rw [e, find, my]
   by_cases hn : n = p.node
   ·subst hn; simp
   ·have h1 : (n == p.node) = false := by simpa using hn
    have h2 : (p.node == n) = false := by simpa using Ne.symm hn
    rw [h1, h2]; rfl
  ·have h0 : (!false && decide (q.node ≥ p.node)) = false := by simpa using hge
   have hne : (q.node != p.node) = true := by simp; omega
   rw [h0, cond_false, hne, cond_true, find, find, o0 p n r]
   by_cases hn : n = p.node
   ·have h2 : (q.node == n) = false := by simp; omega
    rw [h2, hn]; simp
   ·have h1 : (n == p.node) = false := by simpa using hn
    rw [h1]; rfl
theorem fQ (p x : Place) : ∀ l : List Place, x ∈ put p true l → x ∈ l ∧ x.node ≠ p.node
 | [], h => by cases h
 | q :: r, h => by
  rw [put] at h
  simp only [Bool.not_true, Bool.false_and, cond_false] at h
  cases hq : q.node != p.node with
  | true =>
   rw [hq, cond_true] at h
   rcases List.mem_cons.1 h with rfl | h
   ·exact ⟨.head _, by simpa using hq⟩
   ·exact ⟨.tail _ (fQ p x r h).1, (fQ p x r h).2⟩
  | false => rw [hq, cond_false] at h; exact ⟨.tail _ (fQ p x r h).1, (fQ p x r h).2⟩
theorem jw (p x : Place) : ∀ l : List Place, x ∈ put p false l → x = p ∨ (x ∈ l ∧ x.node ≠ p.node)
 | [], h => by simp [put] at h; exact .inl h
 | q :: r, h => by
  rw [put] at h
  by_cases hge : q.node ≥ p.node
  ·have h0 : (!false && decide (q.node ≥ p.node)) = true := by simpa using hge
   have e : (bif q.node != p.node then q :: put p true r else put p true r) = put p true (q :: r) := by rw [put]; rfl
   rw [h0, cond_true, e] at h
   rcases List.mem_cons.1 h with rfl | h
   ·exact .inl rfl
   ·exact .inr (fQ p x _ h)
  ·have h0 : (!false && decide (q.node ≥ p.node)) = false := by simpa using hge
   have hne : (q.node != p.node) = true := by simp; omega
   rw [h0, cond_false, hne, cond_true] at h
   rcases List.mem_cons.1 h with rfl | h
   ·exact .inr ⟨.head _, by simpa using hne⟩
   ·rcases jw p x r h with h | ⟨h1, h2⟩
    ·exact .inl h
    ·exact .inr ⟨.tail _ h1, h2⟩
theorem lR (p : Place) : ∀ {l : List Place}, l.Pairwise (fun a b => a.node < b.node) → (put p true l).Pairwise (fun a b => a.node < b.node)
 | [], _ => .nil
 | q :: r, h => by
  have hr := List.Pairwise.of_cons h
  rw [put]
  simp only [Bool.not_true, Bool.false_and, cond_false]
  cases q.node != p.node with
  | true => exact .cons (fun a ha => List.rel_of_pairwise_cons h (fQ p a r ha).1) (lR p hr)
  | false => exact lR p hr
theorem nf (p : Place) : ∀ {l : List Place}, l.Pairwise (fun a b => a.node < b.node) → (put p false l).Pairwise (fun a b => a.node < b.node)
 | [], _ => by simp [put]
 | q :: r, h => by
  have hr := List.Pairwise.of_cons h
  rw [put]
  by_cases hge : q.node ≥ p.node
  ·have h0 : (!false && decide (q.node ≥ p.node)) = true := by simpa using hge
   have e : (bif q.node != p.node then q :: put p true r else put p true r) = put p true (q :: r) := by rw [put]; rfl
   rw [h0, cond_true, e]
   refine .cons (fun a ha => ?_) (lR p h)
   obtain ⟨hm, hn⟩ := fQ p a _ ha
   have : q.node ≤ a.node := by
    rcases List.mem_cons.1 hm with rfl | hm
    ·exact Int.le_refl _
    ·exact Int.le_of_lt (List.rel_of_pairwise_cons h hm)
   omega
  ·have h0 : (!false && decide (q.node ≥ p.node)) = false := by simpa using hge
   have hne : (q.node != p.node) = true := by simp; omega
   rw [h0, cond_false, hne, cond_true]
   refine .cons (fun a ha => ?_) (nf p hr)
   rcases jw p a r ha with rfl | ⟨hm, _⟩
   ·omega
   ·exact List.rel_of_pairwise_cons h hm
theorem mz {l : List Place} {n : Int} (h : ∀ p ∈ l, n < p.node) : find l n = ⟨0, 0, 0⟩ := by
 induction l with
 | nil => rfl
 | cons p r ih =>
  rw [find]
  have := h p (.head _)
  have h1 : (p.node == n) = false := by simp; omega
  rw [h1, cond_false]
  exact ih fun q hq => h q (.tail _ hq)
theorem ni : ∀ {l l' : List Place}, l.Pairwise (fun a b => a.node < b.node) → l'.Pairwise (fun a b => a.node < b.node) → (∀ p ∈ l, 1 ≤ p.node) → (∀ p ∈ l', 1 ≤ p.node) → (∀ n, 1 ≤ n → find l n = find l' n) → l = l'
 | [], [], _, _, _, _, _ => rfl
 | [], q :: r, _, _, _, h4, h5 => by
  have h1 := h4 q (.head _)
  have := h5 q.node h1
  simp [find] at this
  rw [← this] at h1; simp at h1
 | p :: r, [], _, _, h3, _, h5 => by
  have h1 := h3 p (.head _)
  have := h5 p.node h1
  simp [find] at this
  rw [this] at h1; simp at h1
 | p :: r, q :: s, h1, h2, h3, h4, h5 => by
  have hp := h3 p (.head _)
  have hq := h4 q (.head _)
  have e1 := h5 p.node hp
  have e2 := h5 q.node hq
  have hpq : p.node = q.node := by
   rcases Int.lt_trichotomy p.node q.node with h | h | h
   ·have : find (q :: s) p.node = ⟨0, 0, 0⟩ := mz fun x hx => by
     rcases List.mem_cons.1 hx with rfl | hx
     ·exact h
     ·exact Int.lt_trans h (List.rel_of_pairwise_cons h2 hx)
    rw [this] at e1
    simp [find] at e1
    rw [e1] at hp; simp at hp
   ·exact h
   ·have : find (p :: r) q.node = ⟨0, 0, 0⟩ := mz fun x hx => by
     rcases List.mem_cons.1 hx with rfl | hx
     ·exact h
     ·exact Int.lt_trans h (List.rel_of_pairwise_cons h1 hx)
    rw [this] at e2
    simp [find] at e2
    rw [← e2] at hq; simp at hq
  have e : p = q := by simpa [find, hpq] using e1
  subst e
  refine congrArg _ (ni (List.Pairwise.of_cons h1) (List.Pairwise.of_cons h2) (fun x hx => h3 x (.tail _ hx)) (fun x hx => h4 x (.tail _ hx)) fun n hn => ?_)
  by_cases hn' : n = p.node
  ·subst hn'
   rw [mz fun x hx => List.rel_of_pairwise_cons h1 hx, mz fun x hx => List.rel_of_pairwise_cons h2 hx]
  ·have := h5 n hn
   rw [find, find] at this
   have hb : (p.node == n) = false := by simpa using Ne.symm hn'
   rwa [hb, cond_false, cond_false] at this
theorem Way.first {l : List Place} {ok : Int → Prop} (a : Int) {x b : Int} {k : Nat} (h : Way l ok x b k) :
  (∃ k', Way l (fun z => ok z ∧ z ≠ a) x b k') ∨ (∃ k', Way l (fun z => ok z ∧ z ≠ a) x a k') := by
 induction h with
 | here x => exact .inl ⟨0, .here _⟩
 | @up x b k hok hn h ih =>
  by_cases hx : x = a
  ·subst hx; exact .inr ⟨0, .here _⟩
  ·rcases ih with ⟨k', hw⟩ | ⟨k', hw⟩
   ·exact .inl ⟨k' + 1, .up ⟨hok, hx⟩ hn hw⟩
   ·exact .inr ⟨k' + 1, .up ⟨hok, hx⟩ hn hw⟩
theorem Way.turn {l l' : List Place} {ok : Int → Prop} (hf : ∀ z, ok z → find l' z = find l z) {a b : Int} {k : Nat} (h : Way l ok a b k) : Way l' ok a b k := by
 induction h with
 | here x => exact .here x
 | up hok hn _ ih => exact .up hok (by rw [hf _ hok]; exact hn) (by rw [hf _ hok]; exact ih)
theorem lb : ∀ {l : List Place}, l.Pairwise (fun a b => a.node < b.node) → ∀ p ∈ l, find l p.node = p
 | q :: r, h, p, hp => by
  rw [find]
  rcases List.mem_cons.1 hp with rfl | hp
  ·simp
  ·have := List.rel_of_pairwise_cons h hp
   have hb : (q.node == p.node) = false := by simp; omega
   rw [hb, cond_false]
   exact lb (List.Pairwise.of_cons h) p hp
theorem p5 {l : List Place} {p : Place} (h : 0 ≤ p.parent) : putT l p = put p false l := by
 unfold putT
 have : decide (p.parent < 0) = false := by simp; omega
 rw [this]
theorem tm {l : List Place} {p : Place} (h : p.parent < 0) : putT l p = put p true l := by
 unfold putT
 have : decide (p.parent < 0) = true := by simp; omega
 rw [this]
theorem fe (l : List Place) (p : Place) (n : Int) : find (putT l p) n = bif n == p.node then (bif decide (p.parent < 0) then ⟨0, 0, 0⟩ else p) else find l n := by
 unfold putT
 cases decide (p.parent < 0) with
 | true => rw [my]; rfl
 | false => rw [o0]; rfl
theorem gr.node {l : List Place} (h : gr l) : ∀ p ∈ l, 1 ≤ p.node := fun p hp => (nG (h.ok p hp)).1
theorem gr.put {l : List Place} (h : gr l) {p : Place} (hp : place p = 0) (hs : ¬ Up l p.parent p.node) : gr (putT l p) := by
 have hpp := nG hp
 have hfind : ∀ n, n ≠ p.node → find (putT l p) n = find l n := fun n hn => by
  rw [fe]
  have : (n == p.node) = false := by simpa using hn
  rw [this]; rfl
 have hmem : ∀ x, x ∈ putT l p → x = p ∨ (x ∈ l ∧ x.node ≠ p.node) := fun x hx => by
  rw [p5 hpp.2.2.1] at hx
  exact jw p x l hx
 refine ⟨fun x hx => ?_, by rw [p5 hpp.2.2.1]; exact nf p h.up, fun x hx hu => ?_⟩
 ·rcases hmem x hx with rfl | ⟨hx, _⟩
  ·exact hp
  ·exact h.ok x hx
 ·obtain ⟨k, hw⟩ := hu
  have back : ∀ {a b : Int} {k : Nat}, Way (putT l p) (fun z => True ∧ z ≠ p.node) a b k → Up l a b := fun hw => ⟨_, (hw.turn (l' := l) fun z hz => (hfind z hz.2).symm).mono fun _ _ => trivial⟩
  rcases hw.last p.node with ⟨k', h1⟩ | ⟨_, _, k', h1⟩
  ·rcases hmem x hx with rfl | ⟨hx, _⟩
   ·exact hs (back h1)
   ·exact h.no x hx (back h1)
  ·have e : (find (putT l p) p.node).parent = p.parent := by
    rw [fe]
    have : decide (p.parent < 0) = false := by simp; omega
    simp [this]
   rw [e] at h1
   have hu := back h1
   rcases hmem x hx with rfl | ⟨hxl, hxn⟩
   ·exact hs hu
   ·rcases hw.first p.node with ⟨k2, h2⟩ | ⟨k2, h2⟩
    ·exact h.no x hxl (back h2)
    ·have hup : Up l x.node p.node := by
      obtain ⟨k3, h3⟩ := back h2
      have := lb h.up x hxl
      exact ⟨k3 + 1, .up trivial (by rw [this]; have := h.node x hxl; omega) (by rw [this]; exact h3)⟩
     exact hs (hu.trans hup)
theorem pG {o : Op} (h : chkO o = 0) : 1 ≤ o.time ∧ o.time ≤ 10000 ∧ 0 ≤ o.who ∧ o.who < 3 ∧ 1 ≤ o.node ∧ o.node < 16 ∧ 0 ≤ o.parent ∧ o.parent ≤ 16 ∧ 0 ≤ o.name ∧ o.name ≤ 99 ∧ 1 ≤ o.life ∧ o.life ≤ 50 ∧ 1 ≤ o.seq ∧ o.seq ≤ 30 := by
 unfold chkO at h
 generalize hb : (decide (o.time < 1) || decide (o.time > 10000) || decide (o.who < 0) || decide (o.who ≥ 3) || decide (o.node < 1) || decide (o.node ≥ 16) || decide (o.parent < 0) || decide (o.parent > 16) || decide (o.name < 0) || decide (o.name > 99) || decide (o.life < 1) || decide (o.life > 50) || decide (o.seq < 1) || decide (o.seq > 30)) = b at h
 cases b with
 | true => simp at h
 | false => simp only [Bool.or_eq_false_iff, decide_eq_false_iff_not] at hb; omega
def dT (o : Op) : Place := ⟨o.node, o.parent, o.name⟩
theorem sw {o : Op} (h : chkO o = 0) : place (dT o) = 0 := by
 have := pG h
 have hb : (decide ((dT o).node < 1) || decide ((dT o).node ≥ 16) || decide ((dT o).parent < 0) || decide ((dT o).parent > 16) || decide ((dT o).name < 0) || decide ((dT o).name > 99)) = false := by
  have e1 : (dT o).node = o.node := rfl
  have e2 : (dT o).parent = o.parent := rfl
  have e3 : (dT o).name = o.name := rfl
  simp only [e1, e2, e3, Bool.or_eq_false_iff, decide_eq_false_iff_not]; omega
 unfold place
 rw [hb]; rfl
theorem oU (l : List Place) (o : Op) : (eT l o).2.2 = bif dz l != 0 then dz l else chkO o := by
 unfold eT
 cases h1 : dz l != 0 with
 | true => rfl
 | false =>
  cases h2 : chkO o != 0 with
  | true => rfl
  | false =>
   have h2 : chkO o = 0 := by simpa using h2
   cases stands l o.parent o.node <;> simp [h2]
theorem tB {l : List Place} {o : Op} (h : (eT l o).2.2 = 0) : dz l = 0 ∧ chkO o = 0 := by
 rw [oU] at h
 cases h1 : dz l != 0 with
 | true => rw [h1, cond_true] at h; simp [h] at h1
 | false => rw [h1, cond_false] at h; exact ⟨by simpa using h1, h⟩
theorem qi {l : List Place} {o : Op} (h1 : dz l = 0) (h2 : chkO o = 0) : eT l o = bif stands l o.parent o.node then (l, ⟨o, false, find l o.node⟩, 0) else (putT l (dT o), ⟨o, true, find l o.node⟩, 0) := by
 unfold eT
 rw [h1, h2]; rfl
theorem kL {n : Int} : ∀ {l : List Place}, (∀ p ∈ l, p.node ≠ n) → find l n = ⟨0, 0, 0⟩
 | [], _ => rfl
 | p :: r, h => by
  rw [find]
  have : (p.node == n) = false := by simpa using h p (.head _)
  rw [this, cond_false]
  exact kL fun q hq => h q (.tail _ hq)
structure Moved (l : List Place) (o : Op) : Prop where
 tree : dz (eT l o).1 = 0
 did : (eT l o).2.1.did = !stands l o.parent o.node
 op : (eT l o).2.1.o = o
 under : under l o.parent o.node = (stands l o.parent o.node, 0)
 else_ : ∀ n, n ≠ o.node → find (eT l o).1 n = find l n
 node : (eT l o).2.1.did = true → find (eT l o).1 o.node = dT o
 undo : lT (eT l o).1 (eT l o).2.1 = (l, 0)
theorem jX {l : List Place} {o : Op} (h : (eT l o).2.2 = 0) : Moved l o := by
 obtain ⟨h1, h2⟩ := tB h
 have ho := pG h2
 have hunder : under l o.parent o.node = (stands l o.parent o.node, 0) := by
  unfold under
  have hb : (decide (o.parent < 0) || decide (o.parent > 16) || decide (o.node < 0) || decide (o.node > 16)) = false := by simp only [Bool.or_eq_false_iff, decide_eq_false_iff_not]; omega
  rw [h1, hb]; rfl
 cases hs : stands l o.parent o.node with
 | true =>
  have e : eT l o = (l, ⟨o, false, find l o.node⟩, 0) := by rw [qi h1 h2, hs]; rfl
  refine ⟨by rw [e]; exact h1, by rw [e, hs]; rfl, by rw [e], by rw [hunder, hs], fun n _ => by rw [e], fun hd => (by rw [e] at hd; cases hd), ?_⟩
  rw [e]
  unfold lT
  simp [h1, h2]
 | false =>
  have e : eT l o = (putT l (dT o), ⟨o, true, find l o.node⟩, 0) := by rw [qi h1 h2, hs]; rfl
  have hT := (eB l).1 h1
  have hT' : gr (putT l (dT o)) := hT.put (sw h2) fun hu => by rw [← jl] at hu; rw [show (dT o).parent = o.parent from rfl, show (dT o).node = o.node from rfl, hs] at hu; cases hu
  have hc' := (eB _).2 hT'
  have hnp : decide ((dT o).parent < 0) = false := decide_eq_false (show ¬ o.parent < 0 by omega)
  have hfn : find (putT l (dT o)) o.node = dT o := by
   rw [fe, hnp]
   simp [dT]
  have hfe : ∀ n, n ≠ o.node → find (putT l (dT o)) n = find l n := fun n hn => by
   rw [fe]
   have : (n == (dT o).node) = false := by simpa [dT] using hn
   rw [this]; rfl
  refine ⟨by rw [e]; exact hc', by rw [e, hs]; rfl, by rw [e], by rw [hunder, hs], fun n hn => by rw [e]; exact hfe n hn, fun _ => by rw [e]; exact hfn, ?_⟩
  rw [e]
  have hwas : (wasOf ⟨o, true, find l o.node⟩).node = o.node := by
   unfold wasOf
   cases hz : (find l o.node).node == 0 with
   | true => rfl
   | false => exact (jC (by simpa using hz)).1
  have hback : putT (putT l (dT o)) (wasOf ⟨o, true, find l o.node⟩) = l := by
   unfold wasOf
   cases hz : (find l o.node).node == 0 with
   | true =>
    simp only [cond_true]
    have hz : (find l o.node).node = 0 := by simpa using hz
    have hz2 : find l o.node = ⟨0, 0, 0⟩ := by
     by_cases hm : ∃ p ∈ l, p.node = o.node
     ·obtain ⟨p, hp, hpn⟩ := hm
      rw [← hpn, lb hT.up p hp] at hz
      have := hT.node p hp
      omega
     ·exact kL fun p hp hpn => hm ⟨p, hp, hpn⟩
    have hneg : (⟨o.node, -1, 0⟩ : Place).parent < 0 := by simp
    have hsub : ∀ p ∈ putT (putT l (dT o)) ⟨o.node, -1, 0⟩, p ∈ putT l (dT o) := fun p hp => by rw [tm hneg] at hp; exact (fQ _ _ _ hp).1
    refine ni (by rw [tm hneg]; exact lR _ hT'.up) hT.up (fun p hp => hT'.node p (hsub p hp)) hT.node fun n _ => ?_
    rw [fe]
    by_cases hn : n = o.node
    ·subst hn; simp [hz2]
    ·have : (n == (⟨o.node, -1, 0⟩ : Place).node) = false := by simpa using hn
     rw [this, cond_false, hfe n hn]
   | false =>
    simp only [cond_false]
    have hz : (find l o.node).node ≠ 0 := by simpa using hz
    obtain ⟨hn0, hm0⟩ := jC hz
    have hok := nG (hT.ok _ hm0)
    have hnp2 : decide ((find l o.node).parent < 0) = false := decide_eq_false (by omega)
    refine ni (by rw [p5 (by omega)]; exact nf _ hT'.up) hT.up (fun p hp => ?_) hT.node fun n _ => ?_
    ·rw [p5 (by omega)] at hp
     rcases jw _ _ _ hp with rfl | ⟨hp, _⟩
     ·omega
     ·exact hT'.node p hp
    ·rw [fe, hnp2]
     by_cases hn : n = o.node
     ·subst hn; simp [hn0]
     ·have : (n == (find l o.node).node) = false := by rw [hn0]; simpa using hn
      rw [this, cond_false, hfe n hn]
  unfold lT
  have hx : ((wasOf ⟨o, true, find l o.node⟩).node != o.node || find (putT l (dT o)) o.node != ⟨o.node, o.parent, o.name⟩) = false := by
   rw [hwas, hfn]; simp [dT]
  simp only [hc', h2, hback, h1, hx, bne_self_eq_false, cond_false, Bool.not_true]
end Go.Proofs.YtpkaloknohpleaaGreatDoor

namespace Go.Proofs.YtpkaloknohpleaaGreatDoor
open Go Go.Proofs.YtpkaloknohpleaaGreatDoor.Fw Go.Proofs
theorem pf (p : Place) : ep p = place p := rfl
theorem gF : ∀ (l : List Place) (n : Int), ca l n = find l n
 | [], _ => rfl
 | p :: r, n => by
  have ih := gF r n
  unfold ca at ih ⊢
  rw [eE, find, ih]
theorem gz (l : List Place) (nd top : Int) : du l nd top = stands l nd top := by
 have key : ∀ (f : Nat) (nd : Int), dB l top f nd = ly l top f nd := by
  intro f
  induction f with
  | zero => intro nd; rfl
  | succ f ih => intro nd; rw [dB, ly, gF, ih]
 unfold du stands
 exact key _ nd
theorem kf (t : List Place) : ∀ l : List Place, dF t l = chk2 t l
 | [] => rfl
 | p :: r => by rw [dF, chk2, gz, kf t r]
theorem fB (t : List Place) : bx t = dz t := by
 have key : ∀ (r : List Place) (k : Nat), r = t.drop k → dn t r k = bif chk1 t (t.length - k) k != 0 then chk1 t (t.length - k) k else chk2 t t := by
  intro r
  induction r with
  | nil =>
   intro k hr
   have : t.length - k = 0 := by have := congrArg List.length hr; simp at this; omega
   rw [dn, this, chk1, kf]; rfl
  | cons p r ih =>
   intro k hr
   have hk : k < t.length := by have := congrArg List.length hr; simp at this; omega
   rw [aE hk] at hr
   obtain ⟨rfl, hr'⟩ := List.cons.inj hr
   rw [dn, show t.length - k = (t.length - (k + 1)) + 1 by omega, chk1, pf, ih (k + 1) hr']
   cases h1 : place (gt t k) != 0 with
   | true => simp only [cond_true, h1]
   | false =>
    simp only [cond_false]
    cases h2 : (decide ((k : Int) > 0) && decide ((gt t (k - 1)).node ≥ (gt t k).node)) <;> rfl
 unfold bx dz
 exact key t 0 rfl
theorem iu (l : List Place) (p : Place) : cq l p = putT l p := by
 have key : ∀ (r : List Place) (d : Bool) (acc : List Place), cA p r d acc = acc ++ put p d r := by
  intro r
  induction r with
  | nil => intro d acc; rw [cA, put]; cases d <;> simp
  | cons q r ih =>
   intro d acc
   rw [cA, put]
   cases h1 : (!d && decide (q.node ≥ p.node)) <;> cases h2 : q.node != p.node <;> simp only [cond_true, cond_false, ih, List.append_assoc, List.cons_append, List.nil_append]
 unfold cq putT
 exact (key l _ []).trans (List.nil_append _)
theorem mK (l : List Place) : fK l = l := rfl
theorem ek (o : Op) : ck o = chkO o := rfl
theorem mq (l : List Place) (o : Op) : cI l o = eT l o := by
 unfold cI eT
 rw [fB, gz, ek, mK, iu, gF]
 rfl
theorem qh (l : List Place) (s : Step) : cn l s = lT l s := by
 unfold cn lT wasOf
 simp only [fB, ek, mK, iu, gF]
 cases s.was.node == 0 <;> rfl
theorem qG : ∀ (m l : List Place), eY m l = m.foldl putT l
 | [], _ => rfl
 | p :: r, l => by rw [eY, iu, qG r]; rfl
theorem All_eq (v : View) : cd v = v.way.foldl putT v.known := qG _ _
theorem pe (v : View) : bv v = bif bL v.roots != 0 then bL v.roots else bif dz v.known != 0 then dz v.known else bif dz v.way != 0 then dz v.way else
  bif ((bW (cd v) v.roots).2 == 0 && !(eD (bW (cd v) v.roots).1 v)) then 4 else (bW (cd v) v.roots).2 := by
 unfold bv et es er
 rw [fB, fB]
theorem t8 (v : View) : eD v v = true := by simp [eD]
theorem rZ (v w : View) : eD v w = true ↔ v = w := by
 obtain ⟨a, b, c⟩ := v; obtain ⟨d, e, f⟩ := w
 simp [eD, and_assoc]
end Go.Proofs.YtpkaloknohpleaaGreatDoor
