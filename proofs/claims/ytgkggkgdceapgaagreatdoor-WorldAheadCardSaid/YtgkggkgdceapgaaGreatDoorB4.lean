/- Part of this claim. No condition. -/
import Derived.Test.YtgkggkgdceapgaaGreatDoorB3
import Derived.Test.YtgkggkgdceapgaaGreatDoorB2
set_option linter.unusedVariables false
set_option linter.unusedSimpArgs false
set_option maxHeartbeats 2000000
namespace Go.Proofs.YtgkggkgdceapgaaGreatDoor
open Go Go.Proofs.YtgkggkgdceapgaaGreatDoor.Fw Go.Proofs
attribute [local irreducible] RW CW
def eM (p1 : Place) : Int :=
 (bif (((((decide (p1.node < 1) || decide (p1.node ≥ 16)) || decide (p1.parent < 0)) || decide (p1.parent > 16)) || decide (p1.name < 0)) || decide (p1.name > 99)) then 3 else 0)
theorem nH (p1 : Place) : Does Tryz.prog 75 [.agg ⟨[.int .i64 p1.node, .int .i64 p1.parent, .int .i64 p1.name]⟩] [] (fun (_ : Unit) => .int .i64 (eM p1)) (fun _ => []) := by
 refine bd aV Tryz.func75 rfl Tryz.ntmps75 Tryz.results75 rfl inferInstance (fun _ => inferInstance) fun C => ?_
 refine Tx ?_
 refine Bx fun g1 => ?_
 refine Tx ?_
 refine Cd (b := (((((decide (p1.node < 1) || decide (p1.node ≥ 16)) || decide (p1.parent < 0)) || decide (p1.parent > 16)) || decide (p1.name < 0)) || decide (p1.name > 99))) (fun hc1 => ?_) fun hc1 => ?_
 ·refine Tx ?_
  refine ak ?_; simp only [eM, hc1, Cf]; exact Re () (Vt Vn)
 ·refine Tx ?_
  refine ak ?_; simp only [eM, hc1, Cf]; exact Re () (Vt Vn)
def e6 (node1 : Int) : List Place → Place
 | [] => (⟨0, 0, 0⟩ : Place)
 | pn1 :: rn1 => (bif (pn1.node == node1) then pn1 else (e6 node1 rn1))
def cH (t1 : List Place) (node1 : Int) : Place :=
 (e6 node1 t1)
theorem eK (y1 : SlV) (t1 : List Place) (node1 : Int) : Does Tryz.prog 24 [.agg ⟨[y1.val t1.length]⟩, .int .i64 node1] [RdL EPlace y1 t1] (fun (_ : Unit) => .agg ⟨[.int .i64 (cH t1 node1).node, .int .i64 (cH t1 node1).parent, .int .i64 (cH t1 node1).name]⟩) (fun _ => []) := by
 refine bd aV Tryz.func24 rfl Tryz.ntmps24 Tryz.results24 rfl inferInstance (fun _ => inferInstance) fun C => ?_
 refine Pc EPlace y1 t1 24 fun hlen1 => ?_
 refine Tx ?_
 refine Bx fun g1 => ?_
 refine Al fun g2 => ?_
 refine Tx ?_
 (repeat refine ar ?_); refine Lp [1,4,8,9] [true, true] (fun (n1 : Nat) => (⟨[(10, .v (.int .i64 (n1 : Int)))], [], [], [], (n1 ≤ t1.length) ∧ (e6 node1 (t1.drop n1)) = (cH t1 node1), t1.length - n1⟩ : Ls)) 0 (Sc (Sc (Sc (Sc Sn)))) (.keep (.keep (.nil))) ⟨Nat.zero_le _, (by simp only [cH, Cf] : (cH t1 node1) = (e6 node1 t1)).symm⟩ Le4 ?_
 rintro n1 ⟨hkn1, hf1⟩
 simp only [List.cons_append, List.nil_append]
 refine Tx ?_
 refine Cd (b := decide ((n1 : Int) < (t1.length : Int))) (fun hc1 => ?_) fun hc1 => ?_
 ·have hlt0 : n1 < t1.length := Int.ofNat_lt.1 (of_decide_eq_true hc1)
  refine Tx ?_
  refine rw_q rfl rfl rfl (q_idx EPlace n1 rfl rfl Zf rfl Zf rfl rfl rfl Mm rfl Zf (fun _ => by first | assumption | omega)) ?_
  refine rw_q rfl rfl rfl (q_leA EPlace rfl rfl Zf rfl rfl Mm (fun _ => by first | assumption | omega)) ?_
  refine Al fun g3 => ?_
  refine Tx ?_
  refine Cd (b := ((gt t1 n1).node == node1)) (fun hc2 => ?_) fun hc2 => ?_
  ·have hc2p := eq_of_beq hc2
   refine Tx ?_
   refine ak ?_; rw [show (cH t1 node1) = (gt t1 n1) by rw [← hf1, aI hlt0]; simp only [e6, hc2, Cf]]; exact Re () (Va Vn)
  ·have hc2p := ne_of_beq_false hc2
   refine Tx ?_
   refine rw_q rfl rfl rfl (q_add rfl rfl Zf rfl Zf Zo) ?_
   refine Tx ?_
   refine ⟨(n1 + 1), ⟨hlt0, (by rw [← hf1, aI hlt0]; simp only [e6, hc2, Cf] : (cH t1 node1) = (e6 node1 (t1.drop (n1 + 1)))).symm⟩, (by simp only []; omega), Le4⟩
 ·have hge0 : t1.length ≤ n1 := by have := of_decide_eq_false hc1; omega
  refine Tx ?_
  refine ak ?_; rw [show (cH t1 node1) = (⟨0, 0, 0⟩ : Place) by rw [← hf1, List.drop_of_length_le hge0]; simp only [e6, Cf]]; exact Re () (Va Vn)
def dW (t1 : List Place) (top1 : Int) : Nat → Int → Bool
 | 0, node2 => false
 | fn1 + 1, node2 => (bif (node2 == top1) then true else (bif ((cH t1 node2).node == 0) then false else (dW t1 top1 fn1 (cH t1 node2).parent)))
def dJ (t1 : List Place) (node1 : Int) (top1 : Int) : Bool :=
 (dW t1 top1 ((t1.length + 1) - 0) node1)
theorem fC (y1 : SlV) (t1 : List Place) (node1 : Int) (top1 : Int) : Does Tryz.prog 50 [.agg ⟨[y1.val t1.length]⟩, .int .i64 node1, .int .i64 top1] [RdL EPlace y1 t1] (fun (_ : Unit) => .bool (dJ t1 node1 top1)) (fun _ => []) := by
 refine bd aV Tryz.func50 rfl Tryz.ntmps50 Tryz.results50 rfl inferInstance (fun _ => inferInstance) fun C => ?_
 refine Pc EPlace y1 t1 24 fun hlen1 => ?_
 refine Tx ?_
 refine Bx fun g1 => ?_
 refine Tx ?_
 refine rw_q rfl rfl rfl (q_add rfl rfl Zf rfl Zf Zo) ?_
 refine Tx ?_
 (repeat refine ar ?_); refine Lp [2,3,6,11] [true] (fun (i_ : Int × Nat) => match i_ with | ⟨node2, n1⟩ => (⟨[(1, .v (.int .i64 node2)), (12, .v (.int .i64 (n1 : Int)))], [], [], [], (n1 ≤ (t1.length + 1)) ∧ (dW t1 top1 ((t1.length + 1) - n1) node2) = (dJ t1 node1 top1), (t1.length + 1) - n1⟩ : Ls)) ⟨node1, 0⟩ (Sc (Sc (Sc (Sc Sn)))) (.keep (.nil)) ⟨(Nat.zero_le _), (by simp only [dJ, Cf] : (dJ t1 node1 top1) = (dW t1 top1 ((t1.length + 1) - 0) node1)).symm⟩ Le4 ?_
 rintro ⟨node2, n1⟩ ⟨hkn1, hf1⟩
 simp only [List.cons_append, List.nil_append]
 refine Tx ?_
 refine Cd (b := decide ((n1 : Int) < ((t1.length : Int) + 1))) (fun hc1 => ?_) fun hc1 => ?_
 ·have hlt0 : n1 < (t1.length + 1) := by have := of_decide_eq_true hc1; omega
  have hlt0_ : (t1.length + 1) - n1 = ((t1.length + 1) - (n1 + 1)) + 1 := by omega
  refine Tx ?_
  refine Cd (b := (node2 == top1)) (fun hc2 => ?_) fun hc2 => ?_
  ·have hc2p := eq_of_beq hc2
   refine Tx ?_
   refine ak ?_; rw [show (dJ t1 node1 top1) = true by rw [← hf1]; (conv => lhs; rw [hlt0_]); simp only [dW, hc2, Cf]]; exact Re () (Vt Vn)
  ·have hc2p := ne_of_beq_false hc2
   refine Tx ?_
   refine Cl (eK y1 t1 node2) fun _ => ?_
   refine Al fun g2 => ?_
   refine Tx ?_
   refine Cd (b := ((cH t1 node2).node == 0)) (fun hc3 => ?_) fun hc3 => ?_
   ·have hc3p := eq_of_beq hc3
    refine Tx ?_
    refine ak ?_; rw [show (dJ t1 node1 top1) = false by rw [← hf1]; (conv => lhs; rw [hlt0_]); simp only [dW, hc2, hc3, Cf]]; exact Re () (Vt Vn)
   ·have hc3p := ne_of_beq_false hc3
    refine Tx ?_
    refine rw_q rfl rfl rfl (q_add rfl rfl Zf rfl Zf Zo) ?_
    refine Tx ?_
    refine ⟨⟨(cH t1 node2).parent, (n1 + 1)⟩, ⟨hlt0, (by rw [← hf1]; (conv => lhs; rw [hlt0_]); simp only [dW, hc2, hc3, Cf] : (dJ t1 node1 top1) = (dW t1 top1 ((t1.length + 1) - (n1 + 1)) (cH t1 node2).parent)).symm⟩, (by simp only []; omega), Le4⟩
 ·have hge0 : (t1.length + 1) ≤ n1 := by have := of_decide_eq_false hc1; omega
  have hge0_ : (t1.length + 1) - n1 = 0 := by omega
  refine Tx ?_
  refine ak ?_; rw [show (dJ t1 node1 top1) = false by rw [← hf1, hge0_]; simp only [dW, Cf]]; exact Re () (Vt Vn)
def d7 (t1 : List Place) : List Place → Int
 | [] => 0
 | pn2 :: rn2 => (bif (dJ t1 pn2.parent pn2.node) then 4 else (d7 t1 rn2))
def dG (t1 : List Place) : List Place → Nat → Int
 | [], n1 => (d7 t1 t1)
 | pn1 :: rn1, n1 => (bif ((eM pn1) != 0) then (eM pn1) else (bif (decide ((n1 : Int) > 0) && decide ((gt t1 (n1 - 1)).node ≥ pn1.node)) then 6 else (dG t1 rn1 (n1 + 1))))
def bx (t1 : List Place) : Int :=
 (dG t1 t1 0)
theorem ez (y1 : SlV) (t1 : List Place) : Does Tryz.prog 49 [.agg ⟨[y1.val t1.length]⟩] [RdL EPlace y1 t1] (fun (_ : Unit) => .int .i64 (bx t1)) (fun _ => []) := by
 refine bd aV Tryz.func49 rfl Tryz.ntmps49 Tryz.results49 rfl inferInstance (fun _ => inferInstance) fun C => ?_
 refine Pc EPlace y1 t1 24 fun hlen1 => ?_
 refine Tx ?_
 refine Bx fun g1 => ?_
 refine Tx ?_
 (repeat refine ar ?_); refine Lp [1,2,9,10] [true] (fun (n1 : Nat) => (⟨[(11, .v (.int .i64 (n1 : Int)))], [], [], [], (n1 ≤ t1.length) ∧ (dG t1 (t1.drop n1) n1) = (bx t1), t1.length - n1⟩ : Ls)) 0 (Sc (Sc (Sc (Sc Sn)))) (.keep (.nil)) ⟨Nat.zero_le _, (by simp only [bx, Cf] : (bx t1) = (dG t1 t1 0)).symm⟩ Le4 ?_
 rintro n1 ⟨hkn1, hf1⟩
 simp only [List.cons_append, List.nil_append]
 refine Tx ?_
 refine Cd (b := decide ((n1 : Int) < (t1.length : Int))) (fun hc1 => ?_) fun hc1 => ?_
 ·have hlt0 : n1 < t1.length := Int.ofNat_lt.1 (of_decide_eq_true hc1)
  refine Tx ?_
  refine rw_q rfl rfl rfl (q_idx EPlace n1 rfl rfl Zf rfl Zf rfl rfl rfl Mm rfl Zf (fun _ => by first | assumption | omega)) ?_
  refine rw_q rfl rfl rfl (q_leA EPlace rfl rfl Zf rfl rfl Mm (fun _ => by first | assumption | omega)) ?_
  refine Al fun g2 => ?_
  refine Tx ?_
  refine Cl (nH (gt t1 n1)) fun _ => ?_
  refine Tx ?_
  refine Cd (b := ((eM (gt t1 n1)) != 0)) (fun hc2 => ?_) fun hc2 => ?_
  ·have hc2p := bne_iff_ne.1 hc2
   refine Tx ?_
   refine ak ?_; rw [show (bx t1) = (eM (gt t1 n1)) by rw [← hf1, aI hlt0]; simp only [dG, hc2, Cf]]; exact Re () (Vt Vn)
  ·have hc2p := ag hc2
   refine Tx ?_
   (repeat refine ar ?_); refine aw (fun _ => some []) ?_
   refine Rb 0 rfl Qp ?_
   refine Rb 1 rfl Qp ?_
   refine Ra 2 rfl Qp ?_
   refine Gb 3 rfl (au rfl rfl rfl) (q_pev rfl Bt) ?_
   refine Gb 4 rfl (au rfl rfl rfl) (q_ld1 rfl rfl Bt rfl Mm rfl) ?_
   refine Gb 5 rfl (au rfl rfl rfl) (q_pev rfl Bt) ?_
   refine Gb 6 rfl (au rfl rfl rfl) (q_sub rfl rfl Bt rfl Bt (by intro h; first | omega | (simp at h; omega))) ?_
   refine Gb 7 rfl (au rfl rfl rfl) (q_idx EPlace (n1 - 1) rfl rfl Bt rfl Bt rfl rfl rfl Mm rfl (by intro h; first | omega | rfl | (simp at h; omega)) (by first | (intro _; first | assumption | omega) | (intro h; simp at h; omega))) ?_
   refine Gb 8 rfl (au rfl rfl rfl) (q_fae rfl rfl Bt rfl rfl) ?_
   refine Gb 9 rfl (au rfl rfl rfl) (q_le1 EPlace rfl rfl Bt rfl rfl Mm (by first | (intro _; first | assumption | omega) | (intro h; simp at h; omega)) rfl) ?_
   refine Gb 10 rfl (au rfl rfl rfl) (q_pev rfl Bt) ?_
   refine Gb 11 rfl (au rfl rfl rfl) (q_ld1 rfl rfl Bt rfl Mm rfl) ?_
   refine Ga 12 rfl (au rfl rfl rfl) (q_pev rfl Bt) ?_
   refine Ra 13 rfl (q_pev rfl Bt) ?_
   refine bj Kr ?_
   (repeat refine ar ?_)
   refine Cd (b := (decide ((n1 : Int) > 0) && decide ((gt t1 (n1 - 1)).node ≥ (gt t1 n1).node))) (fun hc3 => ?_) fun hc3 => ?_
   ·refine Tx ?_
    refine ak ?_; rw [show (bx t1) = 6 by rw [← hf1, aI hlt0]; simp only [dG, hc2, hc3, Cf]]; exact Re () (Vt Vn)
   ·refine Tx ?_
    refine rw_q rfl rfl rfl (q_add rfl rfl Zf rfl Zf Zo) ?_
    refine Tx ?_
    refine ⟨(n1 + 1), ⟨hlt0, (by rw [← hf1, aI hlt0]; simp only [dG, hc2, hc3, Cf] : (bx t1) = (dG t1 (t1.drop (n1 + 1)) (n1 + 1))).symm⟩, (by simp only []; omega), Le4⟩
 ·have hge0 : t1.length ≤ n1 := by have := of_decide_eq_false hc1; omega
  refine Tx ?_
  (repeat refine ar ?_); refine Lp [1,2,37,38] [true] (fun (n2 : Nat) => (⟨[(39, .v (.int .i64 (n2 : Int)))], [], [], [], (n2 ≤ t1.length) ∧ (d7 t1 (t1.drop n2)) = (bx t1), t1.length - n2⟩ : Ls)) 0 (Sc (Sc (Sc (Sc Sn)))) (.keep (.nil)) ⟨Nat.zero_le _, (by rw [← hf1, List.drop_of_length_le hge0]; simp only [dG, Cf] : (bx t1) = (d7 t1 t1)).symm⟩ Le4 ?_
  rintro n2 ⟨hkn2, hf2⟩
  simp only [List.cons_append, List.nil_append]
  refine Tx ?_
  refine Cd (b := decide ((n2 : Int) < (t1.length : Int))) (fun hc4 => ?_) fun hc4 => ?_
  ·have hlt1 : n2 < t1.length := Int.ofNat_lt.1 (of_decide_eq_true hc4)
   refine Tx ?_
   refine rw_q rfl rfl rfl (q_idx EPlace n2 rfl rfl Zf rfl Zf rfl rfl rfl Mm rfl Zf (fun _ => by first | assumption | omega)) ?_
   refine rw_q rfl rfl rfl (q_leA EPlace rfl rfl Zf rfl rfl Mm (fun _ => by first | assumption | omega)) ?_
   refine Al fun g3 => ?_
   refine Tx ?_
   refine Cl (fC y1 t1 (gt t1 n2).parent (gt t1 n2).node) fun _ => ?_
   refine er ?_
   (repeat refine ar ?_)
   refine Cd (b := (dJ t1 (gt t1 n2).parent (gt t1 n2).node)) (fun hc5 => ?_) fun hc5 => ?_
   ·refine Tx ?_
    refine ak ?_; rw [show (bx t1) = 4 by rw [← hf2, aI hlt1]; simp only [d7, hc5, Cf]]; exact Re () (Vt Vn)
   ·refine Tx ?_
    refine rw_q rfl rfl rfl (q_add rfl rfl Zf rfl Zf Zo) ?_
    refine Tx ?_
    refine ⟨(n2 + 1), ⟨hlt1, (by rw [← hf2, aI hlt1]; simp only [d7, hc5, Cf] : (bx t1) = (d7 t1 (t1.drop (n2 + 1)))).symm⟩, (by simp only []; omega), Le4⟩
  ·have hge1 : t1.length ≤ n2 := by have := of_decide_eq_false hc4; omega
   refine Tx ?_
   refine ak ?_; rw [show (bx t1) = 0 by rw [← hf2, List.drop_of_length_le hge1]; simp only [d7, Cf]]; exact Re () (Vt Vn)
def gh (t1 : List Place) : List Place :=
 t1
theorem jw (y1 : SlV) (t1 : List Place) : DoesG Tryz.prog 74 [.agg ⟨[y1.val t1.length]⟩] [RdL EPlace y1 t1] ⟨[], []⟩ (fun (X : SlV × Option Nat) => .agg ⟨[X.1.val (gh t1).length]⟩) (fun X => []) (fun X => ⟨[], [ownL EPlace 82 X.1 X.2 (gh t1)]⟩) := by
 refine cF aV Tryz.func74 rfl Tryz.ntmps74 Tryz.results74 rfl inferInstance (fun _ => inferInstance) fun C => ?_
 refine Pc EPlace y1 t1 24 fun hlen1 => ?_
 refine Tx ?_
 refine Bx fun g1 => ?_
 refine Al fun g2 => ?_
 refine Tx ?_
 refine Cg (du y1 t1) fun x1 => ?_
 refine Tx ?_
 refine ak ?_; simp only [gh, Cf]; exact Re ⟨x1.1, x1.2⟩ (Va Vn)
def fi (t1 : List Place) (node1 : Int) (top1 : Int) : Bool × Int :=
 (bif ((bx t1) != 0) then (false, (bx t1)) else (bif (((decide (node1 < 0) || decide (node1 > 16)) || decide (top1 < 0)) || decide (top1 > 16)) then (false, 5) else ((dJ t1 node1 top1), 0)))
theorem nI (y1 : SlV) (t1 : List Place) (node1 : Int) (top1 : Int) : Does Tryz.prog 22 [.agg ⟨[y1.val t1.length]⟩, .int .i64 node1, .int .i64 top1] [RdL EPlace y1 t1] (fun (_ : Unit) => .tuple #[.bool (fi t1 node1 top1).1, .int .i64 (fi t1 node1 top1).2]) (fun _ => []) := by
 refine bd aV Tryz.func22 rfl Tryz.ntmps22 Tryz.results22 rfl inferInstance (fun _ => inferInstance) fun C => ?_
 refine Pc EPlace y1 t1 24 fun hlen1 => ?_
 refine Tx ?_
 refine Bx fun g1 => ?_
 refine Tx ?_
 refine Cl (ez y1 t1) fun _ => ?_
 refine Tx ?_
 refine Cd (b := ((bx t1) != 0)) (fun hc1 => ?_) fun hc1 => ?_
 ·have hc1p := bne_iff_ne.1 hc1
  refine Tx ?_
  refine ak ?_; simp only [fi, hc1, Cf]; exact Re () (Vt (Vt Vn))
 ·have hc1p := ag hc1
  refine Tx ?_
  refine Cd (b := (((decide (node1 < 0) || decide (node1 > 16)) || decide (top1 < 0)) || decide (top1 > 16))) (fun hc2 => ?_) fun hc2 => ?_
  ·refine Tx ?_
   refine ak ?_; simp only [fi, hc1, hc2, Cf]; exact Re () (Vt (Vt Vn))
  ·refine Tx ?_
   refine Cl (fC y1 t1 node1 top1) fun _ => ?_
   refine Tx ?_
   refine ak ?_; simp only [fi, hc1, hc2, Cf]; exact Re () (Vt (Vt Vn))
def cT (p1 : Place) : List Place → Bool → (List Place) → (List Place)
 | [], done1, p2 => (bif (!done1) then (p2 ++ [p1]) else p2)
 | pn1 :: rn1, done1, p2 => (bif ((!done1) && decide (pn1.node ≥ p1.node)) then (bif (pn1.node != p1.node) then (cT p1 rn1 true ((p2 ++ [p1]) ++ [pn1])) else (cT p1 rn1 true (p2 ++ [p1]))) else (bif (pn1.node != p1.node) then (cT p1 rn1 done1 (p2 ++ [pn1])) else (cT p1 rn1 done1 p2)))
def cG (t1 : List Place) (p1 : Place) : List Place :=
 (cT p1 t1 (decide (p1.parent < 0)) [])
theorem fV (y1 : SlV) (t1 : List Place) (p1 : Place) (hl : t1.length ≤ 1000000) : Does Tryz.prog 73 [.agg ⟨[y1.val t1.length]⟩, .agg ⟨[.int .i64 p1.node, .int .i64 p1.parent, .int .i64 p1.name]⟩] [RdL EPlace y1 t1] (fun (X : SlV) => .agg ⟨[X.val (cG t1 p1).length]⟩) (fun X => [RdL EPlace X (cG t1 p1)]) := by
 refine bd aV Tryz.func73 rfl Tryz.ntmps73 Tryz.results73 rfl inferInstance (fun _ => inferInstance) fun C => ?_
 refine Pc EPlace y1 t1 24 fun hlen1 => ?_
 refine Tx ?_
 refine Bx fun g1 => ?_
 refine Bx fun g2 => ?_
 refine Al fun g3 => ?_
 refine Tx ?_
 refine Al fun g4 => ?_
 refine Tx ?_
 (repeat refine ar ?_); refine Lp [3,4,5,13,14] [false, true, true, true] (fun (i_ : Bool × Nat × List Place × SlV × Option Nat) => match i_ with | ⟨done1, n1, p2, x1, x1b⟩ => (⟨[(6, .v (.bool done1)), (15, .v (.int .i64 (n1 : Int)))], [⟨g4, 25, [x1.val p2.length]⟩], [ownL EPlace 82 x1 x1b p2], [], (n1 ≤ t1.length) ∧ (p2.length ≤ 2 * n1) ∧ (cT p1 (t1.drop n1) done1 p2) = (cG t1 p1), t1.length - n1⟩ : Ls)) ⟨decide (p1.parent < 0), 0, [], ⟨none, 0⟩, none⟩ (Sc (Sc (Sc (Sc (Sc Sn))))) (.drop (.keep (.keep (.keep (.nil))))) ⟨Nat.zero_le _, (by first | exact Nat.le_refl _ | exact Nat.zero_le _ | omega), (by simp only [cG, Cf] : (cG t1 p1) = (cT p1 t1 (decide (p1.parent < 0)) [])).symm⟩ (Le.trans (fk EPlace 82) Le4) ?_
 rintro ⟨done1, n1, p2, x1, x1b⟩ ⟨hkn1, hp2, hf1⟩
 simp only [List.cons_append, List.nil_append]
 refine Tx ?_
 refine Cd (b := decide ((n1 : Int) < (t1.length : Int))) (fun hc1 => ?_) fun hc1 => ?_
 ·have hlt0 : n1 < t1.length := Int.ofNat_lt.1 (of_decide_eq_true hc1)
  refine Tx ?_
  refine rw_q rfl rfl rfl (q_idx EPlace n1 rfl rfl Zf rfl Zf rfl rfl rfl Mm rfl Zf (fun _ => by first | assumption | omega)) ?_
  refine rw_q rfl rfl rfl (q_leA EPlace rfl rfl Zf rfl rfl Mm (fun _ => by first | assumption | omega)) ?_
  refine Al fun g5 => ?_
  refine Tx ?_
  refine Cd (b := ((!done1) && decide ((gt t1 n1).node ≥ p1.node))) (fun hc2 => ?_) fun hc2 => ?_
  ·refine Tx ?_
   refine bA EPlace [p1] .sq (ae rfl) rfl rfl rfl rfl rfl rfl rfl rfl rfl rfl rfl rfl rfl rfl rfl fun x2 x2b => ?_
   refine cg EPlace p2 [p1] (b := x1b) .sq (fun _ _ => .inl ⟨_, rfl⟩) (ae rfl) rfl rfl rfl rfl rfl rfl rfl (fun _ _ => Uo) rfl rfl rfl rfl rfl rfl rfl (dC (e := 82) (b := x2b) Mm) (by show (p2.length + 1) * 24 ≤ 140737488355328; (try simp only [List.length_append, List.length_cons, List.length_nil]); omega) fun x3 x3b => ?_
   refine Tx ?_
   refine Cd (b := ((gt t1 n1).node != p1.node)) (fun hc3 => ?_) fun hc3 => ?_
   ·have hc3p := bne_iff_ne.1 hc3
    refine Tx ?_
    refine bA EPlace [(gt t1 n1)] .sq (ae rfl) rfl rfl rfl rfl rfl rfl rfl rfl rfl rfl rfl rfl rfl rfl rfl fun x4 x4b => ?_
    refine cg EPlace (p2 ++ [p1]) [(gt t1 n1)] (b := x3b) .sq (fun _ _ => .inl ⟨_, rfl⟩) (ae rfl) rfl rfl rfl rfl rfl rfl rfl (fun _ _ => Uo) rfl rfl rfl rfl rfl rfl rfl (dC (e := 82) (b := x4b) Mm) (by show ((p2 ++ [p1]).length + 1) * 24 ≤ 140737488355328; (try simp only [List.length_append, List.length_cons, List.length_nil]); omega) fun x5 x5b => ?_
    refine Tx ?_
    refine rw_q rfl rfl rfl (q_add rfl rfl Zf rfl Zf Zo) ?_
    refine Tx ?_
    refine ⟨⟨true, (n1 + 1), ((p2 ++ [p1]) ++ [(gt t1 n1)]), x5, x5b⟩, ⟨hlt0, Zl, (by rw [← hf1, aI hlt0]; simp only [cT, hc2, hc3, Cf] : (cG t1 p1) = (cT p1 (t1.drop (n1 + 1)) true ((p2 ++ [p1]) ++ [(gt t1 n1)]))).symm⟩, (by simp only []; omega), Le4⟩
   ·have hc3p := ag hc3
    refine Tx ?_
    refine rw_q rfl rfl rfl (q_add rfl rfl Zf rfl Zf Zo) ?_
    refine Tx ?_
    refine ⟨⟨true, (n1 + 1), (p2 ++ [p1]), x3, x3b⟩, ⟨hlt0, Zl, (by rw [← hf1, aI hlt0]; simp only [cT, hc2, hc3, Cf] : (cG t1 p1) = (cT p1 (t1.drop (n1 + 1)) true (p2 ++ [p1]))).symm⟩, (by simp only []; omega), Le4⟩
  ·refine Tx ?_
   refine Cd (b := ((gt t1 n1).node != p1.node)) (fun hc4 => ?_) fun hc4 => ?_
   ·have hc4p := bne_iff_ne.1 hc4
    refine Tx ?_
    refine bA EPlace [(gt t1 n1)] .sq (ae rfl) rfl rfl rfl rfl rfl rfl rfl rfl rfl rfl rfl rfl rfl rfl rfl fun x6 x6b => ?_
    refine cg EPlace p2 [(gt t1 n1)] (b := x1b) .sq (fun _ _ => .inl ⟨_, rfl⟩) (ae rfl) rfl rfl rfl rfl rfl rfl rfl (fun _ _ => Uo) rfl rfl rfl rfl rfl rfl rfl (dC (e := 82) (b := x6b) Mm) (by show (p2.length + 1) * 24 ≤ 140737488355328; (try simp only [List.length_append, List.length_cons, List.length_nil]); omega) fun x7 x7b => ?_
    refine Tx ?_
    refine rw_q rfl rfl rfl (q_add rfl rfl Zf rfl Zf Zo) ?_
    refine Tx ?_
    refine ⟨⟨done1, (n1 + 1), (p2 ++ [(gt t1 n1)]), x7, x7b⟩, ⟨hlt0, Zl, (by rw [← hf1, aI hlt0]; simp only [cT, hc2, hc4, Cf] : (cG t1 p1) = (cT p1 (t1.drop (n1 + 1)) done1 (p2 ++ [(gt t1 n1)]))).symm⟩, (by simp only []; omega), Le4⟩
   ·have hc4p := ag hc4
    refine Tx ?_
    refine rw_q rfl rfl rfl (q_add rfl rfl Zf rfl Zf Zo) ?_
    refine Tx ?_
    refine ⟨⟨done1, (n1 + 1), p2, x1, x1b⟩, ⟨hlt0, Zl, (by rw [← hf1, aI hlt0]; simp only [cT, hc2, hc4, Cf] : (cG t1 p1) = (cT p1 (t1.drop (n1 + 1)) done1 p2)).symm⟩, (by simp only []; omega), Le4⟩
 ·have hge0 : t1.length ≤ n1 := by have := of_decide_eq_false hc1; omega
  refine Tx ?_
  refine Cd (b := (!done1)) (fun hc5 => ?_) fun hc5 => ?_
  ·refine Tx ?_
   refine bA EPlace [p1] .sq (ae rfl) rfl rfl rfl rfl rfl rfl rfl rfl rfl rfl rfl rfl rfl rfl rfl fun x8 x8b => ?_
   refine cg EPlace p2 [p1] (b := x1b) .sq (fun _ _ => .inl ⟨_, rfl⟩) (ae rfl) rfl rfl rfl rfl rfl rfl rfl (fun _ _ => Uo) rfl rfl rfl rfl rfl rfl rfl (dC (e := 82) (b := x8b) Mm) (by show (p2.length + 1) * 24 ≤ 140737488355328; (try simp only [List.length_append, List.length_cons, List.length_nil]); omega) fun x9 x9b => ?_
   refine Tx ?_
   refine cw_le (aA EPlace 82 x9 x9b (p2 ++ [p1]) Uo) ?_
   refine ak ?_; rw [show (cG t1 p1) = (p2 ++ [p1]) by rw [← hf1, List.drop_of_length_le hge0]; simp only [cT, hc5, Cf]]; exact Re x9 (Va Vn)
  ·refine Tx ?_
   refine cw_le (aA EPlace 82 x1 x1b p2 Uo) ?_
   refine ak ?_; rw [show (cG t1 p1) = p2 by rw [← hf1, List.drop_of_length_le hge0]; simp only [cT, hc5, Cf]]; exact Re x1 (Va Vn)
def cx (o1 : Op) : Int :=
 (bif (((((((((((((decide (o1.time < 1) || decide (o1.time > 10000)) || decide (o1.who < 0)) || decide (o1.who ≥ 3)) || decide (o1.node < 1)) || decide (o1.node ≥ 16)) || decide (o1.parent < 0)) || decide (o1.parent > 16)) || decide (o1.name < 0)) || decide (o1.name > 99)) || decide (o1.life < 1)) || decide (o1.life > 50)) || decide (o1.seq < 1)) || decide (o1.seq > 30)) then 3 else 0)
theorem eC (o1 : Op) : Does Tryz.prog 69 [.agg ⟨[.int .i64 o1.time, .int .i64 o1.who, .int .i64 o1.node, .int .i64 o1.parent, .int .i64 o1.name, .int .i64 o1.life, .int .i64 o1.seq]⟩] [] (fun (_ : Unit) => .int .i64 (cx o1)) (fun _ => []) := by
 refine bd aV Tryz.func69 rfl Tryz.ntmps69 Tryz.results69 rfl inferInstance (fun _ => inferInstance) fun C => ?_
 refine Tx ?_
 refine Bx fun g1 => ?_
 refine Tx ?_
 refine Cd (b := (((((((((((((decide (o1.time < 1) || decide (o1.time > 10000)) || decide (o1.who < 0)) || decide (o1.who ≥ 3)) || decide (o1.node < 1)) || decide (o1.node ≥ 16)) || decide (o1.parent < 0)) || decide (o1.parent > 16)) || decide (o1.name < 0)) || decide (o1.name > 99)) || decide (o1.life < 1)) || decide (o1.life > 50)) || decide (o1.seq < 1)) || decide (o1.seq > 30))) (fun hc1 => ?_) fun hc1 => ?_
 ·refine Tx ?_
  refine ak ?_; simp only [cx, hc1, Cf]; exact Re () (Vt Vn)
 ·refine Tx ?_
  refine ak ?_; simp only [cx, hc1, Cf]; exact Re () (Vt Vn)
def fe (a1 : Stamp) (b1 : Stamp) : Bool :=
 (decide (a1.time < b1.time) || ((a1.time == b1.time) && decide (a1.who < b1.who)))
theorem ip (a1 : Stamp) (b1 : Stamp) : Does Tryz.prog 129 [.agg ⟨[.int .i64 a1.time, .int .i64 a1.who]⟩, .agg ⟨[.int .i64 b1.time, .int .i64 b1.who]⟩] [] (fun (_ : Unit) => .bool (fe a1 b1)) (fun _ => []) := by
 refine bd aV Tryz.func129 rfl Tryz.ntmps129 Tryz.results129 rfl inferInstance (fun _ => inferInstance) fun C => ?_
 refine Tx ?_
 refine Bx fun g1 => ?_
 refine Bx fun g2 => ?_
 refine Tx ?_
 refine ak ?_; simp only [fe, Cf]; exact Re () (Vt Vn)
end Go.Proofs.YtgkggkgdceapgaaGreatDoor

namespace Go.Proofs.YtgkggkgdceapgaaGreatDoor
open Go Go.Proofs.YtgkggkgdceapgaaGreatDoor.Fw Go.Proofs
theorem rS {p : Place} (h : eM p = 0) : 1 ≤ p.node ∧ p.node < 16 ∧ 0 ≤ p.parent ∧ p.parent ≤ 16 ∧ 0 ≤ p.name ∧ p.name ≤ 99 := by
 unfold eM at h
 cases hb : (((((decide (p.node < 1) || decide (p.node ≥ 16)) || decide (p.parent < 0)) || decide (p.parent > 16)) || decide (p.name < 0)) || decide (p.name > 99)) with
 | true => rw [hb] at h; simp at h
 | false => simp at hb; omega
theorem kA (t : List Place) : ∀ (r : List Place) (k : Nat), r = t.drop k → dG t r k = 0 →
  (∀ i, k ≤ i → i < t.length → eM (gt t i) = 0) ∧ (∀ i, k ≤ i → i < t.length → 0 < i → (gt t (i - 1)).node < (gt t i).node) ∧ d7 t t = 0
 | [], k, hr, h => by
  have : t.length ≤ k := by have := congrArg List.length hr; simp at this; omega
  exact ⟨fun i h1 h2 => by omega, fun i h1 h2 => by omega, h⟩
 | p :: r, k, hr, h => by
  have hk : k < t.length := by have := congrArg List.length hr; simp at this; omega
  rw [aI hk] at hr
  obtain ⟨rfl, hr'⟩ := List.cons.inj hr
  rw [dG] at h
  cases h1 : (eM (gt t k) != 0) with
  | true => rw [h1, cond_true] at h; rw [h] at h1; simp at h1
  | false =>
   rw [h1, cond_false] at h
   cases h2 : (decide ((k : Int) > 0) && decide ((gt t (k - 1)).node ≥ (gt t k).node)) with
   | true => rw [h2] at h; simp at h
   | false =>
    rw [h2, cond_false] at h
    obtain ⟨ha, hb, hc⟩ := kA t r (k + 1) hr' h
    refine ⟨fun i hi hl => ?_, fun i hi hl hp => ?_, hc⟩
    ·by_cases he : i = k
     ·subst he; simpa using h1
     ·exact ha i (by omega) hl
    ·by_cases he : i = k
     ·subst he
      have : (0 : Int) < (i : Int) := by omega
      simp [this] at h2
      omega
     ·exact hb i (by omega) hl hp
theorem pA {t : List Place} (h : bx t = 0) : (∀ i, i < t.length → eM (gt t i) = 0) ∧ (∀ i, i < t.length → 0 < i → (gt t (i - 1)).node < (gt t i).node) ∧ d7 t t = 0 := by
 obtain ⟨a, b, c⟩ := kA t t 0 rfl h
 exact ⟨fun i hi => a i (Nat.zero_le _) hi, fun i hi hp => b i (Nat.zero_le _) hi hp, c⟩
theorem le {t : List Place} (h : bx t = 0) : t.length ≤ 15 := by
 obtain ⟨ha, hb, _⟩ := pA h
 have key : ∀ i, i < t.length → (i : Int) + 1 ≤ (gt t i).node := by
  intro i
  induction i with
  | zero => intro hi; have := (rS (ha 0 hi)).1; omega
  | succ i ih =>
   intro hi
   have h1 := ih (by omega)
   have h2 := hb (i + 1) hi (by omega)
   simp at h2
   omega
 by_cases hl : t.length ≤ 15
 ·exact hl
 ·have h1 := key 15 (by omega)
  have h2 := rS (ha 15 (by omega))
  omega
theorem pC (t : List Place) (h : bx t = 0) : t.length ≤ 1000000 := Nat.le_trans (le h) (by omega)
end Go.Proofs.YtgkggkgdceapgaaGreatDoor

set_option maxHeartbeats 2000000
namespace Go.Proofs.YtgkggkgdceapgaaGreatDoor
open Go Go.Proofs.YtgkggkgdceapgaaGreatDoor.Fw Go.Proofs
attribute [local irreducible] RW CW
def cw (t1 : List Place) (o1 : Op) : (List Place) × Step × Int :=
 (bif ((bx t1) != 0) then (([] : List Place), (⟨(⟨0, 0, 0, 0, 0, 0, 0⟩ : Op), false, (⟨0, 0, 0⟩ : Place)⟩ : Step), (bx t1)) else (bif ((cx o1) != 0) then (([] : List Place), (⟨(⟨0, 0, 0, 0, 0, 0, 0⟩ : Op), false, (⟨0, 0, 0⟩ : Place)⟩ : Step), (cx o1)) else (bif (dJ t1 o1.parent o1.node) then ((gh t1), (⟨o1, false, (cH t1 o1.node)⟩ : Step), 0) else ((cG t1 (⟨o1.node, o1.parent, o1.name⟩ : Place)), (⟨o1, true, (cH t1 o1.node)⟩ : Step), 0))))
theorem k8 (y1 : SlV) (t1 : List Place) (o1 : Op) : Does Tryz.prog 48 [.agg ⟨[y1.val t1.length]⟩, .agg ⟨[.int .i64 o1.time, .int .i64 o1.who, .int .i64 o1.node, .int .i64 o1.parent, .int .i64 o1.name, .int .i64 o1.life, .int .i64 o1.seq]⟩] [RdL EPlace y1 t1] (fun (X : SlV) => .tuple #[.agg ⟨[X.val (cw t1 o1).1.length]⟩, .agg ⟨[.int .i64 (cw t1 o1).2.1.o.time, .int .i64 (cw t1 o1).2.1.o.who, .int .i64 (cw t1 o1).2.1.o.node, .int .i64 (cw t1 o1).2.1.o.parent, .int .i64 (cw t1 o1).2.1.o.name, .int .i64 (cw t1 o1).2.1.o.life, .int .i64 (cw t1 o1).2.1.o.seq, .bool (cw t1 o1).2.1.did, .int .i64 (cw t1 o1).2.1.was.node, .int .i64 (cw t1 o1).2.1.was.parent, .int .i64 (cw t1 o1).2.1.was.name]⟩, .int .i64 (cw t1 o1).2.2]) (fun X => [RdL EPlace X (cw t1 o1).1]) := by
 refine bd aV Tryz.func48 rfl Tryz.ntmps48 Tryz.results48 rfl inferInstance (fun _ => inferInstance) fun C => ?_
 refine Pc EPlace y1 t1 24 fun hlen1 => ?_
 refine Tx ?_
 refine Bx fun g1 => ?_
 refine Bx fun g2 => ?_
 refine Al fun g3 => ?_
 refine Al fun g4 => ?_
 refine Tx ?_
 refine Cl (ez y1 t1) fun _ => ?_
 refine Tx ?_
 refine Cd (b := ((bx t1) != 0)) (fun hc1 => ?_) fun hc1 => ?_
 ·have hc1p := bne_iff_ne.1 hc1
  refine Tx ?_
  refine Fc EPlace ?_
  refine ak ?_; simp only [cw, hc1, Cf]; exact Re (⟨none, 0⟩ : SlV) (Va (Va (Vt Vn)))
 ·have hc1p := ag hc1
  refine Tx ?_
  refine Cl (eC o1) fun _ => ?_
  refine Tx ?_
  refine Cd (b := ((cx o1) != 0)) (fun hc2 => ?_) fun hc2 => ?_
  ·have hc2p := bne_iff_ne.1 hc2
   refine Tx ?_
   refine Fc EPlace ?_
   refine ak ?_; simp only [cw, hc1, hc2, Cf]; exact Re (⟨none, 0⟩ : SlV) (Va (Va (Vt Vn)))
  ·have hc2p := ag hc2
   refine Tx ?_
   refine ge [2, 3, 4, 5, 6] [true, true, true, true] (fun (g5 : Nat) => [(9, .v (.pointer (some ⟨g5, 0, none⟩)))]) (fun (g5 : Nat) => [⟨g5, 116, [.int .i64 o1.time, .int .i64 o1.who, .int .i64 o1.node, .int .i64 o1.parent, .int .i64 o1.name, .int .i64 o1.life, .int .i64 o1.seq, .bool false, .int .i64 (cH t1 o1.node).node, .int .i64 (cH t1 o1.node).parent, .int .i64 (cH t1 o1.node).name]⟩]) (fun (g5 : Nat) => []) (fun (g5 : Nat) => []) (fun _ => True) (.cons rfl (.cons rfl (.cons rfl (.cons rfl (.cons rfl (.nil _)))))) (.keep (.keep (.keep (.keep (.nil))))) ?_ ?_
   ·refine aw (fun j => match j with | 7 => none | _ => some []) ?_
    refine Ra 0 rfl (q_ldA rfl rfl Zf rfl Mm rfl) ?_
    refine Rb 1 rfl (q_ldA rfl rfl Zf rfl Mm rfl) ?_
    refine Rb 2 rfl Qp ?_
    refine Rb 3 rfl Q1 ?_
    refine fF 4 6 Kr ?_ ?_
    ·refine cR (eK y1 t1 o1.node) (.an rfl rfl) (ae rfl) rfl rfl rfl Kr rfl rfl Sm ?_
     intro _
     refine Ra 5 rfl Qp ?_
     refine av 6 Kr ?_
     refine dh (.an rfl rfl) (ae rfl) rfl rfl rfl rfl fun g6 => ?_
     refine av 7 Kr ?_
     refine di (.lo [g6] rfl rfl) (.inr (by simp)) (ae rfl) rfl rfl rfl rfl rfl rfl rfl rfl rfl Ub rfl ?_
     refine bj Kr ?_
     refine ⟨g6, trivial, Le4⟩
    ·refine dh (.an rfl rfl) (ae rfl) rfl rfl rfl rfl fun g7 => ?_
     refine av 4 Kr ?_
     refine cR (eK y1 t1 o1.node) (.an rfl rfl) (ae rfl) rfl rfl rfl Kr rfl rfl Sm ?_
     intro _
     refine Ra 5 rfl Qp ?_
     refine av 7 Kr ?_
     refine di (.lo [g7] rfl rfl) (.inr (by simp)) (ae rfl) rfl rfl rfl rfl rfl rfl rfl rfl rfl Ub rfl ?_
     refine bj Kr ?_
     refine ⟨g7, trivial, Le4⟩
   ·rintro g5 -
    simp only [List.cons_append, List.nil_append]
    refine Tx ?_
    refine Cl (fC y1 t1 o1.parent o1.node) fun _ => ?_
    refine er ?_
    (repeat refine ar ?_)
    refine Cd (b := (dJ t1 o1.parent o1.node)) (fun hc3 => ?_) fun hc3 => ?_
    ·(repeat refine ar ?_); refine aw (fun j => match j with | 3 => some [g3] | 4 => some [g4] | _ => some []) ?_
     refine Ra 0 rfl (q_ldA rfl rfl Zf rfl Mm rfl) ?_
     refine ra_q (.an (i := 2) (js := [1, 3]) rfl Kr Kr Kr Kr) (.keep (.keep (.drop (bN.all _)))) (by intro g hg; simp at hg; simp [hg]) rfl rfl rfl (q_ldA rfl rfl Zf rfl Mm rfl) ?_
     refine av 1 Kr ?_
     refine aX (jw y1 t1) (.an rfl rfl) (.inr (by simp [Lent.ids])) (ae rfl) rfl rfl rfl Kr rfl rfl Sm (.nil _) (.nil _) ?_
     intro x1
     refine av 3 Kr ?_
     refine di (.an rfl rfl) (.inr (by simp)) (ae rfl) rfl rfl rfl rfl rfl rfl rfl rfl rfl Ub rfl ?_
     refine av 4 Kr ?_
     refine di (.an rfl rfl) (.inr (by simp)) (ae rfl) rfl rfl rfl rfl rfl rfl rfl rfl rfl Ub rfl ?_
     refine Ra 5 rfl Qp ?_
     refine bj Kr ?_
     (repeat refine ar ?_)
     refine cw_le (aA EPlace 82 x1.1 x1.2 (gh t1) Uo) ?_
     refine ak ?_; simp only [cw, hc1, hc2, hc3, Cf]; exact Re x1.1 (Va (Va (Vt Vn)))
    ·refine Tx ?_
     (repeat refine ar ?_); refine aw (fun j => match j with | 10 => some [g3] | 11 => some [g4] | _ => some []) ?_
     refine Ra 0 rfl (q_ldA rfl rfl Zf rfl Mm rfl) ?_
     refine Rb 1 rfl Qp ?_
     refine Rb 2 rfl Q1 ?_
     refine Rb 3 rfl Qp ?_
     refine Rb 4 rfl Q1 ?_
     refine Rb 5 rfl Qp ?_
     refine Rb 6 rfl Q1 ?_
     refine Ra 7 rfl Qp ?_
     refine ra_q (.an (i := 9) (js := [8, 10]) rfl Kr Kr Kr Kr) (.keep (.keep (.drop (bN.all _)))) (by intro g hg; simp at hg; simp [hg]) rfl rfl rfl (q_ldA rfl rfl Zf rfl Mm rfl) ?_
     refine av 8 Kr ?_
     refine cR (fV y1 t1 (⟨o1.node, o1.parent, o1.name⟩ : Place) (pC t1 (by first | assumption | simpa using hc1))) (.an rfl rfl) (ae rfl) rfl rfl rfl Kr rfl rfl Sm ?_
     intro x2
     refine Pr EPlace x2 (cG t1 (⟨o1.node, o1.parent, o1.name⟩ : Place)) 24 fun hlen2 => ?_
     refine av 10 Kr ?_
     refine di (.an rfl rfl) (.inr (by simp)) (ae rfl) rfl rfl rfl rfl rfl rfl rfl rfl rfl Ub rfl ?_
     refine av 11 Kr ?_
     refine di (.an rfl rfl) (.inr (by simp)) (ae rfl) rfl rfl rfl rfl rfl rfl rfl rfl rfl Ub rfl ?_
     refine Ra 12 rfl Qp ?_
     refine bj Kr ?_
     (repeat refine ar ?_)
     refine ak ?_; simp only [cw, hc1, hc2, hc3, Cf]; exact Re x2 (Va (Va (Vt Vn)))
def cE (t1 : List Place) (s1 : Step) : (List Place) × Int :=
 (bif ((bx t1) != 0) then (([] : List Place), (bx t1)) else (bif ((cx s1.o) != 0) then (([] : List Place), (cx s1.o)) else (bif (!s1.did) then ((gh t1), 0) else (bif (s1.was.node == 0) then (bif ((s1.o.node != s1.o.node) || (!(decide ((cH t1 s1.o.node) = (⟨s1.o.node, s1.o.parent, s1.o.name⟩ : Place))))) then (([] : List Place), 4) else (bif ((bx (cG t1 (⟨s1.o.node, (-1), 0⟩ : Place))) != 0) then (([] : List Place), (bx (cG t1 (⟨s1.o.node, (-1), 0⟩ : Place)))) else ((cG t1 (⟨s1.o.node, (-1), 0⟩ : Place)), 0))) else (bif ((s1.was.node != s1.o.node) || (!(decide ((cH t1 s1.o.node) = (⟨s1.o.node, s1.o.parent, s1.o.name⟩ : Place))))) then (([] : List Place), 4) else (bif ((bx (cG t1 s1.was)) != 0) then (([] : List Place), (bx (cG t1 s1.was))) else ((cG t1 s1.was), 0)))))))
theorem lH (y1 : SlV) (t1 : List Place) (s1 : Step) : Does Tryz.prog 130 [.agg ⟨[y1.val t1.length]⟩, .agg ⟨[.int .i64 s1.o.time, .int .i64 s1.o.who, .int .i64 s1.o.node, .int .i64 s1.o.parent, .int .i64 s1.o.name, .int .i64 s1.o.life, .int .i64 s1.o.seq, .bool s1.did, .int .i64 s1.was.node, .int .i64 s1.was.parent, .int .i64 s1.was.name]⟩] [RdL EPlace y1 t1] (fun (X : SlV) => .tuple #[.agg ⟨[X.val (cE t1 s1).1.length]⟩, .int .i64 (cE t1 s1).2]) (fun X => [RdL EPlace X (cE t1 s1).1]) := by
 refine bd aV Tryz.func130 rfl Tryz.ntmps130 Tryz.results130 rfl inferInstance (fun _ => inferInstance) fun C => ?_
 refine Pc EPlace y1 t1 24 fun hlen1 => ?_
 refine Tx ?_
 refine Bx fun g1 => ?_
 refine Bx fun g2 => ?_
 refine Al fun g3 => ?_
 refine Tx ?_
 refine Cl (ez y1 t1) fun _ => ?_
 refine Tx ?_
 refine Cd (b := ((bx t1) != 0)) (fun hc1 => ?_) fun hc1 => ?_
 ·have hc1p := bne_iff_ne.1 hc1
  refine Tx ?_
  refine Fc EPlace ?_
  refine ak ?_; simp only [cE, hc1, Cf]; exact Re (⟨none, 0⟩ : SlV) (Va (Vt Vn))
 ·have hc1p := ag hc1
  refine Tx ?_
  refine Cl (eC s1.o) fun _ => ?_
  refine Tx ?_
  refine Cd (b := ((cx s1.o) != 0)) (fun hc2 => ?_) fun hc2 => ?_
  ·have hc2p := bne_iff_ne.1 hc2
   refine Tx ?_
   refine Fc EPlace ?_
   refine ak ?_; simp only [cE, hc1, hc2, Cf]; exact Re (⟨none, 0⟩ : SlV) (Va (Vt Vn))
  ·have hc2p := ag hc2
   refine Tx ?_
   refine Cd (b := (!s1.did)) (fun hc3 => ?_) fun hc3 => ?_
   ·refine Tx ?_
    refine Cg (jw y1 t1) fun x1 => ?_
    refine Tx ?_
    refine cw_le (aA EPlace 82 x1.1 x1.2 (gh t1) Uo) ?_
    refine ak ?_; simp only [cE, hc1, hc2, hc3, Cf]; exact Re x1.1 (Va (Vt Vn))
   ·refine Tx ?_
    refine Al fun g4 => ?_
    refine Tx ?_
    refine Cd (b := (s1.was.node == 0)) (fun hc4 => ?_) fun hc4 => ?_
    ·have hc4p := eq_of_beq hc4
     refine Tx ?_
     refine Al fun g5 => ?_
     refine Tx ?_
     (repeat refine ar ?_); refine aw (fun _ => some []) ?_
     refine Rb 0 rfl Qp ?_
     refine Rb 1 rfl Q1 ?_
     refine Rb 2 rfl Qp ?_
     refine Rb 3 rfl Qp ?_
     refine Rb 4 rfl Q1 ?_
     refine Rb 5 rfl Qp ?_
     refine Ra 6 rfl Qp ?_
     refine Gb 7 rfl (aD rfl rfl rfl) (q_ldA rfl rfl Bt rfl Mm rfl) ?_
     refine Gb 8 rfl (aD rfl rfl rfl) (q_pev rfl Bt) ?_
     refine Gb 9 rfl (aD rfl rfl rfl) (q_pev rfl Bt) ?_
     refine Gb 10 rfl (aD rfl rfl rfl) (q_ld1 rfl rfl Bt rfl Mm rfl) ?_
     refine Gb 12 rfl (aD rfl rfl rfl) (q_ldA rfl rfl Bt rfl Mm rfl) ?_
     refine av 11 Kr ?_
     refine c6 (fun hG_ => eK y1 t1 s1.o.node) Zf (.an rfl rfl) (aD rfl rfl rfl) rfl rfl rfl Kr rfl Bt Sm ?_
     refine Ga 13 rfl (aD rfl rfl rfl) (q_neE lb (ie (cH t1 s1.o.node) (⟨s1.o.node, s1.o.parent, s1.o.name⟩ : Place)) rfl rfl Bt rfl Bt rfl rfl) ?_
     refine Ra 14 rfl (q_pev rfl Bt) ?_
     refine bj Kr ?_
     (repeat refine ar ?_)
     refine Cd (b := ((s1.o.node != s1.o.node) || (!(decide ((cH t1 s1.o.node) = (⟨s1.o.node, s1.o.parent, s1.o.name⟩ : Place)))))) (fun hc5 => ?_) fun hc5 => ?_
     ·refine Tx ?_
      refine Fc EPlace ?_
      refine ak ?_; simp only [cE, hc1, hc2, hc3, hc4, hc5, Cf]; exact Re (⟨none, 0⟩ : SlV) (Va (Vt Vn))
     ·refine Tx ?_
      refine Cl (fV y1 t1 (⟨s1.o.node, (-1), 0⟩ : Place) (pC t1 (by first | assumption | simpa using hc1))) fun x2 => ?_
      refine Pr EPlace x2 (cG t1 (⟨s1.o.node, (-1), 0⟩ : Place)) 24 fun hlen2 => ?_
      refine Tx ?_
      refine Cl (ez x2 (cG t1 (⟨s1.o.node, (-1), 0⟩ : Place))) fun _ => ?_
      refine Tx ?_
      refine Cd (b := ((bx (cG t1 (⟨s1.o.node, (-1), 0⟩ : Place))) != 0)) (fun hc6 => ?_) fun hc6 => ?_
      ·have hc6p := bne_iff_ne.1 hc6
       refine Tx ?_
       refine Fc EPlace ?_
       refine ak ?_; simp only [cE, hc1, hc2, hc3, hc4, hc5, hc6, Cf]; exact Re (⟨none, 0⟩ : SlV) (Va (Vt Vn))
      ·have hc6p := ag hc6
       refine Tx ?_
       refine ak ?_; simp only [cE, hc1, hc2, hc3, hc4, hc5, hc6, Cf]; exact Re x2 (Va (Vt Vn))
    ·have hc4p := ne_of_beq_false hc4
     refine Tx ?_
     refine Al fun g6 => ?_
     refine Tx ?_
     (repeat refine ar ?_); refine aw (fun _ => some []) ?_
     refine Rb 0 rfl Qp ?_
     refine Rb 1 rfl Q1 ?_
     refine Rb 2 rfl Qp ?_
     refine Rb 3 rfl Qp ?_
     refine Rb 4 rfl Q1 ?_
     refine Rb 5 rfl Qp ?_
     refine Ra 6 rfl Qp ?_
     refine Gb 7 rfl (aD rfl rfl rfl) (q_ldA rfl rfl Bt rfl Mm rfl) ?_
     refine Gb 8 rfl (aD rfl rfl rfl) (q_pev rfl Bt) ?_
     refine Gb 9 rfl (aD rfl rfl rfl) (q_pev rfl Bt) ?_
     refine Gb 10 rfl (aD rfl rfl rfl) (q_ld1 rfl rfl Bt rfl Mm rfl) ?_
     refine Gb 12 rfl (aD rfl rfl rfl) (q_ldA rfl rfl Bt rfl Mm rfl) ?_
     refine av 11 Kr ?_
     refine c6 (fun hG_ => eK y1 t1 s1.o.node) Zf (.an rfl rfl) (aD rfl rfl rfl) rfl rfl rfl Kr rfl Bt Sm ?_
     refine Ga 13 rfl (aD rfl rfl rfl) (q_neE lb (ie (cH t1 s1.o.node) (⟨s1.o.node, s1.o.parent, s1.o.name⟩ : Place)) rfl rfl Bt rfl Bt rfl rfl) ?_
     refine Ra 14 rfl (q_pev rfl Bt) ?_
     refine bj Kr ?_
     (repeat refine ar ?_)
     refine Cd (b := ((s1.was.node != s1.o.node) || (!(decide ((cH t1 s1.o.node) = (⟨s1.o.node, s1.o.parent, s1.o.name⟩ : Place)))))) (fun hc7 => ?_) fun hc7 => ?_
     ·refine Tx ?_
      refine Fc EPlace ?_
      refine ak ?_; simp only [cE, hc1, hc2, hc3, hc4, hc7, Cf]; exact Re (⟨none, 0⟩ : SlV) (Va (Vt Vn))
     ·refine Tx ?_
      refine Cl (fV y1 t1 s1.was (pC t1 (by first | assumption | simpa using hc1))) fun x3 => ?_
      refine Pr EPlace x3 (cG t1 s1.was) 24 fun hlen3 => ?_
      refine Tx ?_
      refine Cl (ez x3 (cG t1 s1.was)) fun _ => ?_
      refine Tx ?_
      refine Cd (b := ((bx (cG t1 s1.was)) != 0)) (fun hc8 => ?_) fun hc8 => ?_
      ·have hc8p := bne_iff_ne.1 hc8
       refine Tx ?_
       refine Fc EPlace ?_
       refine ak ?_; simp only [cE, hc1, hc2, hc3, hc4, hc7, hc8, Cf]; exact Re (⟨none, 0⟩ : SlV) (Va (Vt Vn))
      ·have hc8p := ag hc8
       refine Tx ?_
       refine ak ?_; simp only [cE, hc1, hc2, hc3, hc4, hc7, hc8, Cf]; exact Re x3 (Va (Vt Vn))
theorem q9 (k n : Int) (h : 0 < n) : -n < k.tmod n ∧ k.tmod n < n := ⟨Int.lt_tmod_of_pos k h, Int.tmod_lt_of_pos k h⟩
def ai (k1 : Int) (n1 : Int) : Int :=
 (bif decide ((k1.tmod n1) < 0) then ((k1.tmod n1) + n1) else (k1.tmod n1))
theorem gu (k1 : Int) (n1 : Int) (hn : 0 < n1 ∧ n1 ≤ 1000000000000000000) : Does Tryz.prog 10 [.int .i64 k1, .int .i64 n1] [] (fun (_ : Unit) => .int .i64 (ai k1 n1)) (fun _ => []) := by
 refine bd aV Tryz.func10 rfl Tryz.ntmps10 Tryz.results10 rfl inferInstance (fun _ => inferInstance) fun C => ?_
 refine Tx ?_
 refine rw_q rfl rfl rfl (q_rem rfl rfl Zf rfl Zf (fun _ => by first | omega | (have := q9 k1 n1 (by omega); omega))) ?_
 refine Tx ?_
 refine Cd (b := decide ((k1.tmod n1) < 0)) (fun hc1 => ?_) fun hc1 => ?_
 ·have hc1p := of_decide_eq_true hc1
  refine Tx ?_
  refine rw_q rfl rfl rfl (q_add rfl rfl Zf rfl Zf (fun _ => by first | omega | (have := q9 k1 n1 (by omega); omega))) ?_
  refine Tx ?_
  refine ak ?_; simp only [ai, hc1, Cf]; exact Re () (Vt Vn)
 ·have hc1p := of_decide_eq_false hc1
  refine Tx ?_
  refine ak ?_; simp only [ai, hc1, Cf]; exact Re () (Vt Vn)
theorem at_in {k n : Int} (h : 0 < n) : 0 ≤ ai k n ∧ ai k n < n := by
 have := q9 k n h
 unfold ai
 cases hb : decide (k.tmod n < 0) with
 | true => simp at hb; simp only [cond_true]; omega
 | false => simp at hb; simp only [cond_false]; omega
def cu (f1 : Int → Bool) : List Int → Nat → Int
 | [], n1 => (-1)
 | pn1 :: rn1, n1 => (bif (f1 pn1) then (n1 : Int) else (cu f1 rn1 (n1 + 1)))
def dk (s1 : List Int) (f1 : Int → Bool) : Int :=
 (cu f1 s1 0)
theorem jx (y1 : SlV) (s1 : List Int) (f2 : Nat) (caps1 : List Value) (pre1 : List Pred) [StabL pre1] (f1 : Int → Bool) (hfb1 : tab.fnb f2 = true) (hfn1 : ∀ (a0_ : Int), Does Tryz.prog f2 ([.int .i64 a0_] ++ caps1) pre1 (fun (_ : Unit) => .bool (f1 a0_)) (fun _ => [])) : Does Tryz.prog 150 [y1.val s1.length, .func (.func f2) #[] ⟨caps1⟩] (RdL EInt y1 s1 :: pre1) (fun (_ : Unit) => .int .i64 (dk s1 f1)) (fun _ => []) := by
 refine bd aV Tryz.func150 rfl Tryz.ntmps150 Tryz.results150 rfl inferInstance (fun _ => inferInstance) fun C => ?_
 refine ec (φ := s1.length * 8 ≤ 140737488355328) [RdL EInt y1 s1] Sf (fun M w h => (allF1 h).len) fun hlen1 => ?_
 refine Tx ?_
 (repeat refine ar ?_); refine Lp [0,1,4,7] [] (fun (n1 : Nat) => (⟨[(8, .v (.int .i64 (n1 : Int)))], [], [], [], (n1 ≤ s1.length) ∧ (cu f1 (s1.drop n1) n1) = (dk s1 f1), s1.length - n1⟩ : Ls)) 0 (Sc (Sc (Sc (Sc Sn)))) (.nil) ⟨Nat.zero_le _, (by simp only [dk, Cf] : (dk s1 f1) = (cu f1 s1 0)).symm⟩ Le5 ?_
 rintro n1 ⟨hkn1, hf1⟩
 simp only [List.cons_append, List.nil_append]
 refine Tx ?_
 refine Cd (b := decide ((n1 : Int) < (s1.length : Int))) (fun hc1 => ?_) fun hc1 => ?_
 ·have hlt0 : n1 < s1.length := Int.ofNat_lt.1 (of_decide_eq_true hc1)
  refine Tx ?_
  refine rw_q rfl rfl rfl (q_idx EInt n1 rfl rfl Zf rfl Zf rfl rfl rfl Mm rfl Zf (fun _ => by first | assumption | omega)) ?_
  refine rw_q rfl rfl rfl (q_le1 EInt rfl rfl Zf rfl rfl Mm (fun _ => by first | assumption | omega) rfl) ?_
  refine em (hfn1 (gt s1 n1)) .sq (ae rfl) rfl rfl rfl rfl rfl (by assumption) rfl rfl rfl Sf ?_
  intro _
  refine er ?_
  (repeat refine ar ?_)
  refine Cd (b := (f1 (gt s1 n1))) (fun hc2 => ?_) fun hc2 => ?_
  ·refine Tx ?_
   have hr1 : (dk s1 f1) = (n1 : Int) := by rw [← hf1, aI hlt0]; simp only [cu, hc2, Cf]
   refine ak ?_
   rw [hr1]
   exact ⟨(), _, (.cons (.tmp rfl) .nil), rfl, Sf, .nil _, .nil _⟩
  ·refine Tx ?_
   refine rw_q rfl rfl rfl (q_add rfl rfl Zf rfl Zf Zo) ?_
   refine Tx ?_
   refine ⟨(n1 + 1), ⟨hlt0, (by rw [← hf1, aI hlt0]; simp only [cu, hc2, Cf] : (dk s1 f1) = (cu f1 (s1.drop (n1 + 1)) (n1 + 1))).symm⟩, (by simp only []; omega), Le5⟩
 ·have hge0 : s1.length ≤ n1 := by have := of_decide_eq_false hc1; omega
  refine Tx ?_
  have hr2 : (dk s1 f1) = (-1) := by rw [← hf1, List.drop_of_length_le hge0]; simp only [cu, Cf]
  refine ak ?_
  rw [hr2]
  exact ⟨(), _, (.cons (.tmp rfl) .nil), rfl, Sf, .nil _, .nil _⟩
def eI (s1 : List Int) (f1 : Int → Bool) : Bool :=
 decide ((dk s1 f1) ≥ 0)
theorem iC (y1 : SlV) (s1 : List Int) (f2 : Nat) (caps1 : List Value) (pre1 : List Pred) [StabL pre1] (f1 : Int → Bool) (hfb1 : tab.fnb f2 = true) (hfn1 : ∀ (a0_ : Int), Does Tryz.prog f2 ([.int .i64 a0_] ++ caps1) pre1 (fun (_ : Unit) => .bool (f1 a0_)) (fun _ => [])) : Does Tryz.prog 132 [y1.val s1.length, .func (.func f2) #[] ⟨caps1⟩] (RdL EInt y1 s1 :: pre1) (fun (_ : Unit) => .bool (eI s1 f1)) (fun _ => []) := by
 refine bd aV Tryz.func132 rfl Tryz.ntmps132 Tryz.results132 rfl inferInstance (fun _ => inferInstance) fun C => ?_
 refine ec (φ := s1.length * 8 ≤ 140737488355328) [RdL EInt y1 s1] Sf (fun M w h => (allF1 h).len) fun hlen1 => ?_
 refine Tx ?_
 refine cR (jx y1 s1 _ _ _ f1 (by assumption) hfn1) .sq (ae rfl) rfl rfl rfl Kr rfl rfl Sf ?_
 intro _
 refine Tx ?_
 have hr1 : (eI s1 f1) = decide ((dk s1 f1) ≥ 0) := by simp only [eI, Cf]
 refine ak ?_
 rw [hr1]
 exact ⟨(), _, (.cons (.tmp rfl) .nil), rfl, Sf, .nil _, .nil _⟩
theorem jh (s : List Int) (f : Int → Bool) : eI s f = s.any f := by
 have key : ∀ (l : List Int) (k : Nat), decide (cu f l k ≥ 0) = l.any f := by
  intro l
  induction l with
  | nil => intro k; rfl
  | cons p r ih =>
   intro k
   rw [cu, List.any_cons]
   cases f p with
   | true => simp only [cond_true, Bool.true_or, decide_eq_true_eq]; omega
   | false => rw [cond_false, ih, Bool.false_or]
 exact key s 0
theorem fD (y1 : SlV) (s1 : List Int) (f1 : Nat) (caps1 : List Value) (pre1 : List Pred) [StabL pre1] (p1 : Int → Bool) (hfb1 : tab.fnb f1 = true) (hfn1 : ∀ (a0_ : Int), Does Tryz.prog f1 ([.int .i64 a0_] ++ caps1) pre1 (fun (_ : Unit) => .bool (p1 a0_)) (fun _ => [])) :
  Does Tryz.prog 132 [y1.val s1.length, .func (.func f1) #[] ⟨caps1⟩] (RdL EInt y1 s1 :: pre1) (fun (_ : Unit) => .bool (s1.any p1)) (fun (_ : Unit) => []) := by
 have := iC y1 s1 f1 caps1 pre1 p1 hfb1 hfn1
 rw [jh] at this
 exact this
def d6 (l1 : List Int) : List Int → Nat → Int
 | [], n1 => 0
 | pn1 :: rn1, n1 => (bif (decide (pn1 < 0) || decide (pn1 > 16)) then 5 else (bif (decide ((n1 : Int) > 0) && decide ((gt l1 (n1 - 1)) ≥ pn1)) then 6 else (d6 l1 rn1 (n1 + 1))))
def bO (l1 : List Int) : Int :=
 (bif decide ((l1.length : Int) > 4) then 2 else (d6 l1 l1 0))
theorem gG (y1 : SlV) (l1 : List Int) : Does Tryz.prog 94 [y1.val l1.length] [RdL EInt y1 l1] (fun (_ : Unit) => .int .i64 (bO l1)) (fun _ => []) := by
 refine bd aV Tryz.func94 rfl Tryz.ntmps94 Tryz.results94 rfl inferInstance (fun _ => inferInstance) fun C => ?_
 refine Pc EInt y1 l1 8 fun hlen1 => ?_
 refine Tx ?_
 refine Cd (b := decide ((l1.length : Int) > 4)) (fun hc1 => ?_) fun hc1 => ?_
 ·have hc1p := of_decide_eq_true hc1
  refine Tx ?_
  refine ak ?_; simp only [bO, hc1, Cf]; exact Re () (Vt Vn)
 ·have hc1p := of_decide_eq_false hc1
  refine Tx ?_
  (repeat refine ar ?_); refine Lp [0,2,8,9] [] (fun (n1 : Nat) => (⟨[(10, .v (.int .i64 (n1 : Int)))], [], [], [], (n1 ≤ l1.length) ∧ (d6 l1 (l1.drop n1) n1) = (bO l1), l1.length - n1⟩ : Ls)) 0 (Sc (Sc (Sc (Sc Sn)))) (.nil) ⟨Nat.zero_le _, (by simp only [bO, hc1, Cf] : (bO l1) = (d6 l1 l1 0)).symm⟩ Le4 ?_
  rintro n1 ⟨hkn1, hf1⟩
  simp only [List.cons_append, List.nil_append]
  refine Tx ?_
  refine Cd (b := decide ((n1 : Int) < (l1.length : Int))) (fun hc2 => ?_) fun hc2 => ?_
  ·have hlt0 : n1 < l1.length := Int.ofNat_lt.1 (of_decide_eq_true hc2)
   refine Tx ?_
   refine rw_q rfl rfl rfl (q_idx EInt n1 rfl rfl Zf rfl Zf rfl rfl rfl Mm rfl Zf (fun _ => by first | assumption | omega)) ?_
   refine rw_q rfl rfl rfl (q_le1 EInt rfl rfl Zf rfl rfl Mm (fun _ => by first | assumption | omega) rfl) ?_
   refine Tx ?_
   refine Cd (b := (decide ((gt l1 n1) < 0) || decide ((gt l1 n1) > 16))) (fun hc3 => ?_) fun hc3 => ?_
   ·refine Tx ?_
    refine ak ?_; rw [show (bO l1) = 5 by rw [← hf1, aI hlt0]; simp only [d6, hc3, Cf]]; exact Re () (Vt Vn)
   ·refine Tx ?_
    refine rw_qg (au rfl rfl rfl) rfl rfl (q_sub rfl rfl Bt rfl Bt (by intro h; first | omega | (simp at h; omega))) ?_
    refine rw_qg (au rfl rfl rfl) rfl rfl (q_idx EInt (n1 - 1) rfl rfl Bt rfl Bt rfl rfl rfl Mm rfl (by intro h; first | omega | rfl | (simp at h; omega)) (by first | (intro _; first | assumption | omega) | (intro h; simp at h; omega))) ?_
    refine rw_qg (au rfl rfl rfl) rfl rfl (q_le1 EInt rfl rfl Bt rfl rfl Mm (by first | (intro _; first | assumption | omega) | (intro h; simp at h; omega)) rfl) ?_
    refine Tx ?_
    refine Cd (b := (decide ((n1 : Int) > 0) && decide ((gt l1 (n1 - 1)) ≥ (gt l1 n1)))) (fun hc4 => ?_) fun hc4 => ?_
    ·refine Tx ?_
     refine ak ?_; rw [show (bO l1) = 6 by rw [← hf1, aI hlt0]; simp only [d6, hc3, hc4, Cf]]; exact Re () (Vt Vn)
    ·refine Tx ?_
     refine rw_q rfl rfl rfl (q_add rfl rfl Zf rfl Zf Zo) ?_
     refine Tx ?_
     refine ⟨(n1 + 1), ⟨hlt0, (by rw [← hf1, aI hlt0]; simp only [d6, hc3, hc4, Cf] : (bO l1) = (d6 l1 (l1.drop (n1 + 1)) (n1 + 1))).symm⟩, (by simp only []; omega), Le4⟩
  ·have hge0 : l1.length ≤ n1 := by have := of_decide_eq_false hc2; omega
   refine Tx ?_
   refine ak ?_; rw [show (bO l1) = 0 by rw [← hf1, List.drop_of_length_le hge0]; simp only [d6, Cf]]; exact Re () (Vt Vn)
def ji (r1 : Int) (t1 : List Place) (node1 : Int) : Bool :=
 (dJ t1 node1 r1)
theorem mE (r1 : Int) (c1 : Nat) (y1 : SlV) (t1 : List Place) (c2 : Nat) (node1 : Int) : Does Tryz.prog 133 [.int .i64 r1, .pointer (some ⟨c1, 0, none⟩), .pointer (some ⟨c2, 0, none⟩)] [VarP c1 [y1.val t1.length], RdL EPlace y1 t1, VarP c2 [.int .i64 node1]] (fun (_ : Unit) => .bool (ji r1 t1 node1)) (fun _ => []) := by
 refine bd aV Tryz.func133 rfl Tryz.ntmps133 Tryz.results133 rfl inferInstance (fun _ => inferInstance) fun C => ?_
 refine Tx ?_
 refine Cl (fC y1 t1 node1 r1) fun _ => ?_
 refine Tx ?_
 refine ak ?_; simp only [ji, Cf]; exact Re () (Vt Vn)
def jj (r1 : Int) (node1 : Int) (t1 : List Place) : Bool :=
 ((r1 != node1) && (dJ t1 r1 node1))
theorem mG (r1 : Int) (c1 : Nat) (node1 : Int) (c2 : Nat) (y1 : SlV) (t1 : List Place) : Does Tryz.prog 134 [.int .i64 r1, .pointer (some ⟨c1, 0, none⟩), .pointer (some ⟨c2, 0, none⟩)] [VarP c1 [.int .i64 node1], VarP c2 [y1.val t1.length], RdL EPlace y1 t1] (fun (_ : Unit) => .bool (jj r1 node1 t1)) (fun _ => []) := by
 refine bd aV Tryz.func134 rfl Tryz.ntmps134 Tryz.results134 rfl inferInstance (fun _ => inferInstance) fun C => ?_
 refine Tx ?_
 refine rw_qg (au rfl rfl rfl) rfl rfl (q_lfA rfl rfl Bt rfl Mm rfl) ?_
 refine Tx ?_
 refine rw_qg (au rfl rfl rfl) rfl rfl (q_lf1 rfl rfl Bt rfl Mm rfl) ?_
 refine c6 (fun hG_ => fC y1 t1 r1 node1) Zf .sq (au rfl rfl rfl) rfl rfl rfl Kr rfl Bt Sm ?_
 refine Tx ?_
 refine ak ?_; simp only [jj, Cf]; exact Re () (Vt Vn)
def fU (t1 : List Place) (node1 : Int) (roots1 : List Int) : Bool :=
 (roots1.any (fun a0_ => ji a0_ t1 node1))
theorem nF (y1 : SlV) (t1 : List Place) (node1 : Int) (y2 : SlV) (roots1 : List Int) : Does Tryz.prog 114 [.agg ⟨[y1.val t1.length]⟩, .int .i64 node1, y2.val roots1.length] [RdL EPlace y1 t1, RdL EInt y2 roots1] (fun (_ : Unit) => .bool (fU t1 node1 roots1)) (fun _ => []) := by
 refine bd aV Tryz.func114 rfl Tryz.ntmps114 Tryz.results114 rfl inferInstance (fun _ => inferInstance) fun C => ?_
 refine Pc EPlace y1 t1 24 fun hlen1 => ?_
 refine Pc EInt y2 roots1 8 fun hlen2 => ?_
 refine Tx ?_
 refine Bx fun g1 => ?_
 refine tE (cs := [_]) .sq (ae rfl) rfl rfl rfl rfl rfl rfl fun g2 => ?_
 refine Tx ?_
 refine rw_le (og (g := g1) Pk) ?_
 refine rw_le (og (g := g2) Pk) ?_
 refine Cl (fD y2 roots1 _ _ _ (fun a0_ => ji a0_ t1 node1) Kr (fun a0_ => mE a0_ g1 y1 t1 g2 node1)) fun _ => ?_
 refine Tx ?_
 refine ak ?_; simp only [fU, Cf]; exact Re () (Vt Vn)
def gS (t1 : List Place) (node1 : Int) (roots1 : List Int) : Bool :=
 (roots1.any (fun a0_ => jj a0_ node1 t1))
theorem nG (y1 : SlV) (t1 : List Place) (node1 : Int) (y2 : SlV) (roots1 : List Int) : Does Tryz.prog 115 [.agg ⟨[y1.val t1.length]⟩, .int .i64 node1, y2.val roots1.length] [RdL EPlace y1 t1, RdL EInt y2 roots1] (fun (_ : Unit) => .bool (gS t1 node1 roots1)) (fun _ => []) := by
 refine bd aV Tryz.func115 rfl Tryz.ntmps115 Tryz.results115 rfl inferInstance (fun _ => inferInstance) fun C => ?_
 refine Pc EPlace y1 t1 24 fun hlen1 => ?_
 refine Pc EInt y2 roots1 8 fun hlen2 => ?_
 refine Tx ?_
 refine Bx fun g1 => ?_
 refine tE (cs := [_]) .sq (ae rfl) rfl rfl rfl rfl rfl rfl fun g2 => ?_
 refine Tx ?_
 refine rw_le (og (g := g2) Pk) ?_
 refine rw_le (og (g := g1) Pk) ?_
 refine Cl (fD y2 roots1 _ _ _ (fun a0_ => jj a0_ node1 t1) Kr (fun a0_ => mG a0_ g2 node1 g1 y1 t1)) fun _ => ?_
 refine Tx ?_
 refine ak ?_; simp only [gS, Cf]; exact Re () (Vt Vn)
def ek (t1 : List Place) (roots1 : List Int) : List Place → (List Place) → (List Place) → (View × Int)
 | [], known1, way1 => ((⟨roots1, known1, way1⟩ : View), 0)
 | pn1 :: rn1, known1, way1 => (bif (fU t1 pn1.node roots1) then (ek t1 roots1 rn1 (known1 ++ [pn1]) way1) else (bif (gS t1 pn1.node roots1) then (ek t1 roots1 rn1 known1 (way1 ++ [pn1])) else (ek t1 roots1 rn1 known1 way1)))
def co (t1 : List Place) (roots1 : List Int) : View × Int :=
 (bif ((bx t1) != 0) then ((⟨[], [], []⟩ : View), (bx t1)) else (bif ((bO roots1) != 0) then ((⟨[], [], []⟩ : View), (bO roots1)) else (ek t1 roots1 t1 [] [])))
theorem jk (y1 : SlV) (t1 : List Place) (y2 : SlV) (roots1 : List Int) : Does Tryz.prog 95 [.agg ⟨[y1.val t1.length]⟩, y2.val roots1.length] [RdL EPlace y1 t1, RdL EInt y2 roots1] (fun (X : SlV × SlV × SlV) => .tuple #[.agg ⟨[X.1.val (co t1 roots1).1.roots.length, X.2.1.val (co t1 roots1).1.known.length, X.2.2.val (co t1 roots1).1.way.length]⟩, .int .i64 (co t1 roots1).2]) (fun X => [RdL EInt X.1 (co t1 roots1).1.roots, RdL EPlace X.2.1 (co t1 roots1).1.known, RdL EPlace X.2.2 (co t1 roots1).1.way]) := by
 refine bd aV Tryz.func95 rfl Tryz.ntmps95 Tryz.results95 rfl inferInstance (fun _ => inferInstance) fun C => ?_
 refine Pc EPlace y1 t1 24 fun hlen1 => ?_
 refine Pc EInt y2 roots1 8 fun hlen2 => ?_
 refine Tx ?_
 refine Bx fun g1 => ?_
 refine Al fun g2 => ?_
 refine Tx ?_
 refine Cl (ez y1 t1) fun _ => ?_
 refine Tx ?_
 refine Cd (b := ((bx t1) != 0)) (fun hc1 => ?_) fun hc1 => ?_
 ·have hc1p := bne_iff_ne.1 hc1
  refine Tx ?_
  refine Fc EInt ?_
  refine Fc EPlace ?_
  refine ak ?_; simp only [co, hc1, Cf]; exact Re ⟨(⟨none, 0⟩ : SlV), (⟨none, 0⟩ : SlV), (⟨none, 0⟩ : SlV)⟩ (Va (Vt Vn))
 ·have hc1p := ag hc1
  refine Tx ?_
  refine Cl (gG y2 roots1) fun _ => ?_
  refine Tx ?_
  refine Cd (b := ((bO roots1) != 0)) (fun hc2 => ?_) fun hc2 => ?_
  ·have hc2p := bne_iff_ne.1 hc2
   refine Tx ?_
   refine Fc EInt ?_
   refine Fc EPlace ?_
   refine ak ?_; simp only [co, hc1, hc2, Cf]; exact Re ⟨(⟨none, 0⟩ : SlV), (⟨none, 0⟩ : SlV), (⟨none, 0⟩ : SlV)⟩ (Va (Vt Vn))
  ·have hc2p := ag hc2
   refine Tx ?_
   refine Cg (dc y2 roots1) fun x1 => ?_
   refine Rp rfl rfl rfl rfl ?_
   refine Al fun g3 => ?_
   refine Tx ?_
   (repeat refine ar ?_); refine Lp [1,2,4,5,8,27,28] [false, true, true] (fun (i_ : Nat × List Place × SlV × Option Nat × List Place × SlV × Option Nat) => match i_ with | ⟨n1, known1, x2, x2b, way1, x3, x3b⟩ => (⟨[(29, .v (.int .i64 (n1 : Int)))], [⟨g3, 58, [x1.1.val roots1.length, x2.val known1.length, x3.val way1.length]⟩], [ownL EInt 3 x1.1 x1.2 roots1, ownL EPlace 82 x2 x2b known1, ownL EPlace 82 x3 x3b way1], [], (n1 ≤ t1.length) ∧ (known1.length ≤ n1) ∧ (way1.length ≤ n1) ∧ (ek t1 roots1 (t1.drop n1) known1 way1) = (co t1 roots1), t1.length - n1⟩ : Ls)) ⟨0, [], ⟨none, 0⟩, none, [], ⟨none, 0⟩, none⟩ (Sc (Sc (Sc (Sc (Sc (Sc (Sc Sn))))))) (.drop (.keep (.keep (.nil)))) ⟨Nat.zero_le _, (by first | exact Nat.le_refl _ | exact Nat.zero_le _ | omega), (by first | exact Nat.le_refl _ | exact Nat.zero_le _ | omega), (by simp only [co, hc1, hc2, Cf] : (co t1 roots1) = (ek t1 roots1 t1 [] [])).symm⟩ (Le.trans (fk EPlace 82) (Le.trans (fk EPlace 82) Le4)) ?_
   rintro ⟨n1, known1, x2, x2b, way1, x3, x3b⟩ ⟨hkn1, hknown1, hway1, hf1⟩
   simp only [List.cons_append, List.nil_append]
   refine Tx ?_
   refine Cd (b := decide ((n1 : Int) < (t1.length : Int))) (fun hc3 => ?_) fun hc3 => ?_
   ·have hlt0 : n1 < t1.length := Int.ofNat_lt.1 (of_decide_eq_true hc3)
    refine Tx ?_
    refine rw_q rfl rfl rfl (q_idx EPlace n1 rfl rfl Zf rfl Zf rfl rfl rfl Mm rfl Zf (fun _ => by first | assumption | omega)) ?_
    refine rw_q rfl rfl rfl (q_leA EPlace rfl rfl Zf rfl rfl Mm (fun _ => by first | assumption | omega)) ?_
    refine Al fun g4 => ?_
    refine Tx ?_
    refine Cl (nF y1 t1 (gt t1 n1).node y2 roots1) fun _ => ?_
    refine er ?_
    (repeat refine ar ?_)
    refine Cd (b := (fU t1 (gt t1 n1).node roots1)) (fun hc4 => ?_) fun hc4 => ?_
    ·refine Tx ?_
     refine bA EPlace [(gt t1 n1)] .sq (ae rfl) rfl rfl rfl rfl rfl rfl rfl rfl rfl rfl rfl rfl rfl rfl rfl fun x4 x4b => ?_
     refine cg EPlace known1 [(gt t1 n1)] (b := x2b) .sq (fun _ _ => .inl ⟨_, rfl⟩) (ae rfl) rfl rfl rfl rfl rfl rfl rfl (fun _ _ => Uo) rfl rfl rfl rfl rfl rfl rfl (dC (e := 82) (b := x4b) Mm) (by show (known1.length + 1) * 24 ≤ 140737488355328; (try simp only [List.length_append, List.length_cons, List.length_nil]); omega) fun x5 x5b => ?_
     refine Tx ?_
     refine rw_q rfl rfl rfl (q_add rfl rfl Zf rfl Zf Zo) ?_
     refine Tx ?_
     refine ⟨⟨(n1 + 1), (known1 ++ [(gt t1 n1)]), x5, x5b, way1, x3, x3b⟩, ⟨hlt0, Zl, Zl, (by rw [← hf1, aI hlt0]; simp only [ek, hc4, Cf] : (co t1 roots1) = (ek t1 roots1 (t1.drop (n1 + 1)) (known1 ++ [(gt t1 n1)]) way1)).symm⟩, (by simp only []; omega), Le4⟩
    ·refine Tx ?_
     refine Cl (nG y1 t1 (gt t1 n1).node y2 roots1) fun _ => ?_
     refine er ?_
     (repeat refine ar ?_)
     refine Cd (b := (gS t1 (gt t1 n1).node roots1)) (fun hc5 => ?_) fun hc5 => ?_
     ·refine Tx ?_
      refine bA EPlace [(gt t1 n1)] .sq (ae rfl) rfl rfl rfl rfl rfl rfl rfl rfl rfl rfl rfl rfl rfl rfl rfl fun x6 x6b => ?_
      refine cg EPlace way1 [(gt t1 n1)] (b := x3b) .sq (fun _ _ => .inl ⟨_, rfl⟩) (ae rfl) rfl rfl rfl rfl rfl rfl rfl (fun _ _ => Uo) rfl rfl rfl rfl rfl rfl rfl (dC (e := 82) (b := x6b) Mm) (by show (way1.length + 1) * 24 ≤ 140737488355328; (try simp only [List.length_append, List.length_cons, List.length_nil]); omega) fun x7 x7b => ?_
      refine Tx ?_
      refine rw_q rfl rfl rfl (q_add rfl rfl Zf rfl Zf Zo) ?_
      refine Tx ?_
      refine ⟨⟨(n1 + 1), known1, x2, x2b, (way1 ++ [(gt t1 n1)]), x7, x7b⟩, ⟨hlt0, Zl, Zl, (by rw [← hf1, aI hlt0]; simp only [ek, hc4, hc5, Cf] : (co t1 roots1) = (ek t1 roots1 (t1.drop (n1 + 1)) known1 (way1 ++ [(gt t1 n1)]))).symm⟩, (by simp only []; omega), Le4⟩
     ·refine Tx ?_
      refine rw_q rfl rfl rfl (q_add rfl rfl Zf rfl Zf Zo) ?_
      refine Tx ?_
      refine ⟨⟨(n1 + 1), known1, x2, x2b, way1, x3, x3b⟩, ⟨hlt0, Zl, Zl, (by rw [← hf1, aI hlt0]; simp only [ek, hc4, hc5, Cf] : (co t1 roots1) = (ek t1 roots1 (t1.drop (n1 + 1)) known1 way1)).symm⟩, (by simp only []; omega), Le4⟩
   ·have hge0 : t1.length ≤ n1 := by have := of_decide_eq_false hc3; omega
    refine Tx ?_
    refine cw_le (aA EInt 3 x1.1 x1.2 roots1 Uo) ?_
    refine cw_le (aA EPlace 82 x2 x2b known1 Uo) ?_
    refine cw_le (aA EPlace 82 x3 x3b way1 Uo) ?_
    refine ak ?_; rw [show (co t1 roots1) = ((⟨roots1, known1, way1⟩ : View), 0) by rw [← hf1, List.drop_of_length_le hge0]; simp only [ek, Cf]]; exact Re ⟨x1.1, x2, x3⟩ (Va (Vt Vn))
def fB (a1 : View) (b1 : View) : Bool :=
 (((decide (a1.roots = b1.roots)) && (decide (a1.known = b1.known))) && (decide (a1.way = b1.way)))
theorem ju (y1 : SlV) (y2 : SlV) (y3 : SlV) (a1 : View) (y4 : SlV) (y5 : SlV) (y6 : SlV) (b1 : View) : Does Tryz.prog 40 [.agg ⟨[y1.val a1.roots.length, y2.val a1.known.length, y3.val a1.way.length]⟩, .agg ⟨[y4.val b1.roots.length, y5.val b1.known.length, y6.val b1.way.length]⟩] [RdL EInt y1 a1.roots, RdL EPlace y2 a1.known, RdL EPlace y3 a1.way, RdL EInt y4 b1.roots, RdL EPlace y5 b1.known, RdL EPlace y6 b1.way] (fun (_ : Unit) => .bool (fB a1 b1)) (fun _ => []) := by
 refine bd aV Tryz.func40 rfl Tryz.ntmps40 Tryz.results40 rfl inferInstance (fun _ => inferInstance) fun C => ?_
 refine Pc EInt y1 a1.roots 8 fun hlen1 => ?_
 refine Pc EPlace y2 a1.known 24 fun hlen2 => ?_
 refine Pc EPlace y3 a1.way 24 fun hlen3 => ?_
 refine Pc EInt y4 b1.roots 8 fun hlen4 => ?_
 refine Pc EPlace y5 b1.known 24 fun hlen5 => ?_
 refine Pc EPlace y6 b1.way 24 fun hlen6 => ?_
 refine Tx ?_
 refine Bx fun g1 => ?_
 refine Bx fun g2 => ?_
 refine Tx ?_
 refine Cl ((fun y1 a y2 b => dS y1 y2 a b) y1 a1.roots y4 b1.roots) fun _ => ?_
 refine Tx ?_
 refine c6 (fun hG_ => (fun y1 a y2 b => dm y1 y2 a b) y2 a1.known y5 b1.known) Zf .sq (au rfl rfl rfl) rfl rfl rfl Kr rfl Bt Sm ?_
 refine Tx ?_
 refine c6 (fun hG_ => (fun y1 a y2 b => dm y1 y2 a b) y3 a1.way y6 b1.way) Zf .sq (au rfl rfl rfl) rfl rfl rfl Kr rfl Bt Sm ?_
 refine Tx ?_
 refine ak ?_; simp only [fB, Cf]; exact Re () (Vt Vn)
theorem iZ (p : Place) : ∀ (l : List Place) (d : Bool) (acc : List Place), (cT p l d acc).length ≤ acc.length + l.length + (bif d then 0 else 1)
 | [], d, acc => by rw [cT]; cases d <;> simp
 | q :: r, d, acc => by
  rw [cT]
  cases h1 : (!d && decide (q.node ≥ p.node)) with
  | true =>
   have hd : d = false := by cases d; rfl; simp at h1
   subst hd
   cases (q.node != p.node) with
   | true => simp only [cond_true]; have := iZ p r true ((acc ++ [p]) ++ [q]); simp at this ⊢; omega
   | false => simp only [cond_true, cond_false]; have := iZ p r true (acc ++ [p]); simp at this ⊢; omega
  | false =>
   cases (q.node != p.node) with
   | true => simp only [cond_true, cond_false]; have := iZ p r d (acc ++ [q]); simp at this ⊢; omega
   | false => simp only [cond_false]; have := iZ p r d acc; simp at this ⊢; omega
theorem pL (l : List Place) (p : Place) : (cG l p).length ≤ l.length + 1 := by
 have := iZ p l (decide (p.parent < 0)) []
 unfold cG
 generalize decide (p.parent < 0) = d at *
 cases d <;> simp at this ⊢ <;> omega
def gq  : List Place → (List Place) → (List Place)
 | [], p1 => p1
 | pn1 :: rn1, p1 => (gq rn1 (cG p1 pn1))
def bZ (v1 : View) : List Place :=
 (gq v1.way v1.known)
theorem jZ (y1 : SlV) (y2 : SlV) (y3 : SlV) (v1 : View) (hk1 : v1.known.length ≤ 1000) (hw1 : v1.way.length ≤ 1000) : Does Tryz.prog 47 [.agg ⟨[y1.val v1.roots.length, y2.val v1.known.length, y3.val v1.way.length]⟩] [RdL EInt y1 v1.roots, RdL EPlace y2 v1.known, RdL EPlace y3 v1.way] (fun (X : SlV) => .agg ⟨[X.val (bZ v1).length]⟩) (fun X => [RdL EPlace X (bZ v1)]) := by
 refine bd aV Tryz.func47 rfl Tryz.ntmps47 Tryz.results47 rfl inferInstance (fun _ => inferInstance) fun C => ?_
 refine Pc EInt y1 v1.roots 8 fun hlen1 => ?_
 refine Pc EPlace y2 v1.known 24 fun hlen2 => ?_
 refine Pc EPlace y3 v1.way 24 fun hlen3 => ?_
 refine Tx ?_
 refine Bx fun g1 => ?_
 refine Al fun g2 => ?_
 refine Tx ?_
 refine Cg (du y2 v1.known) fun x1 => ?_
 refine Rp rfl rfl rfl rfl ?_
 refine Al fun g3 => ?_
 refine Tx ?_
 (repeat refine ar ?_); refine Lp [2,3,11,12] [false, true, true] (fun (i_ : Nat × List Place × SlV) => match i_ with | ⟨n1, p1, x2⟩ => (⟨[(13, .v (.int .i64 (n1 : Int)))], [⟨g3, 25, [x2.val p1.length]⟩], [], [RdL EPlace x2 p1], (n1 ≤ v1.way.length) ∧ (p1.length ≤ v1.known.length + n1) ∧ (gq (v1.way.drop n1) p1) = (bZ v1), v1.way.length - n1⟩ : Ls)) ⟨0, v1.known, x1.1⟩ (Sc (Sc (Sc (Sc Sn)))) (.drop (.keep (.keep (.nil)))) ⟨Nat.zero_le _, (by simp), (by simp only [bZ, Cf] : (bZ v1) = (gq v1.way v1.known)).symm⟩ (Le.trans (aA EPlace 82 x1.1 x1.2 v1.known Uo) Le4) ?_
 rintro ⟨n1, p1, x2⟩ ⟨hkn1, hpb, hf1⟩
 simp only [List.cons_append, List.nil_append]
 refine Tx ?_
 refine Cd (b := decide ((n1 : Int) < (v1.way.length : Int))) (fun hc1 => ?_) fun hc1 => ?_
 ·have hlt0 : n1 < v1.way.length := Int.ofNat_lt.1 (of_decide_eq_true hc1)
  refine Tx ?_
  refine rw_q rfl rfl rfl (q_idx EPlace n1 rfl rfl Zf rfl Zf rfl rfl rfl Mm rfl Zf (fun _ => by first | assumption | omega)) ?_
  refine rw_q rfl rfl rfl (q_leA EPlace rfl rfl Zf rfl rfl Mm (fun _ => by first | assumption | omega)) ?_
  refine Al fun g4 => ?_
  refine Tx ?_
  refine Cl (fV x2 p1 (gt v1.way n1) (by omega)) fun x3 => ?_
  refine Pr EPlace x3 (cG p1 (gt v1.way n1)) 24 fun hlen4 => ?_
  refine Tx ?_
  refine rw_q rfl rfl rfl (q_add rfl rfl Zf rfl Zf Zo) ?_
  refine Tx ?_
  refine ⟨⟨(n1 + 1), (cG p1 (gt v1.way n1)), x3⟩, ⟨hlt0, (by have := pL p1 (gt v1.way n1); simp only []; omega), (by rw [← hf1, aI hlt0]; simp only [gq, Cf] : (bZ v1) = (gq (v1.way.drop (n1 + 1)) (cG p1 (gt v1.way n1)))).symm⟩, (by simp only []; omega), Le4⟩
 ·have hge0 : v1.way.length ≤ n1 := by have := of_decide_eq_false hc1; omega
  refine Tx ?_
  refine ak ?_; rw [show (bZ v1) = p1 by rw [← hf1, List.drop_of_length_le hge0]; simp only [gq, Cf]]; exact Re x2 (Va Vn)
def eN (v1 : View) : Int :=
 (bif (((co (bZ v1) v1.roots).2 == 0) && (!(fB (co (bZ v1) v1.roots).1 v1))) then 4 else (co (bZ v1) v1.roots).2)
def eO (v1 : View) : Int :=
 (bif ((bx v1.way) != 0) then (bx v1.way) else (eN v1))
def eP (v1 : View) : Int :=
 (bif ((bx v1.known) != 0) then (bx v1.known) else (eO v1))
def bF (v1 : View) : Int :=
 (bif ((bO v1.roots) != 0) then (bO v1.roots) else (eP v1))
theorem fh (y1 : SlV) (y2 : SlV) (y3 : SlV) (v1 : View) : Does Tryz.prog 68 [.agg ⟨[y1.val v1.roots.length, y2.val v1.known.length, y3.val v1.way.length]⟩] [RdL EInt y1 v1.roots, RdL EPlace y2 v1.known, RdL EPlace y3 v1.way] (fun (_ : Unit) => .int .i64 (bF v1)) (fun _ => []) := by
 refine bd aV Tryz.func68 rfl Tryz.ntmps68 Tryz.results68 rfl inferInstance (fun _ => inferInstance) fun C => ?_
 refine Pc EInt y1 v1.roots 8 fun hlen1 => ?_
 refine Pc EPlace y2 v1.known 24 fun hlen2 => ?_
 refine Pc EPlace y3 v1.way 24 fun hlen3 => ?_
 refine Tx ?_
 refine Bx fun g1 => ?_
 refine Tx ?_
 refine Cl (gG y1 v1.roots) fun _ => ?_
 refine Tx ?_
 refine Cd (b := ((bO v1.roots) != 0)) (fun hc1 => ?_) fun hc1 => ?_
 ·have hc1p := bne_iff_ne.1 hc1
  refine Tx ?_
  refine ak ?_; simp only [bF, hc1, Cf]; exact Re () (Vt Vn)
 ·have hc1p := ag hc1
  refine Tx ?_
  refine rw_q rfl rfl rfl (lu rfl rfl Zf rfl rfl rfl rfl) ?_
  refine Tx ?_
  (repeat refine ar ?_); refine Lp [1,2,19] [true] (fun (n1 : Nat) => (⟨[(20, .v (.int .i64 (n1 : Int)))], [], [], [], (n1 ≤ 2) ∧ (1 ≤ n1 → bx v1.known = 0) ∧ (2 ≤ n1 → bx v1.way = 0) ∧ (match n1 with | 0 => (eP v1) | 1 => (eO v1) | _ => (eN v1)) = (bF v1), 2 - n1⟩ : Ls)) 0 (Sc (Sc (Sc Sn))) (.keep (.nil)) ⟨Nat.zero_le _, (fun h => absurd h (by omega)), (fun h => absurd h (by omega)), (by simp only [bF, hc1, Cf] : (bF v1) = (eP v1)).symm⟩ Le4 ?_
  rintro n1 ⟨hkn1, hi1, hi2, hf1⟩
  simp only [List.cons_append, List.nil_append]
  have hkn13 : n1 = 0 ∨ n1 = 1 ∨ n1 = 2 := by omega
  rcases hkn13 with rfl | rfl | rfl
  ·have hf1 : (eP v1) = (bF v1) := hf1
   refine Tx ?_
   refine Cd (b := decide ((0 : Int) < 2)) (fun hc2 => ?_) fun hc2 => ?_
   ·refine Tx ?_
    refine rw_q rfl rfl rfl (q_ixL 0 rfl rfl Zf rfl Zf rfl rfl rfl rfl rfl) ?_
    refine Tx ?_
    refine Cl (ez y2 v1.known) fun _ => ?_
    refine Tx ?_
    refine Cd (b := ((bx v1.known) != 0)) (fun hc3 => ?_) fun hc3 => ?_
    ·have hc3p := bne_iff_ne.1 hc3
     refine Tx ?_
     refine ak ?_; rw [show (bF v1) = (bx v1.known) by rw [← hf1]; simp only [eP, hc3, Cf]]; exact Re () (Vt Vn)
    ·have hc3p := ag hc3
     have hck := ag hc3
     refine Tx ?_
     refine rw_q rfl rfl rfl (q_add rfl rfl Zf rfl Zf (fun _ => by decide)) ?_
     refine Tx ?_
     refine ⟨1, ⟨by omega, (fun _ => by first | exact hck | exact hi1 (by omega) | omega), (fun _ => by first | exact hck | omega), (by rw [← hf1]; simp only [eP, hc3, Cf] : (bF v1) = (eO v1)).symm⟩, (show 2 - 1 < 2 - 0 by decide), Le4⟩
   ·exact Bool.noConfusion (hc2.symm.trans (decide_eq_true (by decide)))
  ·have hf1 : (eO v1) = (bF v1) := hf1
   refine Tx ?_
   refine Cd (b := decide ((1 : Int) < 2)) (fun hc4 => ?_) fun hc4 => ?_
   ·refine Tx ?_
    refine rw_q rfl rfl rfl (q_ixL 1 rfl rfl Zf rfl Zf rfl rfl rfl rfl rfl) ?_
    refine Tx ?_
    refine Cl (ez y3 v1.way) fun _ => ?_
    refine Tx ?_
    refine Cd (b := ((bx v1.way) != 0)) (fun hc5 => ?_) fun hc5 => ?_
    ·have hc5p := bne_iff_ne.1 hc5
     refine Tx ?_
     refine ak ?_; rw [show (bF v1) = (bx v1.way) by rw [← hf1]; simp only [eO, hc5, Cf]]; exact Re () (Vt Vn)
    ·have hc5p := ag hc5
     have hck := ag hc5
     refine Tx ?_
     refine rw_q rfl rfl rfl (q_add rfl rfl Zf rfl Zf (fun _ => by decide)) ?_
     refine Tx ?_
     refine ⟨2, ⟨by omega, (fun _ => by first | exact hck | exact hi1 (by omega) | omega), (fun _ => by first | exact hck | omega), (by rw [← hf1]; simp only [eO, hc5, Cf] : (bF v1) = (eN v1)).symm⟩, (show 2 - 2 < 2 - 1 by decide), Le4⟩
   ·exact Bool.noConfusion (hc4.symm.trans (decide_eq_true (by decide)))
  ·have hf1 : (eN v1) = (bF v1) := hf1
   refine Tx ?_
   refine Cd (b := decide ((2 : Int) < 2)) (fun hc6 => ?_) fun hc6 => ?_
   ·exact Bool.noConfusion (hc6.symm.trans (decide_eq_false (by decide)))
   ·refine Tx ?_
    refine ge [1, 2] [true] (fun (i_ : Nat × SlV × SlV × SlV) => match i_ with | ⟨g2, x1, x2, x3⟩ => [(7, .v (.pointer (some ⟨g2, 0, none⟩))), (8, .v (.int .i64 (co (bZ v1) v1.roots).2))]) (fun (i_ : Nat × SlV × SlV × SlV) => match i_ with | ⟨g2, x1, x2, x3⟩ => [⟨g2, 58, [x1.val (co (bZ v1) v1.roots).1.roots.length, x2.val (co (bZ v1) v1.roots).1.known.length, x3.val (co (bZ v1) v1.roots).1.way.length]⟩]) (fun (i_ : Nat × SlV × SlV × SlV) => match i_ with | ⟨g2, x1, x2, x3⟩ => []) (fun (i_ : Nat × SlV × SlV × SlV) => match i_ with | ⟨g2, x1, x2, x3⟩ => [RdL EInt x1 (co (bZ v1) v1.roots).1.roots, RdL EPlace x2 (co (bZ v1) v1.roots).1.known, RdL EPlace x3 (co (bZ v1) v1.roots).1.way]) (fun _ => True) (.cons rfl (.cons rfl (.nil _))) (.keep (.nil)) ?_ ?_
    ·refine aw (fun j => match j with | 9 => none | _ => some []) ?_
     refine Rb 0 rfl (q_ldA rfl rfl Zf rfl Mm rfl) ?_
     refine Rb 2 rfl Qp ?_
     refine Rb 3 rfl Q1 ?_
     refine fF 1 8 Kr ?_ ?_
     ·refine cR (jZ y1 y2 y3 v1 (Nat.le_trans (le (hi1 (by omega))) (by omega)) (Nat.le_trans (le (hi2 (by omega))) (by omega))) (.an rfl rfl) (ae rfl) rfl rfl rfl Kr rfl rfl Sm ?_
      intro x4
      refine Pr EPlace x4 (bZ v1) 24 fun hlen4 => ?_
      refine fF 4 8 Kr ?_ ?_
      ·refine cR (jk x4 (bZ v1) y1 v1.roots) (.an rfl rfl) (ae rfl) rfl rfl rfl Kr rfl rfl Sm ?_
       intro x5
       refine Pr EInt x5.1 (co (bZ v1) v1.roots).1.roots 8 fun hlen5 => ?_
       refine Pr EPlace x5.2.1 (co (bZ v1) v1.roots).1.known 24 fun hlen6 => ?_
       refine Pr EPlace x5.2.2 (co (bZ v1) v1.roots).1.way 24 fun hlen7 => ?_
       refine Ra 5 rfl Qp ?_
       refine Ra 6 rfl Qp ?_
       refine ra_p (.an (i := 7) (js := [8, 9]) rfl Kr Kr Kr Kr) rfl rfl rfl (q_pev rfl Zf) ?_
       refine av 8 Kr ?_
       refine dh (.an rfl rfl) (ae rfl) rfl rfl rfl rfl fun g3 => ?_
       refine av 9 Kr ?_
       refine di (.lo [g3] rfl rfl) (.inr (by simp)) (ae rfl) rfl rfl rfl rfl rfl rfl rfl rfl rfl Ub rfl ?_
       refine Ra 10 rfl Qp ?_
       refine bj Kr ?_
       refine ⟨⟨g3, x5.1, x5.2.1, x5.2.2⟩, trivial, Le4⟩
      ·refine dh (.an rfl rfl) (ae rfl) rfl rfl rfl rfl fun g4 => ?_
       refine av 4 Kr ?_
       refine cR (jk x4 (bZ v1) y1 v1.roots) (.an rfl rfl) (ae rfl) rfl rfl rfl Kr rfl rfl Sm ?_
       intro x6
       refine Pr EInt x6.1 (co (bZ v1) v1.roots).1.roots 8 fun hlen8 => ?_
       refine Pr EPlace x6.2.1 (co (bZ v1) v1.roots).1.known 24 fun hlen9 => ?_
       refine Pr EPlace x6.2.2 (co (bZ v1) v1.roots).1.way 24 fun hlen10 => ?_
       refine Ra 5 rfl Qp ?_
       refine Ra 6 rfl Qp ?_
       refine ra_p (.an (i := 7) (js := [9]) rfl Kr Kr Kr Kr) rfl rfl rfl (q_pev rfl Zf) ?_
       refine av 9 Kr ?_
       refine di (.lo [g4] rfl rfl) (.inr (by simp)) (ae rfl) rfl rfl rfl rfl rfl rfl rfl rfl rfl Ub rfl ?_
       refine Ra 10 rfl Qp ?_
       refine bj Kr ?_
       refine ⟨⟨g4, x6.1, x6.2.1, x6.2.2⟩, trivial, Le4⟩
     ·refine dh (.an rfl rfl) (ae rfl) rfl rfl rfl rfl fun g5 => ?_
      refine av 1 Kr ?_
      refine cR (jZ y1 y2 y3 v1 (Nat.le_trans (le (hi1 (by omega))) (by omega)) (Nat.le_trans (le (hi2 (by omega))) (by omega))) (.an rfl rfl) (ae rfl) rfl rfl rfl Kr rfl rfl Sm ?_
      intro x7
      refine Pr EPlace x7 (bZ v1) 24 fun hlen11 => ?_
      refine av 4 Kr ?_
      refine cR (jk x7 (bZ v1) y1 v1.roots) (.an rfl rfl) (ae rfl) rfl rfl rfl Kr rfl rfl Sm ?_
      intro x8
      refine Pr EInt x8.1 (co (bZ v1) v1.roots).1.roots 8 fun hlen12 => ?_
      refine Pr EPlace x8.2.1 (co (bZ v1) v1.roots).1.known 24 fun hlen13 => ?_
      refine Pr EPlace x8.2.2 (co (bZ v1) v1.roots).1.way 24 fun hlen14 => ?_
      refine Ra 5 rfl Qp ?_
      refine Ra 6 rfl Qp ?_
      refine ra_p (.an (i := 7) (js := [9]) rfl Kr Kr Kr Kr) rfl rfl rfl (q_pev rfl Zf) ?_
      refine av 9 Kr ?_
      refine di (.lo [g5] rfl rfl) (.inr (by simp)) (ae rfl) rfl rfl rfl rfl rfl rfl rfl rfl rfl Ub rfl ?_
      refine Ra 10 rfl Qp ?_
      refine bj Kr ?_
      refine ⟨⟨g5, x8.1, x8.2.1, x8.2.2⟩, trivial, Le4⟩
    ·rintro ⟨g2, x1, x2, x3⟩ -
     simp only [List.cons_append, List.nil_append]
     refine Tx ?_
     refine c6 (fun hG_ => ju x1 x2 x3 (co (bZ v1) v1.roots).1 y1 y2 y3 v1) Zf .sq (au rfl rfl rfl) rfl rfl rfl Kr rfl Bt Sm ?_
     refine Tx ?_
     refine Cd (b := (((co (bZ v1) v1.roots).2 == 0) && (!(fB (co (bZ v1) v1.roots).1 v1)))) (fun hc7 => ?_) fun hc7 => ?_
     ·refine Tx ?_
      refine ak ?_; rw [show (bF v1) = 4 by rw [← hf1]; simp only [eN, hc7, Cf]]; exact Re () (Vt Vn)
     ·refine Tx ?_
      refine ak ?_; rw [show (bF v1) = (co (bZ v1) v1.roots).2 by rw [← hf1]; simp only [eN, hc7, Cf]]; exact Re () (Vt Vn)
def cU (v1 : Int) : List Int → Nat → Int
 | [], n1 => (-1)
 | pn1 :: rn1, n1 => (bif (v1 == pn1) then (n1 : Int) else (cU v1 rn1 (n1 + 1)))
def el (s1 : List Int) (v1 : Int) : Int :=
 (cU v1 s1 0)
theorem kU (y1 : SlV) (s1 : List Int) (v1 : Int) : Does Tryz.prog 121 [y1.val s1.length, .int .i64 v1] [RdL EInt y1 s1] (fun (_ : Unit) => .int .i64 (el s1 v1)) (fun _ => []) := by
 refine bd aV Tryz.func121 rfl Tryz.ntmps121 Tryz.results121 rfl inferInstance (fun _ => inferInstance) fun C => ?_
 refine Pc EInt y1 s1 8 fun hlen1 => ?_
 refine Tx ?_
 (repeat refine ar ?_); refine Lp [0,1,4,7] [] (fun (n1 : Nat) => (⟨[(8, .v (.int .i64 (n1 : Int)))], [], [], [], (n1 ≤ s1.length) ∧ (cU v1 (s1.drop n1) n1) = (el s1 v1), s1.length - n1⟩ : Ls)) 0 (Sc (Sc (Sc (Sc Sn)))) (.nil) ⟨Nat.zero_le _, (by simp only [el, Cf] : (el s1 v1) = (cU v1 s1 0)).symm⟩ Le4 ?_
 rintro n1 ⟨hkn1, hf1⟩
 simp only [List.cons_append, List.nil_append]
 refine Tx ?_
 refine Cd (b := decide ((n1 : Int) < (s1.length : Int))) (fun hc1 => ?_) fun hc1 => ?_
 ·have hlt0 : n1 < s1.length := Int.ofNat_lt.1 (of_decide_eq_true hc1)
  refine Tx ?_
  refine rw_q rfl rfl rfl (q_idx EInt n1 rfl rfl Zf rfl Zf rfl rfl rfl Mm rfl Zf (fun _ => by first | assumption | omega)) ?_
  refine rw_q rfl rfl rfl (q_le1 EInt rfl rfl Zf rfl rfl Mm (fun _ => by first | assumption | omega) rfl) ?_
  refine Tx ?_
  refine Cd (b := (v1 == (gt s1 n1))) (fun hc2 => ?_) fun hc2 => ?_
  ·have hc2p := eq_of_beq hc2
   refine Tx ?_
   refine ak ?_; rw [show (el s1 v1) = (n1 : Int) by rw [← hf1, aI hlt0]; simp only [cU, hc2, Cf]]; exact Re () (Vt Vn)
  ·have hc2p := ne_of_beq_false hc2
   refine Tx ?_
   refine rw_q rfl rfl rfl (q_add rfl rfl Zf rfl Zf Zo) ?_
   refine Tx ?_
   refine ⟨(n1 + 1), ⟨hlt0, (by rw [← hf1, aI hlt0]; simp only [cU, hc2, Cf] : (el s1 v1) = (cU v1 (s1.drop (n1 + 1)) (n1 + 1))).symm⟩, (by simp only []; omega), Le4⟩
 ·have hge0 : s1.length ≤ n1 := by have := of_decide_eq_false hc1; omega
  refine Tx ?_
  refine ak ?_; rw [show (el s1 v1) = (-1) by rw [← hf1, List.drop_of_length_le hge0]; simp only [cU, Cf]]; exact Re () (Vt Vn)
def gr (s1 : List Int) (v1 : Int) : Bool :=
 decide ((el s1 v1) ≥ 0)
theorem jJ (y1 : SlV) (s1 : List Int) (v1 : Int) : Does Tryz.prog 108 [y1.val s1.length, .int .i64 v1] [RdL EInt y1 s1] (fun (_ : Unit) => .bool (gr s1 v1)) (fun _ => []) := by
 refine bd aV Tryz.func108 rfl Tryz.ntmps108 Tryz.results108 rfl inferInstance (fun _ => inferInstance) fun C => ?_
 refine Pc EInt y1 s1 8 fun hlen1 => ?_
 refine Tx ?_
 refine Cl (kU y1 s1 v1) fun _ => ?_
 refine Tx ?_
 refine ak ?_; simp only [gr, Cf]; exact Re () (Vt Vn)
theorem kM (s : List Int) (v : Int) : gr s v = decide (v ∈ s) := by
 have key : ∀ (l : List Int) (k : Nat), decide (cU v l k ≥ 0) = decide (v ∈ l) := by
  intro l
  induction l with
  | nil => intro k; simp [cU]
  | cons p r ih =>
   intro k
   rw [cU]
   by_cases h : v = p
   ·first | (simp [h]; done) | (simp [h]; omega)
   ·have : (v == p) = false := by simpa using h
    rw [this, cond_false, ih]; simp [h]
 exact key s 0
theorem gj (y1 : SlV) (s1 : List Int) (v1 : Int) : Does Tryz.prog 108 [y1.val s1.length, .int .i64 v1] [RdL EInt y1 s1] (fun (_ : Unit) => .bool (decide (v1 ∈ s1))) (fun _ => []) := by
 have := jJ y1 s1 v1
 rw [kM] at this
 exact this
def fG  : Int :=
 0
def dx (d1 : Delta) : List Place → Nat → Int
 | [], n5 => (fG)
 | pn5 :: rn5, n5 => (bif (((((decide (pn5.node < 1) || decide (pn5.node ≥ 16)) || decide (pn5.parent < 0)) || decide (pn5.parent > 16)) || decide (pn5.name < 0)) || decide (pn5.name > 99)) then 3 else (bif ((decide ((n5 : Int) > 0) && decide ((gt d1.wayHere (n5 - 1)).node ≥ pn5.node)) || (decide (pn5.node ∈ d1.wayGone))) then 6 else (dx d1 rn5 (n5 + 1))))
def dK (d1 : Delta) : List Int → Nat → Int
 | [], n4 => (dx d1 d1.wayHere 0)
 | pn4 :: rn4, n4 => (bif (decide (pn4 < 1) || decide (pn4 ≥ 16)) then 5 else (bif (decide ((n4 : Int) > 0) && decide ((gt d1.wayGone (n4 - 1)) ≥ pn4)) then 6 else (dK d1 rn4 (n4 + 1))))
def d9 (d1 : Delta) : Int :=
 (bif (decide ((d1.wayGone.length : Int) > 16) || decide ((d1.wayHere.length : Int) > 16)) then 2 else (dK d1 d1.wayGone 0))
def dy (d1 : Delta) : List Place → Nat → Int
 | [], n3 => (d9 d1)
 | pn3 :: rn3, n3 => (bif (((((decide (pn3.node < 1) || decide (pn3.node ≥ 16)) || decide (pn3.parent < 0)) || decide (pn3.parent > 16)) || decide (pn3.name < 0)) || decide (pn3.name > 99)) then 3 else (bif ((decide ((n3 : Int) > 0) && decide ((gt d1.here (n3 - 1)).node ≥ pn3.node)) || (decide (pn3.node ∈ d1.gone))) then 6 else (dy d1 rn3 (n3 + 1))))
def dL (d1 : Delta) : List Int → Nat → Int
 | [], n2 => (dy d1 d1.here 0)
 | pn2 :: rn2, n2 => (bif (decide (pn2 < 1) || decide (pn2 ≥ 16)) then 5 else (bif (decide ((n2 : Int) > 0) && decide ((gt d1.gone (n2 - 1)) ≥ pn2)) then 6 else (dL d1 rn2 (n2 + 1))))
def eG (d1 : Delta) : Int :=
 (bif (decide ((d1.gone.length : Int) > 16) || decide ((d1.here.length : Int) > 16)) then 2 else (dL d1 d1.gone 0))
def bm (d1 : Delta) : Int :=
 (eG d1)
theorem iq (y1 : SlV) (y2 : SlV) (y3 : SlV) (y4 : SlV) (d1 : Delta) : Does Tryz.prog 88 [.agg ⟨[y1.val d1.gone.length, y2.val d1.here.length, y3.val d1.wayGone.length, y4.val d1.wayHere.length]⟩] [RdL EInt y1 d1.gone, RdL EPlace y2 d1.here, RdL EInt y3 d1.wayGone, RdL EPlace y4 d1.wayHere] (fun (_ : Unit) => .int .i64 (bm d1)) (fun _ => []) := by
 refine bd aV Tryz.func88 rfl Tryz.ntmps88 Tryz.results88 rfl inferInstance (fun _ => inferInstance) fun C => ?_
 refine Pc EInt y1 d1.gone 8 fun hlen1 => ?_
 refine Pc EPlace y2 d1.here 24 fun hlen2 => ?_
 refine Pc EInt y3 d1.wayGone 8 fun hlen3 => ?_
 refine Pc EPlace y4 d1.wayHere 24 fun hlen4 => ?_
 refine Tx ?_
 refine Bx fun g1 => ?_
 refine Tx ?_
 refine rw_q rfl rfl rfl (lu rfl rfl Zf rfl rfl rfl rfl) ?_
 refine Tx ?_
 (repeat refine ar ?_); refine Lp [1,2,14] [true] (fun (n1 : Nat) => (⟨[(15, .v (.int .i64 (n1 : Int)))], [], [], [], (n1 ≤ 2) ∧ (match n1 with | 0 => (eG d1) | 1 => (d9 d1) | _ => fG) = (bm d1), 2 - n1⟩ : Ls)) 0 (Sc (Sc (Sc Sn))) (.keep (.nil)) ⟨Nat.zero_le _, (by simp only [bm, Cf] : (bm d1) = (eG d1)).symm⟩ Le4 ?_
 rintro n1 ⟨hkn1, hf1⟩
 simp only [List.cons_append, List.nil_append]
 have hkn13 : n1 = 0 ∨ n1 = 1 ∨ n1 = 2 := by omega
 rcases hkn13 with rfl | rfl | rfl
 ·have hf1 : (eG d1) = (bm d1) := hf1
  refine Tx ?_
  refine Cd (b := decide ((0 : Int) < 2)) (fun hc1 => ?_) fun hc1 => ?_
  ·refine Tx ?_
   refine rw_q rfl rfl rfl (q_ixL 0 rfl rfl Zf rfl Zf rfl rfl rfl rfl rfl) ?_
   refine Tx ?_
   refine rw_q rfl rfl rfl (lu rfl rfl Zf rfl rfl rfl rfl) ?_
   refine Rp rfl rfl rfl rfl ?_
   refine rw_q rfl rfl rfl (q_ixL 0 rfl rfl Zf rfl Zf rfl rfl rfl rfl rfl) ?_
   refine Tx ?_
   refine Cd (b := (decide ((d1.gone.length : Int) > 16) || decide ((d1.here.length : Int) > 16))) (fun hc2 => ?_) fun hc2 => ?_
   ·refine Tx ?_
    refine ak ?_; rw [show (bm d1) = 2 by rw [← hf1]; simp only [eG, hc2, Cf]]; exact Re () (Vt Vn)
   ·refine Tx ?_
    (repeat refine ar ?_); refine Lp [1,2,3,4,5,14,15,16,17,18,19,20,21,22,23,24,25,26,27,28,29,33,34,35] [true] (fun (n2 : Nat) => (⟨[(36, .v (.int .i64 (n2 : Int)))], [], [], [], (n2 ≤ d1.gone.length) ∧ (dL d1 (d1.gone.drop n2) n2) = (bm d1), d1.gone.length - n2⟩ : Ls)) 0 (Sc (Sc (Sc (Sc (Sc (Sc (Sc (Sc (Sc (Sc (Sc (Sc (Sc (Sc (Sc (Sc (Sc (Sc (Sc (Sc (Sc (Sc (Sc (Sc Sn)))))))))))))))))))))))) (.keep (.nil)) ⟨Nat.zero_le _, (by rw [← hf1]; simp only [eG, hc2, Cf] : (bm d1) = (dL d1 d1.gone 0)).symm⟩ Le4 ?_
    rintro n2 ⟨hkn2, hf2⟩
    simp only [List.cons_append, List.nil_append]
    refine Tx ?_
    refine Cd (b := decide ((n2 : Int) < (d1.gone.length : Int))) (fun hc3 => ?_) fun hc3 => ?_
    ·have hlt1 : n2 < d1.gone.length := Int.ofNat_lt.1 (of_decide_eq_true hc3)
     refine Tx ?_
     refine rw_q rfl rfl rfl (q_idx EInt n2 rfl rfl Zf rfl Zf rfl rfl rfl Mm rfl Zf (fun _ => by first | assumption | omega)) ?_
     refine rw_q rfl rfl rfl (q_le1 EInt rfl rfl Zf rfl rfl Mm (fun _ => by first | assumption | omega) rfl) ?_
     refine Tx ?_
     refine Cd (b := (decide ((gt d1.gone n2) < 1) || decide ((gt d1.gone n2) ≥ 16))) (fun hc4 => ?_) fun hc4 => ?_
     ·refine Tx ?_
      refine ak ?_; rw [show (bm d1) = 5 by rw [← hf2, aI hlt1]; simp only [dL, hc4, Cf]]; exact Re () (Vt Vn)
     ·refine Tx ?_
      refine rw_qg (au rfl rfl rfl) rfl rfl (q_sub rfl rfl Bt rfl Bt (by intro h; first | omega | (simp at h; omega))) ?_
      refine rw_qg (au rfl rfl rfl) rfl rfl (q_idx EInt (n2 - 1) rfl rfl Bt rfl Bt rfl rfl rfl Mm rfl (by intro h; first | omega | rfl | (simp at h; omega)) (by first | (intro _; first | assumption | omega) | (intro h; simp at h; omega))) ?_
      refine rw_qg (au rfl rfl rfl) rfl rfl (q_le1 EInt rfl rfl Bt rfl rfl Mm (by first | (intro _; first | assumption | omega) | (intro h; simp at h; omega)) rfl) ?_
      refine Tx ?_
      refine Cd (b := (decide ((n2 : Int) > 0) && decide ((gt d1.gone (n2 - 1)) ≥ (gt d1.gone n2)))) (fun hc5 => ?_) fun hc5 => ?_
      ·refine Tx ?_
       refine ak ?_; rw [show (bm d1) = 6 by rw [← hf2, aI hlt1]; simp only [dL, hc4, hc5, Cf]]; exact Re () (Vt Vn)
      ·refine Tx ?_
       refine rw_q rfl rfl rfl (q_add rfl rfl Zf rfl Zf Zo) ?_
       refine Tx ?_
       refine ⟨(n2 + 1), ⟨hlt1, (by rw [← hf2, aI hlt1]; simp only [dL, hc4, hc5, Cf] : (bm d1) = (dL d1 (d1.gone.drop (n2 + 1)) (n2 + 1))).symm⟩, (by simp only []; omega), Le4⟩
    ·have hge1 : d1.gone.length ≤ n2 := by have := of_decide_eq_false hc3; omega
     refine Tx ?_
     (repeat refine ar ?_); refine Lp [1,2,3,4,5,14,15,16,17,18,19,20,21,22,23,24,25,26,27,28,29,33,34,35,36,37,59,60] [true] (fun (n3 : Nat) => (⟨[(61, .v (.int .i64 (n3 : Int)))], [], [], [], (n3 ≤ d1.here.length) ∧ (dy d1 (d1.here.drop n3) n3) = (bm d1), d1.here.length - n3⟩ : Ls)) 0 (Sc (Sc (Sc (Sc (Sc (Sc (Sc (Sc (Sc (Sc (Sc (Sc (Sc (Sc (Sc (Sc (Sc (Sc (Sc (Sc (Sc (Sc (Sc (Sc (Sc (Sc (Sc (Sc Sn)))))))))))))))))))))))))))) (.keep (.nil)) ⟨Nat.zero_le _, (by rw [← hf2, List.drop_of_length_le hge1]; simp only [dL, Cf] : (bm d1) = (dy d1 d1.here 0)).symm⟩ Le4 ?_
     rintro n3 ⟨hkn3, hf3⟩
     simp only [List.cons_append, List.nil_append]
     refine Tx ?_
     refine Cd (b := decide ((n3 : Int) < (d1.here.length : Int))) (fun hc6 => ?_) fun hc6 => ?_
     ·have hlt2 : n3 < d1.here.length := Int.ofNat_lt.1 (of_decide_eq_true hc6)
      refine Tx ?_
      refine rw_q rfl rfl rfl (q_idx EPlace n3 rfl rfl Zf rfl Zf rfl rfl rfl Mm rfl Zf (fun _ => by first | assumption | omega)) ?_
      refine rw_q rfl rfl rfl (q_leA EPlace rfl rfl Zf rfl rfl Mm (fun _ => by first | assumption | omega)) ?_
      refine Al fun g2 => ?_
      refine Tx ?_
      refine Cd (b := (((((decide ((gt d1.here n3).node < 1) || decide ((gt d1.here n3).node ≥ 16)) || decide ((gt d1.here n3).parent < 0)) || decide ((gt d1.here n3).parent > 16)) || decide ((gt d1.here n3).name < 0)) || decide ((gt d1.here n3).name > 99))) (fun hc7 => ?_) fun hc7 => ?_
      ·refine Tx ?_
       refine ak ?_; rw [show (bm d1) = 3 by rw [← hf3, aI hlt2]; simp only [dy, hc7, Cf]]; exact Re () (Vt Vn)
      ·refine Tx ?_
       (repeat refine ar ?_); refine aw (fun _ => some []) ?_
       refine Rb 0 rfl Qp ?_
       refine Rb 1 rfl Qp ?_
       refine Rb 2 rfl Qp ?_
       refine Gb 3 rfl (au rfl rfl rfl) (q_pev rfl Bt) ?_
       refine Gb 4 rfl (au rfl rfl rfl) (q_pev rfl Bt) ?_
       refine Gb 5 rfl (au rfl rfl rfl) (q_sub rfl rfl Bt rfl Bt (by intro h; first | omega | (simp at h; omega))) ?_
       refine Gb 6 rfl (au rfl rfl rfl) (q_idx EPlace (n3 - 1) rfl rfl Bt rfl Bt rfl rfl rfl Mm rfl (by intro h; first | omega | rfl | (simp at h; omega)) (by first | (intro _; first | assumption | omega) | (intro h; simp at h; omega))) ?_
       refine Gb 7 rfl (au rfl rfl rfl) (q_fae rfl rfl Bt rfl rfl) ?_
       refine Gb 8 rfl (au rfl rfl rfl) (q_le1 EPlace rfl rfl Bt rfl rfl Mm (by first | (intro _; first | assumption | omega) | (intro h; simp at h; omega)) rfl) ?_
       refine Gb 9 rfl (au rfl rfl rfl) (q_pev rfl Bt) ?_
       refine Gb 10 rfl (au rfl rfl rfl) (q_ld1 rfl rfl Bt rfl Mm rfl) ?_
       refine Gb 11 rfl (au rfl rfl rfl) (q_pev rfl Bt) ?_
       refine Rb 12 rfl (q_pev rfl Bt) ?_
       refine Ra 13 rfl Qp ?_
       refine Gb 14 rfl (aD rfl rfl rfl) (q_pev rfl Bt) ?_
       refine Gb 15 rfl (aD rfl rfl rfl) (q_pev rfl Bt) ?_
       refine Gb 16 rfl (aD rfl rfl rfl) (q_ld1 rfl rfl Bt rfl Mm rfl) ?_
       refine av 17 Kr ?_
       refine c6 (fun hG_ => gj y1 d1.gone (gt d1.here n3).node) Zf (.an rfl rfl) (aD rfl rfl rfl) rfl rfl rfl Kr rfl Bt Sm ?_
       refine Ra 18 rfl (q_pev rfl Bt) ?_
       refine bj Kr ?_
       (repeat refine ar ?_)
       refine Cd (b := ((decide ((n3 : Int) > 0) && decide ((gt d1.here (n3 - 1)).node ≥ (gt d1.here n3).node)) || (decide ((gt d1.here n3).node ∈ d1.gone)))) (fun hc8 => ?_) fun hc8 => ?_
       ·refine Tx ?_
        refine ak ?_; rw [show (bm d1) = 6 by rw [← hf3, aI hlt2]; simp only [dy, hc7, hc8, Cf]]; exact Re () (Vt Vn)
       ·refine Tx ?_
        refine rw_q rfl rfl rfl (q_add rfl rfl Zf rfl Zf Zo) ?_
        refine Tx ?_
        refine ⟨(n3 + 1), ⟨hlt2, (by rw [← hf3, aI hlt2]; simp only [dy, hc7, hc8, Cf] : (bm d1) = (dy d1 (d1.here.drop (n3 + 1)) (n3 + 1))).symm⟩, (by simp only []; omega), Le4⟩
     ·have hge2 : d1.here.length ≤ n3 := by have := of_decide_eq_false hc6; omega
      refine Tx ?_
      refine rw_q rfl rfl rfl (q_add rfl rfl Zf rfl Zf (fun _ => by decide)) ?_
      refine Tx ?_
      refine ⟨1, ⟨by omega, (by rw [← hf3, List.drop_of_length_le hge2]; simp only [dy, Cf] : (bm d1) = (d9 d1)).symm⟩, (show 2 - 1 < 2 - 0 by decide), Le4⟩
  ·exact Bool.noConfusion (hc1.symm.trans (decide_eq_true (by decide)))
 ·have hf1 : (d9 d1) = (bm d1) := hf1
  refine Tx ?_
  refine Cd (b := decide ((1 : Int) < 2)) (fun hc9 => ?_) fun hc9 => ?_
  ·refine Tx ?_
   refine rw_q rfl rfl rfl (q_ixL 1 rfl rfl Zf rfl Zf rfl rfl rfl rfl rfl) ?_
   refine Tx ?_
   refine rw_q rfl rfl rfl (lu rfl rfl Zf rfl rfl rfl rfl) ?_
   refine Rp rfl rfl rfl rfl ?_
   refine rw_q rfl rfl rfl (q_ixL 1 rfl rfl Zf rfl Zf rfl rfl rfl rfl rfl) ?_
   refine Tx ?_
   refine Cd (b := (decide ((d1.wayGone.length : Int) > 16) || decide ((d1.wayHere.length : Int) > 16))) (fun hc10 => ?_) fun hc10 => ?_
   ·refine Tx ?_
    refine ak ?_; rw [show (bm d1) = 2 by rw [← hf1]; simp only [d9, hc10, Cf]]; exact Re () (Vt Vn)
   ·refine Tx ?_
    (repeat refine ar ?_); refine Lp [1,2,3,4,5,14,15,16,17,18,19,20,21,22,23,24,25,26,27,28,29,33,34,35] [true] (fun (n4 : Nat) => (⟨[(36, .v (.int .i64 (n4 : Int)))], [], [], [], (n4 ≤ d1.wayGone.length) ∧ (dK d1 (d1.wayGone.drop n4) n4) = (bm d1), d1.wayGone.length - n4⟩ : Ls)) 0 (Sc (Sc (Sc (Sc (Sc (Sc (Sc (Sc (Sc (Sc (Sc (Sc (Sc (Sc (Sc (Sc (Sc (Sc (Sc (Sc (Sc (Sc (Sc (Sc Sn)))))))))))))))))))))))) (.keep (.nil)) ⟨Nat.zero_le _, (by rw [← hf1]; simp only [d9, hc10, Cf] : (bm d1) = (dK d1 d1.wayGone 0)).symm⟩ Le4 ?_
    rintro n4 ⟨hkn4, hf4⟩
    simp only [List.cons_append, List.nil_append]
    refine Tx ?_
    refine Cd (b := decide ((n4 : Int) < (d1.wayGone.length : Int))) (fun hc11 => ?_) fun hc11 => ?_
    ·have hlt1 : n4 < d1.wayGone.length := Int.ofNat_lt.1 (of_decide_eq_true hc11)
     refine Tx ?_
     refine rw_q rfl rfl rfl (q_idx EInt n4 rfl rfl Zf rfl Zf rfl rfl rfl Mm rfl Zf (fun _ => by first | assumption | omega)) ?_
     refine rw_q rfl rfl rfl (q_le1 EInt rfl rfl Zf rfl rfl Mm (fun _ => by first | assumption | omega) rfl) ?_
     refine Tx ?_
     refine Cd (b := (decide ((gt d1.wayGone n4) < 1) || decide ((gt d1.wayGone n4) ≥ 16))) (fun hc12 => ?_) fun hc12 => ?_
     ·refine Tx ?_
      refine ak ?_; rw [show (bm d1) = 5 by rw [← hf4, aI hlt1]; simp only [dK, hc12, Cf]]; exact Re () (Vt Vn)
     ·refine Tx ?_
      refine rw_qg (au rfl rfl rfl) rfl rfl (q_sub rfl rfl Bt rfl Bt (by intro h; first | omega | (simp at h; omega))) ?_
      refine rw_qg (au rfl rfl rfl) rfl rfl (q_idx EInt (n4 - 1) rfl rfl Bt rfl Bt rfl rfl rfl Mm rfl (by intro h; first | omega | rfl | (simp at h; omega)) (by first | (intro _; first | assumption | omega) | (intro h; simp at h; omega))) ?_
      refine rw_qg (au rfl rfl rfl) rfl rfl (q_le1 EInt rfl rfl Bt rfl rfl Mm (by first | (intro _; first | assumption | omega) | (intro h; simp at h; omega)) rfl) ?_
      refine Tx ?_
      refine Cd (b := (decide ((n4 : Int) > 0) && decide ((gt d1.wayGone (n4 - 1)) ≥ (gt d1.wayGone n4)))) (fun hc13 => ?_) fun hc13 => ?_
      ·refine Tx ?_
       refine ak ?_; rw [show (bm d1) = 6 by rw [← hf4, aI hlt1]; simp only [dK, hc12, hc13, Cf]]; exact Re () (Vt Vn)
      ·refine Tx ?_
       refine rw_q rfl rfl rfl (q_add rfl rfl Zf rfl Zf Zo) ?_
       refine Tx ?_
       refine ⟨(n4 + 1), ⟨hlt1, (by rw [← hf4, aI hlt1]; simp only [dK, hc12, hc13, Cf] : (bm d1) = (dK d1 (d1.wayGone.drop (n4 + 1)) (n4 + 1))).symm⟩, (by simp only []; omega), Le4⟩
    ·have hge1 : d1.wayGone.length ≤ n4 := by have := of_decide_eq_false hc11; omega
     refine Tx ?_
     (repeat refine ar ?_); refine Lp [1,2,3,4,5,14,15,16,17,18,19,20,21,22,23,24,25,26,27,28,29,33,34,35,36,37,59,60] [true] (fun (n5 : Nat) => (⟨[(61, .v (.int .i64 (n5 : Int)))], [], [], [], (n5 ≤ d1.wayHere.length) ∧ (dx d1 (d1.wayHere.drop n5) n5) = (bm d1), d1.wayHere.length - n5⟩ : Ls)) 0 (Sc (Sc (Sc (Sc (Sc (Sc (Sc (Sc (Sc (Sc (Sc (Sc (Sc (Sc (Sc (Sc (Sc (Sc (Sc (Sc (Sc (Sc (Sc (Sc (Sc (Sc (Sc (Sc Sn)))))))))))))))))))))))))))) (.keep (.nil)) ⟨Nat.zero_le _, (by rw [← hf4, List.drop_of_length_le hge1]; simp only [dK, Cf] : (bm d1) = (dx d1 d1.wayHere 0)).symm⟩ Le4 ?_
     rintro n5 ⟨hkn5, hf5⟩
     simp only [List.cons_append, List.nil_append]
     refine Tx ?_
     refine Cd (b := decide ((n5 : Int) < (d1.wayHere.length : Int))) (fun hc14 => ?_) fun hc14 => ?_
     ·have hlt2 : n5 < d1.wayHere.length := Int.ofNat_lt.1 (of_decide_eq_true hc14)
      refine Tx ?_
      refine rw_q rfl rfl rfl (q_idx EPlace n5 rfl rfl Zf rfl Zf rfl rfl rfl Mm rfl Zf (fun _ => by first | assumption | omega)) ?_
      refine rw_q rfl rfl rfl (q_leA EPlace rfl rfl Zf rfl rfl Mm (fun _ => by first | assumption | omega)) ?_
      refine Al fun g3 => ?_
      refine Tx ?_
      refine Cd (b := (((((decide ((gt d1.wayHere n5).node < 1) || decide ((gt d1.wayHere n5).node ≥ 16)) || decide ((gt d1.wayHere n5).parent < 0)) || decide ((gt d1.wayHere n5).parent > 16)) || decide ((gt d1.wayHere n5).name < 0)) || decide ((gt d1.wayHere n5).name > 99))) (fun hc15 => ?_) fun hc15 => ?_
      ·refine Tx ?_
       refine ak ?_; rw [show (bm d1) = 3 by rw [← hf5, aI hlt2]; simp only [dx, hc15, Cf]]; exact Re () (Vt Vn)
      ·refine Tx ?_
       (repeat refine ar ?_); refine aw (fun _ => some []) ?_
       refine Rb 0 rfl Qp ?_
       refine Rb 1 rfl Qp ?_
       refine Rb 2 rfl Qp ?_
       refine Gb 3 rfl (au rfl rfl rfl) (q_pev rfl Bt) ?_
       refine Gb 4 rfl (au rfl rfl rfl) (q_pev rfl Bt) ?_
       refine Gb 5 rfl (au rfl rfl rfl) (q_sub rfl rfl Bt rfl Bt (by intro h; first | omega | (simp at h; omega))) ?_
       refine Gb 6 rfl (au rfl rfl rfl) (q_idx EPlace (n5 - 1) rfl rfl Bt rfl Bt rfl rfl rfl Mm rfl (by intro h; first | omega | rfl | (simp at h; omega)) (by first | (intro _; first | assumption | omega) | (intro h; simp at h; omega))) ?_
       refine Gb 7 rfl (au rfl rfl rfl) (q_fae rfl rfl Bt rfl rfl) ?_
       refine Gb 8 rfl (au rfl rfl rfl) (q_le1 EPlace rfl rfl Bt rfl rfl Mm (by first | (intro _; first | assumption | omega) | (intro h; simp at h; omega)) rfl) ?_
       refine Gb 9 rfl (au rfl rfl rfl) (q_pev rfl Bt) ?_
       refine Gb 10 rfl (au rfl rfl rfl) (q_ld1 rfl rfl Bt rfl Mm rfl) ?_
       refine Gb 11 rfl (au rfl rfl rfl) (q_pev rfl Bt) ?_
       refine Rb 12 rfl (q_pev rfl Bt) ?_
       refine Ra 13 rfl Qp ?_
       refine Gb 14 rfl (aD rfl rfl rfl) (q_pev rfl Bt) ?_
       refine Gb 15 rfl (aD rfl rfl rfl) (q_pev rfl Bt) ?_
       refine Gb 16 rfl (aD rfl rfl rfl) (q_ld1 rfl rfl Bt rfl Mm rfl) ?_
       refine av 17 Kr ?_
       refine c6 (fun hG_ => gj y3 d1.wayGone (gt d1.wayHere n5).node) Zf (.an rfl rfl) (aD rfl rfl rfl) rfl rfl rfl Kr rfl Bt Sm ?_
       refine Ra 18 rfl (q_pev rfl Bt) ?_
       refine bj Kr ?_
       (repeat refine ar ?_)
       refine Cd (b := ((decide ((n5 : Int) > 0) && decide ((gt d1.wayHere (n5 - 1)).node ≥ (gt d1.wayHere n5).node)) || (decide ((gt d1.wayHere n5).node ∈ d1.wayGone)))) (fun hc16 => ?_) fun hc16 => ?_
       ·refine Tx ?_
        refine ak ?_; rw [show (bm d1) = 6 by rw [← hf5, aI hlt2]; simp only [dx, hc15, hc16, Cf]]; exact Re () (Vt Vn)
       ·refine Tx ?_
        refine rw_q rfl rfl rfl (q_add rfl rfl Zf rfl Zf Zo) ?_
        refine Tx ?_
        refine ⟨(n5 + 1), ⟨hlt2, (by rw [← hf5, aI hlt2]; simp only [dx, hc15, hc16, Cf] : (bm d1) = (dx d1 (d1.wayHere.drop (n5 + 1)) (n5 + 1))).symm⟩, (by simp only []; omega), Le4⟩
     ·have hge2 : d1.wayHere.length ≤ n5 := by have := of_decide_eq_false hc14; omega
      refine Tx ?_
      refine rw_q rfl rfl rfl (q_add rfl rfl Zf rfl Zf (fun _ => by decide)) ?_
      refine Tx ?_
      refine ⟨2, ⟨by omega, (by rw [← hf5, List.drop_of_length_le hge2]; simp only [dx, Cf] : (bm d1) = fG).symm⟩, (show 2 - 2 < 2 - 1 by decide), Le4⟩
  ·exact Bool.noConfusion (hc9.symm.trans (decide_eq_true (by decide)))
 ·have hf1 : fG = (bm d1) := hf1
  refine Tx ?_
  refine Cd (b := decide ((2 : Int) < 2)) (fun hc17 => ?_) fun hc17 => ?_
  ·exact Bool.noConfusion (hc17.symm.trans (decide_eq_false (by decide)))
  ·refine Tx ?_
   refine ak ?_; rw [show (bm d1) = 0 by rw [← hf1]; simp only [fG, Cf]]; exact Re () (Vt Vn)
def jU (a1 : Delta) (b1 : Delta) : Bool :=
 ((((decide (a1.gone = b1.gone)) && (decide (a1.here = b1.here))) && (decide (a1.wayGone = b1.wayGone))) && (decide (a1.wayHere = b1.wayHere)))
theorem oA (y1 : SlV) (y2 : SlV) (y3 : SlV) (y4 : SlV) (a1 : Delta) (y5 : SlV) (y6 : SlV) (y7 : SlV) (y8 : SlV) (b1 : Delta) : Does Tryz.prog 70 [.agg ⟨[y1.val a1.gone.length, y2.val a1.here.length, y3.val a1.wayGone.length, y4.val a1.wayHere.length]⟩, .agg ⟨[y5.val b1.gone.length, y6.val b1.here.length, y7.val b1.wayGone.length, y8.val b1.wayHere.length]⟩] [RdL EInt y1 a1.gone, RdL EPlace y2 a1.here, RdL EInt y3 a1.wayGone, RdL EPlace y4 a1.wayHere, RdL EInt y5 b1.gone, RdL EPlace y6 b1.here, RdL EInt y7 b1.wayGone, RdL EPlace y8 b1.wayHere] (fun (_ : Unit) => .bool (jU a1 b1)) (fun _ => []) := by
 refine bd aV Tryz.func70 rfl Tryz.ntmps70 Tryz.results70 rfl inferInstance (fun _ => inferInstance) fun C => ?_
 refine Pc EInt y1 a1.gone 8 fun hlen1 => ?_
 refine Pc EPlace y2 a1.here 24 fun hlen2 => ?_
 refine Pc EInt y3 a1.wayGone 8 fun hlen3 => ?_
 refine Pc EPlace y4 a1.wayHere 24 fun hlen4 => ?_
 refine Pc EInt y5 b1.gone 8 fun hlen5 => ?_
 refine Pc EPlace y6 b1.here 24 fun hlen6 => ?_
 refine Pc EInt y7 b1.wayGone 8 fun hlen7 => ?_
 refine Pc EPlace y8 b1.wayHere 24 fun hlen8 => ?_
 refine Tx ?_
 refine Bx fun g1 => ?_
 refine Bx fun g2 => ?_
 refine Tx ?_
 refine Cl ((fun y1 a y2 b => dS y1 y2 a b) y1 a1.gone y5 b1.gone) fun _ => ?_
 refine Tx ?_
 refine c6 (fun hG_ => (fun y1 a y2 b => dm y1 y2 a b) y2 a1.here y6 b1.here) Zf .sq (au rfl rfl rfl) rfl rfl rfl Kr rfl Bt Sm ?_
 refine Tx ?_
 refine c6 (fun hG_ => (fun y1 a y2 b => dS y1 y2 a b) y3 a1.wayGone y7 b1.wayGone) Zf .sq (au rfl rfl rfl) rfl rfl rfl Kr rfl Bt Sm ?_
 refine Tx ?_
 refine c6 (fun hG_ => (fun y1 a y2 b => dm y1 y2 a b) y4 a1.wayHere y8 b1.wayHere) Zf .sq (au rfl rfl rfl) rfl rfl rfl Kr rfl Bt Sm ?_
 refine Tx ?_
 refine ak ?_; simp only [jU, Cf]; exact Re () (Vt Vn)
end Go.Proofs.YtgkggkgdceapgaaGreatDoor

namespace Go.Proofs.YtgkggkgdceapgaaGreatDoor
open Go Go.Proofs.YtgkggkgdceapgaaGreatDoor.Fw Go.Proofs
def find : List Place → Int → Place
 | [], _ => ⟨0, 0, 0⟩
 | p :: r, n => bif p.node == n then p else find r n
def place (p : Place) : Int := bif (decide (p.node < 1) || decide (p.node ≥ 16) || decide (p.parent < 0) || decide (p.parent > 16) || decide (p.name < 0) || decide (p.name > 99)) then 3 else 0
def lN (l : List Place) (top : Int) : Nat → Int → Bool
 | 0, _ => false
 | k + 1, nd => bif nd == top then true else bif (find l nd).node == 0 then false else lN l top k (find l nd).parent
def stands (l : List Place) (nd top : Int) : Bool := lN l top (l.length + 1) nd
def chk1 (l : List Place) : Nat → Nat → Int
 | 0, _ => 0
 | f + 1, k => bif place (gt l k) != 0 then place (gt l k) else bif (decide ((k : Int) > 0) && decide ((gt l (k - 1)).node ≥ (gt l k).node)) then 6 else chk1 l f (k + 1)
def chk2 (t : List Place) : List Place → Int
 | [] => 0
 | p :: r => bif stands t p.parent p.node then 4 else chk2 t r
def dH (l : List Place) : Int := bif chk1 l l.length 0 != 0 then chk1 l l.length 0 else chk2 l l
def put (p : Place) : Bool → List Place → List Place
 | d, [] => bif !d then [p] else []
 | d, q :: r => bif (!d && decide (q.node ≥ p.node)) then p :: (bif q.node != p.node then q :: put p true r else put p true r) else (bif q.node != p.node then q :: put p d r else put p d r)
def putT (l : List Place) (p : Place) : List Place := put p (decide (p.parent < 0)) l
def under (l : List Place) (nd top : Int) : Bool × Int := bif dH l != 0 then (false, dH l) else bif (decide (nd < 0) || decide (nd > 16) || decide (top < 0) || decide (top > 16)) then (false, 5) else (stands l nd top, 0)
def chkO (o : Op) : Int := bif (decide (o.time < 1) || decide (o.time > 10000) || decide (o.who < 0) || decide (o.who ≥ 3) || decide (o.node < 1) || decide (o.node ≥ 16) || decide (o.parent < 0) || decide (o.parent > 16) || decide (o.name < 0) || decide (o.name > 99) || decide (o.life < 1) || decide (o.life > 50) || decide (o.seq < 1) || decide (o.seq > 30)) then 3 else 0
def fb (l : List Place) (o : Op) : List Place × Step × Int :=
 bif dH l != 0 then ([], default, dH l) else bif chkO o != 0 then ([], default, chkO o) else
 bif stands l o.parent o.node then (l, ⟨o, false, find l o.node⟩, 0) else (putT l ⟨o.node, o.parent, o.name⟩, ⟨o, true, find l o.node⟩, 0)
def wasOf (s : Step) : Place := bif s.was.node == 0 then ⟨s.o.node, -1, 0⟩ else s.was
def mb (l : List Place) (s : Step) : List Place × Int :=
 bif dH l != 0 then ([], dH l) else bif chkO s.o != 0 then ([], chkO s.o) else bif !s.did then (l, 0) else
 bif ((wasOf s).node != s.o.node || find l s.o.node != ⟨s.o.node, s.o.parent, s.o.name⟩) then ([], 4) else
 bif dH (putT l (wasOf s)) != 0 then ([], dH (putT l (wasOf s))) else (putT l (wasOf s), 0)
theorem ro (l : List Place) : ∀ (f k : Nat), k + f = l.length → chk1 l f k = 0 → (∀ i, k ≤ i → i < l.length → place (gt l i) = 0) ∧ ∀ i, k ≤ i → i < l.length → 0 < i → (gt l (i - 1)).node < (gt l i).node
 | 0, k, h, _ => ⟨fun i h1 h2 => by omega, fun i h1 h2 => by omega⟩
 | f + 1, k, h, hc => by
  rw [chk1] at hc
  cases h1 : place (gt l k) != 0 with
  | true => rw [h1, cond_true] at hc; simp [hc] at h1
  | false =>
   rw [h1, cond_false] at hc
   cases h2 : (decide ((k : Int) > 0) && decide ((gt l (k - 1)).node ≥ (gt l k).node)) with
   | true => rw [h2, cond_true] at hc; cases hc
   | false =>
    rw [h2, cond_false] at hc
    obtain ⟨ha, hb⟩ := ro l f (k + 1) (by omega) hc
    refine ⟨fun i hi hlt => ?_, fun i hi hlt hp => ?_⟩
    ·rcases Nat.eq_or_lt_of_le hi with rfl | hi
     ·simpa using h1
     ·exact ha i hi hlt
    ·rcases Nat.eq_or_lt_of_le hi with rfl | hi
     ·simp only [Bool.and_eq_false_iff, decide_eq_false_iff_not] at h2
      rcases h2 with h2 | h2 <;> omega
     ·exact hb i hi hlt hp
theorem sk {l : List Place} (h : dH l = 0) : chk1 l l.length 0 = 0 := by
 unfold dH at h
 cases h1 : chk1 l l.length 0 != 0 with
 | true => rw [h1, cond_true] at h; exact h
 | false => simpa using h1
theorem nT {p : Place} (h : place p = 0) : 1 ≤ p.node ∧ p.node < 16 ∧ 0 ≤ p.parent ∧ p.parent ≤ 16 ∧ 0 ≤ p.name ∧ p.name ≤ 99 := by
 unfold place at h
 generalize hb : (decide (p.node < 1) || decide (p.node ≥ 16) || decide (p.parent < 0) || decide (p.parent > 16) || decide (p.name < 0) || decide (p.name > 99)) = b at h
 cases b with
 | true => simp at h
 | false => simp only [Bool.or_eq_false_iff, decide_eq_false_iff_not] at hb; omega
theorem ph {l : List Place} (h : dH l = 0) : l.length ≤ 15 := by
 obtain ⟨ha, hb⟩ := ro l l.length 0 (by omega) (sk h)
 have key : ∀ i, i < l.length → (i : Int) + 1 ≤ (gt l i).node := by
  intro i
  induction i with
  | zero => intro h0; have := (nT (ha 0 (by omega) h0)).1; simpa using this
  | succ i ih => intro hi; have := ih (by omega); have := hb (i + 1) (by omega) hi (by omega); simp at this; push_cast; omega
 apply Classical.byContradiction
 intro hn
 have h1 := key 15 (by omega)
 have h2 := (nT (ha 15 (by omega) (by omega))).2.1
 omega
end Go.Proofs.YtgkggkgdceapgaaGreatDoor

namespace Go.Proofs.YtgkggkgdceapgaaGreatDoor
open Go Go.Proofs.YtgkggkgdceapgaaGreatDoor.Fw
inductive Way (l : List Place) (ok : Int → Prop) : Int → Int → Nat → Prop
 | here (a : Int) : Way l ok a a 0
 | up {a b : Int} {k : Nat} (hok : ok a) (hn : (find l a).node ≠ 0) (h : Way l ok (find l a).parent b k) : Way l ok a b (k + 1)
theorem nK (l : List Place) (top : Int) : ∀ (f : Nat) (nd : Int), lN l top f nd = true ↔ ∃ k, k < f ∧ Way l (fun _ => True) nd top k
 | 0, nd => by simp [lN]
 | f + 1, nd => by
  rw [lN]
  by_cases h : nd = top
  ·subst h
   simp only [beq_self_eq_true, cond_true, true_iff]
   exact ⟨0, by omega, .here _⟩
  ·have hb : (nd == top) = false := by simpa using h
   rw [hb, cond_false]
   by_cases h0 : (find l nd).node = 0
   ·have : ((find l nd).node == 0) = true := by simpa using h0
    rw [this, cond_true]
    constructor
    ·intro h; cases h
    ·rintro ⟨k, _, hw⟩
     cases hw with
     | here => exact absurd rfl h
     | up _ hn _ => exact absurd h0 hn
   ·have : ((find l nd).node == 0) = false := by simpa using h0
    rw [this, cond_false, nK l top f]
    constructor
    ·rintro ⟨k, hk, hw⟩; exact ⟨k + 1, by omega, .up trivial h0 hw⟩
    ·rintro ⟨k, hk, hw⟩
     cases hw with
     | here => exact absurd rfl h
     | up _ _ hw => exact ⟨_, by omega, hw⟩
theorem Way.last {l : List Place} {ok : Int → Prop} (a : Int) {x b : Int} {k : Nat} (h : Way l ok x b k) :
  (∃ k', Way l (fun z => ok z ∧ z ≠ a) x b k') ∨ (ok a ∧ (find l a).node ≠ 0 ∧ ∃ k', Way l (fun z => ok z ∧ z ≠ a) (find l a).parent b k') := by
 induction h with
 | here x => exact .inl ⟨0, .here _⟩
 | @up x b k hok hn h ih =>
  rcases ih with ⟨k', hw⟩ | h2
  ·by_cases hx : x = a
   ·subst hx; exact .inr ⟨hok, hn, k', hw⟩
   ·exact .inl ⟨k' + 1, .up ⟨hok, hx⟩ hn hw⟩
  ·exact .inr h2
theorem Way.mono {l : List Place} {ok ok' : Int → Prop} (hm : ∀ z, ok z → ok' z) {a b : Int} {k : Nat} (h : Way l ok a b k) : Way l ok' a b k := by
 induction h with
 | here x => exact .here x
 | up hok hn _ ih => exact .up (hm _ hok) hn ih
theorem Way.short {l : List Place} : ∀ (m : Nat) (S : List Int), S.length ≤ m → ∀ {a b : Int} {k : Nat}, Way l (fun z => z ∈ S) a b k → ∃ k', k' ≤ m ∧ Way l (fun z => z ∈ S) a b k' := by
 intro m
 induction m with
 | zero =>
  intro S hS a b k h
  cases h with
  | here => exact ⟨0, Nat.le_refl _, .here _⟩
  | up hok _ _ =>
   have : S = [] := List.length_eq_zero_iff.1 (by omega)
   subst this; cases hok
 | succ m ih =>
  intro S hS a b k h
  rcases h.last a with ⟨k', hw⟩ | ⟨hok, hn, k', hw⟩
  ·cases hw with
   | here => exact ⟨0, by omega, .here _⟩
   | up hok _ _ => exact absurd rfl hok.2
  ·have hlt : (S.filter (· != a)).length < S.length := by
    apply Classical.byContradiction
    intro hge
    have := List.filter_eq_self.1 ((List.filter_sublist (p := (· != a)) (l := S)).eq_of_length_le (by omega)) a hok
    simp at this
   obtain ⟨k2, hk2, hw2⟩ := ih (S.filter (· != a)) (by omega) (hw.mono fun z hz => by simpa using hz)
   exact ⟨k2 + 1, by omega, .up hok hn (hw2.mono fun z hz => (List.mem_filter.1 hz).1)⟩
theorem ou {l : List Place} {a : Int} : (find l a).node ≠ 0 → (find l a).node = a ∧ find l a ∈ l := by
 induction l with
 | nil => intro h; exact absurd rfl h
 | cons p r ih =>
  intro h
  rw [find] at h ⊢
  cases hp : p.node == a with
  | true => rw [cond_true]; exact ⟨by simpa using hp, .head _⟩
  | false => rw [hp, cond_false] at h; rw [cond_false]; exact ⟨(ih h).1, .tail _ (ih h).2⟩
def Up (l : List Place) (a b : Int) : Prop := ∃ k, Way l (fun _ => True) a b k
theorem mH (l : List Place) (a b : Int) : stands l a b = true ↔ Up l a b := by
 unfold stands
 rw [nK]
 constructor
 ·rintro ⟨k, _, h⟩; exact ⟨k, h⟩
 ·rintro ⟨k, h⟩
  have h1 : ∀ {a b : Int} {k : Nat}, Way l (fun _ => True) a b k → Way l (fun z => z ∈ l.map (·.node)) a b k := by
   intro a b k h
   induction h with
   | here x => exact .here x
   | up _ hn _ ih =>
    obtain ⟨e, hm⟩ := ou hn
    exact .up (List.mem_map.2 ⟨_, hm, e⟩) hn ih
  obtain ⟨k', hk, hw⟩ := (h1 h).short (l := l) l.length (l.map (·.node)) (by simp)
  exact ⟨k', by omega, hw.mono fun _ _ => trivial⟩
theorem Up.refl (l : List Place) (a : Int) : Up l a a := ⟨0, .here a⟩
theorem Way.trans {l : List Place} {ok : Int → Prop} {a b c : Int} {k m : Nat} (h : Way l ok a b k) (h' : Way l ok b c m) : ∃ n, Way l ok a c n := by
 induction h with
 | here => exact ⟨m, h'⟩
 | up hok hn _ ih => obtain ⟨n, hw⟩ := ih h'; exact ⟨n + 1, .up hok hn hw⟩
theorem Up.trans {l : List Place} {a b c : Int} (h : Up l a b) (h' : Up l b c) : Up l a c := by
 obtain ⟨_, h⟩ := h
 obtain ⟨_, h'⟩ := h'
 exact h.trans h'
structure jt (l : List Place) : Prop where
 ok : ∀ p ∈ l, place p = 0
 up : l.Pairwise (fun a b => a.node < b.node)
 no : ∀ p ∈ l, ¬ Up l p.parent p.node
theorem qJ (p : Place) (r : List Place) (i : Nat) : gt (p :: r) (i + 1) = gt r i := by simp [gt]
theorem nV : ∀ (l : List Place), (∀ i, i + 1 < l.length → (gt l i).node < (gt l (i + 1)).node) → l.Pairwise (fun a b => a.node < b.node)
 | [], _ => .nil
 | [p], _ => by simp
 | p :: q :: r, h => by
  have h1 := nV (q :: r) (fun i hi => by have := h (i + 1) (by simp at hi ⊢; omega); simpa [qJ] using this)
  have h0 : p.node < q.node := by have := h 0 (by simp); simpa [gt] using this
  refine .cons (fun a ha => ?_) h1
  rcases List.mem_cons.1 ha with rfl | ha
  ·exact h0
  ·exact Int.lt_trans h0 (List.rel_of_pairwise_cons h1 ha)
theorem rk : ∀ {l : List Place}, l.Pairwise (fun a b => a.node < b.node) → ∀ i, i + 1 < l.length → (gt l i).node < (gt l (i + 1)).node := by
 intro l h i hi
 rw [gt_eq (by omega), gt_eq hi]
 exact List.pairwise_iff_getElem.1 h i (i + 1) (by omega) hi (by omega)
theorem uG (l : List Place) (ha : ∀ i, i < l.length → place (gt l i) = 0) (hb : ∀ i, i + 1 < l.length → (gt l i).node < (gt l (i + 1)).node) : ∀ (f k : Nat), k + f = l.length → chk1 l f k = 0
 | 0, _, _ => rfl
 | f + 1, k, h => by
  rw [chk1, ha k (by omega)]
  have h2 : (decide ((k : Int) > 0) && decide ((gt l (k - 1)).node ≥ (gt l k).node)) = false := by
   cases k with
   | zero => simp
   | succ k => have := hb k (by omega); simp; omega
  rw [h2]
  exact uG l ha hb f (k + 1) (by omega)
theorem pX (t : List Place) : ∀ (l : List Place), chk2 t l = 0 ↔ ∀ p ∈ l, ¬ Up t p.parent p.node
 | [] => by simp [chk2]
 | p :: r => by
  rw [chk2]
  cases h : stands t p.parent p.node with
  | true => simp only [cond_true, List.forall_mem_cons, (mH t _ _).1 h, not_true, false_and, iff_false]; decide
  | false =>
   have hn : ¬ Up t p.parent p.node := fun hu => by rw [(mH t _ _).2 hu] at h; cases h
   simp only [cond_false, List.forall_mem_cons, hn, not_false_eq_true, true_and, pX t r]
theorem gC (l : List Place) : dH l = 0 ↔ jt l := by
 constructor
 ·intro h
  have h1 := sk h
  obtain ⟨ha, hb⟩ := ro l l.length 0 (by omega) h1
  have h2 : chk2 l l = 0 := by
   unfold dH at h
   rw [h1] at h
   exact h
  refine ⟨fun p hp => ?_, nV l fun i hi => by have := hb (i + 1) (by omega) hi (by omega); simpa using this, (pX l l).1 h2⟩
  obtain ⟨i, hi, rfl⟩ := List.getElem_of_mem hp
  have := ha i (by omega) hi
  rwa [gt_eq hi] at this
 ·intro h
  have h1 : chk1 l l.length 0 = 0 := uG l (fun i hi => by rw [gt_eq hi]; exact h.ok _ (List.getElem_mem hi)) (rk h.up) _ _ (by omega)
  unfold dH
  rw [h1]
  exact (pX l l).2 h.no
theorem mX (p : Place) (n : Int) : ∀ l : List Place, find (put p true l) n = bif n == p.node then ⟨0, 0, 0⟩ else find l n
 | [] => by simp [put, find]
 | q :: r => by
  have ih := mX p n r
  rw [put]
  simp only [Bool.not_true, Bool.false_and, cond_false]
  by_cases hq : q.node = p.node
  ·have : (q.node != p.node) = false := by simpa using hq
   rw [this, cond_false, ih, find]
   by_cases hn : n = p.node
   ·simp [hn]
   ·have h1 : (n == p.node) = false := by simpa using hn
    have h2 : (q.node == n) = false := by rw [hq]; simpa using Ne.symm hn
    rw [h1, h2]; rfl
  ·have : (q.node != p.node) = true := by simpa using hq
   rw [this, cond_true, find, find, ih]
   by_cases hn : n = p.node
   ·have h2 : (q.node == n) = false := by rw [hn]; simpa using hq
    rw [h2, hn]; simp
   ·have h1 : (n == p.node) = false := by simpa using hn
    rw [h1]; rfl
theorem pf (p : Place) (n : Int) : ∀ l : List Place, find (put p false l) n = bif n == p.node then p else find l n
 | [] => by
  by_cases hn : n = p.node
  ·simp [put, find, hn]
  ·have h1 : (n == p.node) = false := by simpa using hn
   have h2 : (p.node == n) = false := by simpa using Ne.symm hn
   simp [put, find, h1, h2]
 | q :: r => by
  rw [put]
  by_cases hge : q.node ≥ p.node
  ·have h0 : (!false && decide (q.node ≥ p.node)) = true := by simpa using hge
   rw [h0, cond_true]
   have e : (bif q.node != p.node then q :: put p true r else put p true r) = put p true (q :: r) := by rw [put]; rfl
   rw [e, find, mX]
   by_cases hn : n = p.node
   ·subst hn; simp
   ·have h1 : (n == p.node) = false := by simpa using hn
    have h2 : (p.node == n) = false := by simpa using Ne.symm hn
    rw [h1, h2]; rfl
  ·have h0 : (!false && decide (q.node ≥ p.node)) = false := by simpa using hge
   have hne : (q.node != p.node) = true := by simp; omega
   rw [h0, cond_false, hne, cond_true, find, find, pf p n r]
   by_cases hn : n = p.node
   ·have h2 : (q.node == n) = false := by simp; omega
    rw [h2, hn]; simp
   ·have h1 : (n == p.node) = false := by simpa using hn
    rw [h1]; rfl
theorem go (p x : Place) : ∀ l : List Place, x ∈ put p true l → x ∈ l ∧ x.node ≠ p.node
 | [], h => by cases h
 | q :: r, h => by
  rw [put] at h
  simp only [Bool.not_true, Bool.false_and, cond_false] at h
  cases hq : q.node != p.node with
  | true =>
   rw [hq, cond_true] at h
   rcases List.mem_cons.1 h with rfl | h
   ·exact ⟨.head _, by simpa using hq⟩
   ·exact ⟨.tail _ (go p x r h).1, (go p x r h).2⟩
  | false => rw [hq, cond_false] at h; exact ⟨.tail _ (go p x r h).1, (go p x r h).2⟩
theorem jP (p x : Place) : ∀ l : List Place, x ∈ put p false l → x = p ∨ (x ∈ l ∧ x.node ≠ p.node)
 | [], h => by simp [put] at h; exact .inl h
 | q :: r, h => by
  rw [put] at h
  by_cases hge : q.node ≥ p.node
  ·have h0 : (!false && decide (q.node ≥ p.node)) = true := by simpa using hge
   have e : (bif q.node != p.node then q :: put p true r else put p true r) = put p true (q :: r) := by rw [put]; rfl
   rw [h0, cond_true, e] at h
   rcases List.mem_cons.1 h with rfl | h
   ·exact .inl rfl
   ·exact .inr (go p x _ h)
  ·have h0 : (!false && decide (q.node ≥ p.node)) = false := by simpa using hge
   have hne : (q.node != p.node) = true := by simp; omega
   rw [h0, cond_false, hne, cond_true] at h
   rcases List.mem_cons.1 h with rfl | h
   ·exact .inr ⟨.head _, by simpa using hne⟩
   ·rcases jP p x r h with h | ⟨h1, h2⟩
    ·exact .inl h
    ·exact .inr ⟨.tail _ h1, h2⟩
theorem l9 (p : Place) : ∀ {l : List Place}, l.Pairwise (fun a b => a.node < b.node) → (put p true l).Pairwise (fun a b => a.node < b.node)
 | [], _ => .nil
 | q :: r, h => by
  have hr := List.Pairwise.of_cons h
  rw [put]
  simp only [Bool.not_true, Bool.false_and, cond_false]
  cases q.node != p.node with
  | true => exact .cons (fun a ha => List.rel_of_pairwise_cons h (go p a r ha).1) (l9 p hr)
  | false => exact l9 p hr
theorem nr (p : Place) : ∀ {l : List Place}, l.Pairwise (fun a b => a.node < b.node) → (put p false l).Pairwise (fun a b => a.node < b.node)
 | [], _ => by simp [put]
 | q :: r, h => by
  have hr := List.Pairwise.of_cons h
  rw [put]
  by_cases hge : q.node ≥ p.node
  ·have h0 : (!false && decide (q.node ≥ p.node)) = true := by simpa using hge
   have e : (bif q.node != p.node then q :: put p true r else put p true r) = put p true (q :: r) := by rw [put]; rfl
   rw [h0, cond_true, e]
   refine .cons (fun a ha => ?_) (l9 p h)
   obtain ⟨hm, hn⟩ := go p a _ ha
   have : q.node ≤ a.node := by
    rcases List.mem_cons.1 hm with rfl | hm
    ·exact Int.le_refl _
    ·exact Int.le_of_lt (List.rel_of_pairwise_cons h hm)
   omega
  ·have h0 : (!false && decide (q.node ≥ p.node)) = false := by simpa using hge
   have hne : (q.node != p.node) = true := by simp; omega
   rw [h0, cond_false, hne, cond_true]
   refine .cons (fun a ha => ?_) (nr p hr)
   rcases jP p a r ha with rfl | ⟨hm, _⟩
   ·omega
   ·exact List.rel_of_pairwise_cons h hm
theorem ov {l : List Place} {n : Int} (h : ∀ p ∈ l, n < p.node) : find l n = ⟨0, 0, 0⟩ := by
 induction l with
 | nil => rfl
 | cons p r ih =>
  rw [find]
  have := h p (.head _)
  have h1 : (p.node == n) = false := by simp; omega
  rw [h1, cond_false]
  exact ih fun q hq => h q (.tail _ hq)
theorem nw : ∀ {l l' : List Place}, l.Pairwise (fun a b => a.node < b.node) → l'.Pairwise (fun a b => a.node < b.node) → (∀ p ∈ l, 1 ≤ p.node) → (∀ p ∈ l', 1 ≤ p.node) → (∀ n, 1 ≤ n → find l n = find l' n) → l = l'
 | [], [], _, _, _, _, _ => rfl
 | [], q :: r, _, _, _, h4, h5 => by
  have h1 := h4 q (.head _)
  have := h5 q.node h1
  simp [find] at this
  rw [← this] at h1; simp at h1
 | p :: r, [], _, _, h3, _, h5 => by
  have h1 := h3 p (.head _)
  have := h5 p.node h1
  simp [find] at this
  rw [this] at h1; simp at h1
 | p :: r, q :: s, h1, h2, h3, h4, h5 => by
  have hp := h3 p (.head _)
  have hq := h4 q (.head _)
  have e1 := h5 p.node hp
  have e2 := h5 q.node hq
  have hpq : p.node = q.node := by
   rcases Int.lt_trichotomy p.node q.node with h | h | h
   ·have : find (q :: s) p.node = ⟨0, 0, 0⟩ := ov fun x hx => by
     rcases List.mem_cons.1 hx with rfl | hx
     ·exact h
     ·exact Int.lt_trans h (List.rel_of_pairwise_cons h2 hx)
    rw [this] at e1
    simp [find] at e1
    rw [e1] at hp; simp at hp
   ·exact h
   ·have : find (p :: r) q.node = ⟨0, 0, 0⟩ := ov fun x hx => by
     rcases List.mem_cons.1 hx with rfl | hx
     ·exact h
     ·exact Int.lt_trans h (List.rel_of_pairwise_cons h1 hx)
    rw [this] at e2
    simp [find] at e2
    rw [← e2] at hq; simp at hq
  have e : p = q := by simpa [find, hpq] using e1
  subst e
  refine congrArg _ (nw (List.Pairwise.of_cons h1) (List.Pairwise.of_cons h2) (fun x hx => h3 x (.tail _ hx)) (fun x hx => h4 x (.tail _ hx)) fun n hn => ?_)
  by_cases hn' : n = p.node
  ·subst hn'
   rw [ov fun x hx => List.rel_of_pairwise_cons h1 hx, ov fun x hx => List.rel_of_pairwise_cons h2 hx]
  ·have := h5 n hn
   rw [find, find] at this
   have hb : (p.node == n) = false := by simpa using Ne.symm hn'
   rwa [hb, cond_false, cond_false] at this
theorem Way.first {l : List Place} {ok : Int → Prop} (a : Int) {x b : Int} {k : Nat} (h : Way l ok x b k) :
  (∃ k', Way l (fun z => ok z ∧ z ≠ a) x b k') ∨ (∃ k', Way l (fun z => ok z ∧ z ≠ a) x a k') := by
 induction h with
 | here x => exact .inl ⟨0, .here _⟩
 | @up x b k hok hn h ih =>
  by_cases hx : x = a
  ·subst hx; exact .inr ⟨0, .here _⟩
  ·rcases ih with ⟨k', hw⟩ | ⟨k', hw⟩
   ·exact .inl ⟨k' + 1, .up ⟨hok, hx⟩ hn hw⟩
   ·exact .inr ⟨k' + 1, .up ⟨hok, hx⟩ hn hw⟩
theorem Way.turn {l l' : List Place} {ok : Int → Prop} (hf : ∀ z, ok z → find l' z = find l z) {a b : Int} {k : Nat} (h : Way l ok a b k) : Way l' ok a b k := by
 induction h with
 | here x => exact .here x
 | up hok hn _ ih => exact .up hok (by rw [hf _ hok]; exact hn) (by rw [hf _ hok]; exact ih)
theorem nv : ∀ {l : List Place}, l.Pairwise (fun a b => a.node < b.node) → ∀ p ∈ l, find l p.node = p
 | q :: r, h, p, hp => by
  rw [find]
  rcases List.mem_cons.1 hp with rfl | hp
  ·simp
  ·have := List.rel_of_pairwise_cons h hp
   have hb : (q.node == p.node) = false := by simp; omega
   rw [hb, cond_false]
   exact nv (List.Pairwise.of_cons h) p hp
theorem qt {l : List Place} {p : Place} (h : 0 ≤ p.parent) : putT l p = put p false l := by
 unfold putT
 have : decide (p.parent < 0) = false := by simp; omega
 rw [this]
theorem tS {l : List Place} {p : Place} (h : p.parent < 0) : putT l p = put p true l := by
 unfold putT
 have : decide (p.parent < 0) = true := by simp; omega
 rw [this]
theorem gp (l : List Place) (p : Place) (n : Int) : find (putT l p) n = bif n == p.node then (bif decide (p.parent < 0) then ⟨0, 0, 0⟩ else p) else find l n := by
 unfold putT
 cases decide (p.parent < 0) with
 | true => rw [mX]; rfl
 | false => rw [pf]; rfl
theorem jt.node {l : List Place} (h : jt l) : ∀ p ∈ l, 1 ≤ p.node := fun p hp => (nT (h.ok p hp)).1
theorem jt.put {l : List Place} (h : jt l) {p : Place} (hp : place p = 0) (hs : ¬ Up l p.parent p.node) : jt (putT l p) := by
 have hpp := nT hp
 have hfind : ∀ n, n ≠ p.node → find (putT l p) n = find l n := fun n hn => by
  rw [gp]
  have : (n == p.node) = false := by simpa using hn
  rw [this]; rfl
 have hmem : ∀ x, x ∈ putT l p → x = p ∨ (x ∈ l ∧ x.node ≠ p.node) := fun x hx => by
  rw [qt hpp.2.2.1] at hx
  exact jP p x l hx
 refine ⟨fun x hx => ?_, by rw [qt hpp.2.2.1]; exact nr p h.up, fun x hx hu => ?_⟩
 ·rcases hmem x hx with rfl | ⟨hx, _⟩
  ·exact hp
  ·exact h.ok x hx
 ·obtain ⟨k, hw⟩ := hu
  have back : ∀ {a b : Int} {k : Nat}, Way (putT l p) (fun z => True ∧ z ≠ p.node) a b k → Up l a b := fun hw => ⟨_, (hw.turn (l' := l) fun z hz => (hfind z hz.2).symm).mono fun _ _ => trivial⟩
  rcases hw.last p.node with ⟨k', h1⟩ | ⟨_, _, k', h1⟩
  ·rcases hmem x hx with rfl | ⟨hx, _⟩
   ·exact hs (back h1)
   ·exact h.no x hx (back h1)
  ·have e : (find (putT l p) p.node).parent = p.parent := by
    rw [gp]
    have : decide (p.parent < 0) = false := by simp; omega
    simp [this]
   rw [e] at h1
   have hu := back h1
   rcases hmem x hx with rfl | ⟨hxl, hxn⟩
   ·exact hs hu
   ·rcases hw.first p.node with ⟨k2, h2⟩ | ⟨k2, h2⟩
    ·exact h.no x hxl (back h2)
    ·have hup : Up l x.node p.node := by
      obtain ⟨k3, h3⟩ := back h2
      have := nv h.up x hxl
      exact ⟨k3 + 1, .up trivial (by rw [this]; have := h.node x hxl; omega) (by rw [this]; exact h3)⟩
     exact hs (hu.trans hup)
theorem pW {o : Op} (h : chkO o = 0) : 1 ≤ o.time ∧ o.time ≤ 10000 ∧ 0 ≤ o.who ∧ o.who < 3 ∧ 1 ≤ o.node ∧ o.node < 16 ∧ 0 ≤ o.parent ∧ o.parent ≤ 16 ∧ 0 ≤ o.name ∧ o.name ≤ 99 ∧ 1 ≤ o.life ∧ o.life ≤ 50 ∧ 1 ≤ o.seq ∧ o.seq ≤ 30 := by
 unfold chkO at h
 generalize hb : (decide (o.time < 1) || decide (o.time > 10000) || decide (o.who < 0) || decide (o.who ≥ 3) || decide (o.node < 1) || decide (o.node ≥ 16) || decide (o.parent < 0) || decide (o.parent > 16) || decide (o.name < 0) || decide (o.name > 99) || decide (o.life < 1) || decide (o.life > 50) || decide (o.seq < 1) || decide (o.seq > 30)) = b at h
 cases b with
 | true => simp at h
 | false => simp only [Bool.or_eq_false_iff, decide_eq_false_iff_not] at hb; omega
def ei (o : Op) : Place := ⟨o.node, o.parent, o.name⟩
theorem s6 {o : Op} (h : chkO o = 0) : place (ei o) = 0 := by
 have := pW h
 have hb : (decide ((ei o).node < 1) || decide ((ei o).node ≥ 16) || decide ((ei o).parent < 0) || decide ((ei o).parent > 16) || decide ((ei o).name < 0) || decide ((ei o).name > 99)) = false := by
  have e1 : (ei o).node = o.node := rfl
  have e2 : (ei o).parent = o.parent := rfl
  have e3 : (ei o).name = o.name := rfl
  simp only [e1, e2, e3, Bool.or_eq_false_iff, decide_eq_false_iff_not]; omega
 unfold place
 rw [hb]; rfl
theorem mN (l : List Place) (o : Op) : (fb l o).2.2 = bif dH l != 0 then dH l else chkO o := by
 unfold fb
 cases h1 : dH l != 0 with
 | true => rfl
 | false =>
  cases h2 : chkO o != 0 with
  | true => rfl
  | false =>
   have h2 : chkO o = 0 := by simpa using h2
   cases stands l o.parent o.node <;> simp [h2]
theorem um {l : List Place} {o : Op} (h : (fb l o).2.2 = 0) : dH l = 0 ∧ chkO o = 0 := by
 rw [mN] at h
 cases h1 : dH l != 0 with
 | true => rw [h1, cond_true] at h; simp [h] at h1
 | false => rw [h1, cond_false] at h; exact ⟨by simpa using h1, h⟩
theorem oa {l : List Place} {o : Op} (h1 : dH l = 0) (h2 : chkO o = 0) : fb l o = bif stands l o.parent o.node then (l, ⟨o, false, find l o.node⟩, 0) else (putT l (ei o), ⟨o, true, find l o.node⟩, 0) := by
 unfold fb
 rw [h1, h2]; rfl
theorem la {n : Int} : ∀ {l : List Place}, (∀ p ∈ l, p.node ≠ n) → find l n = ⟨0, 0, 0⟩
 | [], _ => rfl
 | p :: r, h => by
  rw [find]
  have : (p.node == n) = false := by simpa using h p (.head _)
  rw [this, cond_false]
  exact la fun q hq => h q (.tail _ hq)
structure Moved (l : List Place) (o : Op) : Prop where
 tree : dH (fb l o).1 = 0
 did : (fb l o).2.1.did = !stands l o.parent o.node
 op : (fb l o).2.1.o = o
 under : under l o.parent o.node = (stands l o.parent o.node, 0)
 else_ : ∀ n, n ≠ o.node → find (fb l o).1 n = find l n
 node : (fb l o).2.1.did = true → find (fb l o).1 o.node = ei o
 undo : mb (fb l o).1 (fb l o).2.1 = (l, 0)
theorem hC {l : List Place} {o : Op} (h : (fb l o).2.2 = 0) : Moved l o := by
 obtain ⟨h1, h2⟩ := um h
 have ho := pW h2
 have hunder : under l o.parent o.node = (stands l o.parent o.node, 0) := by
  unfold under
  have hb : (decide (o.parent < 0) || decide (o.parent > 16) || decide (o.node < 0) || decide (o.node > 16)) = false := by simp only [Bool.or_eq_false_iff, decide_eq_false_iff_not]; omega
  rw [h1, hb]; rfl
 cases hs : stands l o.parent o.node with
 | true =>
  have e : fb l o = (l, ⟨o, false, find l o.node⟩, 0) := by rw [oa h1 h2, hs]; rfl
  refine ⟨by rw [e]; exact h1, by rw [e, hs]; rfl, by rw [e], by rw [hunder, hs], fun n _ => by rw [e], fun hd => (by rw [e] at hd; cases hd), ?_⟩
  rw [e]
  unfold mb
  simp [h1, h2]
 | false =>
  have e : fb l o = (putT l (ei o), ⟨o, true, find l o.node⟩, 0) := by rw [oa h1 h2, hs]; rfl
  have hT := (gC l).1 h1
  have hT' : jt (putT l (ei o)) := hT.put (s6 h2) fun hu => by rw [← mH] at hu; rw [show (ei o).parent = o.parent from rfl, show (ei o).node = o.node from rfl, hs] at hu; cases hu
  have hc' := (gC _).2 hT'
  have hnp : decide ((ei o).parent < 0) = false := decide_eq_false (show ¬ o.parent < 0 by omega)
  have hfn : find (putT l (ei o)) o.node = ei o := by
   rw [gp, hnp]
   simp [ei]
  have hfe : ∀ n, n ≠ o.node → find (putT l (ei o)) n = find l n := fun n hn => by
   rw [gp]
   have : (n == (ei o).node) = false := by simpa [ei] using hn
   rw [this]; rfl
  refine ⟨by rw [e]; exact hc', by rw [e, hs]; rfl, by rw [e], by rw [hunder, hs], fun n hn => by rw [e]; exact hfe n hn, fun _ => by rw [e]; exact hfn, ?_⟩
  rw [e]
  have hwas : (wasOf ⟨o, true, find l o.node⟩).node = o.node := by
   unfold wasOf
   cases hz : (find l o.node).node == 0 with
   | true => rfl
   | false => exact (ou (by simpa using hz)).1
  have hback : putT (putT l (ei o)) (wasOf ⟨o, true, find l o.node⟩) = l := by
   unfold wasOf
   cases hz : (find l o.node).node == 0 with
   | true =>
    simp only [cond_true]
    have hz : (find l o.node).node = 0 := by simpa using hz
    have hz2 : find l o.node = ⟨0, 0, 0⟩ := by
     by_cases hm : ∃ p ∈ l, p.node = o.node
     ·obtain ⟨p, hp, hpn⟩ := hm
      rw [← hpn, nv hT.up p hp] at hz
      have := hT.node p hp
      omega
     ·exact la fun p hp hpn => hm ⟨p, hp, hpn⟩
    have hneg : (⟨o.node, -1, 0⟩ : Place).parent < 0 := by simp
    have hsub : ∀ p ∈ putT (putT l (ei o)) ⟨o.node, -1, 0⟩, p ∈ putT l (ei o) := fun p hp => by rw [tS hneg] at hp; exact (go _ _ _ hp).1
    refine nw (by rw [tS hneg]; exact l9 _ hT'.up) hT.up (fun p hp => hT'.node p (hsub p hp)) hT.node fun n _ => ?_
    rw [gp]
    by_cases hn : n = o.node
    ·subst hn; simp [hz2]
    ·have : (n == (⟨o.node, -1, 0⟩ : Place).node) = false := by simpa using hn
     rw [this, cond_false, hfe n hn]
   | false =>
    simp only [cond_false]
    have hz : (find l o.node).node ≠ 0 := by simpa using hz
    obtain ⟨hn0, hm0⟩ := ou hz
    have hok := nT (hT.ok _ hm0)
    have hnp2 : decide ((find l o.node).parent < 0) = false := decide_eq_false (by omega)
    refine nw (by rw [qt (by omega)]; exact nr _ hT'.up) hT.up (fun p hp => ?_) hT.node fun n _ => ?_
    ·rw [qt (by omega)] at hp
     rcases jP _ _ _ hp with rfl | ⟨hp, _⟩
     ·omega
     ·exact hT'.node p hp
    ·rw [gp, hnp2]
     by_cases hn : n = o.node
     ·subst hn; simp [hn0]
     ·have : (n == (find l o.node).node) = false := by rw [hn0]; simpa using hn
      rw [this, cond_false, hfe n hn]
  unfold mb
  have hx : ((wasOf ⟨o, true, find l o.node⟩).node != o.node || find (putT l (ei o)) o.node != ⟨o.node, o.parent, o.name⟩) = false := by
   rw [hwas, hfn]; simp [ei]
  simp only [hc', h2, hback, h1, hx, bne_self_eq_false, cond_false, Bool.not_true]
theorem mM {t : List Place} {o : Op} (h1 : dH t = 0) (h2 : chkO o = 0) : (fb t o).2.2 = 0 := by
 rw [mN, h1, h2]; rfl
end Go.Proofs.YtgkggkgdceapgaaGreatDoor
