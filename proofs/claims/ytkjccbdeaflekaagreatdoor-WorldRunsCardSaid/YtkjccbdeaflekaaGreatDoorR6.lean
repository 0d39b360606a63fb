/- Part of this claim. No condition. -/
import Derived.Test.YtkjccbdeaflekaaGreatDoorR4
import Derived.Test.YtkjccbdeaflekaaGreatDoorR5
set_option linter.unusedVariables false
set_option linter.unusedSimpArgs false
set_option maxHeartbeats 2000000
namespace Go.Proofs.YtkjccbdeaflekaaGreatDoor
open Go Go.Proofs.YtkjccbdeaflekaaGreatDoor.Fw Go.Proofs
attribute [local irreducible] CW RW RdL RdN VarP
def aq (a1 : Int) (cmp1 : Op → Op → Int) : Nat → (List Op) → Int → (List Op)
 | 0, data4, j1 => default
 | f_k1 + 1, data4, j1 => (bif decide (j1 > a1) then (bif (decide (j1 > a1) && decide ((cmp1 (gt data4 j1.toNat) (gt data4 (j1 - 1).toNat)) < 0)) then (aq a1 cmp1 f_k1 ((data4.set j1.toNat (gt data4 (j1 - 1).toNat)).set (j1 - 1).toNat (gt data4 j1.toNat)) (j1 - 1)) else data4) else data4)
def ba (a1 : Int) (b1 : Int) (cmp1 : Op → Op → Int) : Nat → (List Op) → Int → (List Op)
 | 0, data2, i1 => default
 | f_k0 + 1, data2, i1 => (bif decide (i1 < b1) then (ba a1 b1 cmp1 f_k0 (aq a1 cmp1 ((i1 - a1).toNat + 1) data2 i1) (i1 + 1)) else data2)
def ay (data1 : List Op) (a1 : Int) (b1 : Int) (cmp1 : Op → Op → Int) : List Op :=
 (ba a1 b1 cmp1 ((b1 - (a1 + 1)).toNat + 1) data1 (a1 + 1))
theorem gr (y1 : SlV) (y1b : Option Nat) (data1 : List Op) (a1 : Int) (b1 : Int) (f1 : Nat) (caps1 : List Value) (pre1 : List Pred) [StabL pre1] (cmp1 : Op → Op → Int) (hfb1 : tab.fnb f1 = true) (hfn1 : ∀ (a0_ : Op) (a1_ : Op), Du f1 ([.agg ⟨cO a0_⟩, .agg ⟨cO a1_⟩] ++ caps1) pre1 (.int .i64 (cmp1 a0_ a1_))) (hab : 0 ≤ a1 ∧ a1 ≤ b1 ∧ b1 ≤ (data1.length : Int)) : Dv 258 [y1.val data1.length, .int .i64 a1, .int .i64 b1, .func (.func f1) #[] ⟨caps1⟩] pre1 ⟨[], [ownL EOp 76 y1 y1b data1]⟩ (fun (_ : Unit) => .tuple #[]) (fun _ => []) (fun _ => ⟨[], [ownL EOp 76 y1 y1b (ay data1 a1 b1 cmp1)]⟩) := by
 refine Dq Tryz.func258 fun C => ?_;refine lK EOp (e := 76) (X := y1) (b := y1b) (l := data1) Mm fun hl63y1 hleny1 => ?_;simp only [show EOp.by_ = 56 from rfl] at hleny1;refine Lq (List Op × Int) [1,2,3] [] (fun ⟨data2, i1⟩ => ⟨[(0, .v (y1.val data2.length)), (8, .v (.int .i64 i1))], [], [ownL EOp 76 y1 y1b data2], [], (a1 + 1 ≤ i1 ∧ data2.length = data1.length) ∧ (ba a1 b1 cmp1 ((b1 - i1).toNat + 1) data2 i1) = (ay data1 a1 b1 cmp1), (b1 - i1).toNat + 1⟩) ⟨data1, (a1 + 1)⟩ ⟨Nz, (by simp only [ay, Bool.true_and, Bool.and_true, Cf, D0])⟩ ?_;rintro ⟨data2, i1⟩ ⟨hi, hf1⟩;simp only [Lc];have hlt0_ : ((b1 - i1).toNat + 1 - 1) + 1 = (b1 - i1).toNat + 1 := by omega
 have hf := Ri hf1.symm;rw [← hlt0_, ba] at hf;refine Cp hf (fun hc1 hc1p hf => ?_) fun hc1 hc1p hf => ?_
 ·(repeat refine er ?_); refine rx ?_;(repeat refine er ?_); refine pA ?_;refine Ty ?_;refine mb [1, 2, 3, 8, 12, 13, 14, 17] [] (fun (data3 : List Op) => [(0, .v (y1.val data3.length))]) (fun (data3 : List Op) => []) (fun (data3 : List Op) => [ownL EOp 76 y1 y1b data3]) (fun (data3 : List Op) => []) (fun (data3 : List Op) => (data3.length = data1.length) ∧ data3 = (aq a1 cmp1 ((i1 - a1).toNat + 1) data2 i1)) (.cons rfl (.cons rfl (.cons rfl (.cons rfl (.cons rfl (.cons rfl (.cons rfl (.cons rfl (.nil _))))))))) (.nil) ?_ ?_
  ·refine Lq (List Op × Int) [1,2,3,8,12,13,14,17] [] (fun ⟨data4, j1⟩ => ⟨[(0, .v (y1.val data4.length)), (9, .v (.int .i64 j1))], [], [ownL EOp 76 y1 y1b data4], [], (a1 ≤ j1 ∧ j1 < b1 ∧ data4.length = data1.length) ∧ (aq a1 cmp1 ((j1 - a1).toNat + 1) data4 j1) = (aq a1 cmp1 ((i1 - a1).toNat + 1) data2 i1), (j1 - a1).toNat + 1⟩) ⟨data2, i1⟩ ⟨Nz, (rfl : (aq a1 cmp1 ((i1 - a1).toNat + 1) data2 i1) = (aq a1 cmp1 ((i1 - a1).toNat + 1) data2 i1)).symm⟩ ?_;rintro ⟨data4, j1⟩ ⟨hj, hf2⟩;simp only [Lc];have hlt1_ : ((j1 - a1).toNat + 1 - 1) + 1 = (j1 - a1).toNat + 1 := by omega
   refine Rg [] ?_;refine Dx (.range 7) ?_;refine rN EOp (e := 76) (X := y1) (b := y1b) (l := data4) Mm (.ab (i := 7) (js := [9, 10, 11, 12, 13]) [8, 14, 15, 16] rfl Kr Kr Kr Kr Kr) (ce rfl rfl rfl) rfl rfl (q_idx EOp j1.toNat rfl rfl Bt rfl Bt rfl rfl rfl (.head _) rfl (by intro h; first | omega | rfl | (simp at h; omega)) (by first | (intro _; first | assumption | omega | (simp only [List.length_set]; omega)) | (intro h; simp at h; omega))) ?_;refine rN EOp (e := 76) (X := y1) (b := y1b) (l := data4) Mm (.ab (i := 8) (js := [9, 10, 11, 12, 13]) [14, 15, 16] rfl Kr Kr Kr Kr Kr) (ce rfl rfl rfl) rfl rfl (q_leA EOp rfl rfl Bt rfl rfl (.head _) (by first | (intro _; first | assumption | omega | (simp only [List.length_set]; omega)) | (intro h; simp at h; omega))) ?_;refine Dx [9,10,11] ?_;refine rN EOp (e := 76) (X := y1) (b := y1b) (l := data4) Mm (.ab (i := 12) (js := []) [13, 14, 15, 16] rfl Kr Kr Kr Kr Kr) (ce rfl rfl rfl) rfl rfl (q_idx EOp (j1 - 1).toNat rfl rfl Bt rfl Bt rfl rfl rfl (.head _) rfl (by intro h; first | omega | rfl | (simp at h; omega)) (by first | (intro _; first | assumption | omega | (simp only [List.length_set]; omega)) | (intro h; simp at h; omega))) ?_
   refine rN EOp (e := 76) (X := y1) (b := y1b) (l := data4) Mm (.ab (i := 13) (js := []) [14, 15, 16] rfl Kr Kr Kr Kr Kr) (ce rfl rfl rfl) rfl rfl (q_leA EOp rfl rfl Bt rfl rfl (.head _) (by first | (intro _; first | assumption | omega | (simp only [List.length_set]; omega)) | (intro h; simp at h; omega))) ?_;refine Rn 14 ?_;refine yf (.an rfl rfl) (ce rfl rfl rfl) (fun hg1 => ?_) (fun hg1 => ?_)
   ·have hg1p := of_decide_eq_true hg1;refine yg (hfn1 (gt data4 j1.toNat) (gt data4 (j1 - 1).toNat)) (.an rfl rfl) (vA (ce rfl rfl rfl) hg1) rfl rfl rfl rfl (by first | rfl | assumption | (simp only [hc1, hg1, Bool.and_true, Bool.true_and, Bool.and_self, Bool.not_false, Bool.not_true]; done) | simp_all) (by assumption) rfl (by first | rfl | assumption | (simp only [hc1, hg1, Bool.and_true, Bool.true_and, Bool.and_self, Bool.not_false, Bool.not_true]; done) | simp_all) rfl Sf ?_;intro _;refine Dx [15,16] ?_;refine Re0 ?_;refine Cd' (fun hc2 => ?_) fun hc2 => ?_
    ·try simp only [hg1, Bool.true_and, Bool.and_true] at hc2
     refine Rg [(15,some y1b.toList),(17,some y1b.toList)] ?_;refine Dx [0,1] ?_;refine Rq (Fa 2 [3,4,5,6,7,8,9,10,11,12,13,14,15]) Sa Xv ?_;refine Rq (Fa 3 [5,6,7,8,9,10,11,12,13,14,15]) Sa Xv ?_;refine Rq (Fa 4 [5,6,7,8,9,10,11,12,13,14,15]) Sa Xm ?_;refine Dx [5,6,7] ?_;refine Oq EOp y1 data4 (Fa 8 [10,11,12,13]) (Xi (j1 - 1).toNat) ?_;refine Oq EOp y1 data4 (Fa 9 [10,11,12,13]) Xa ?_;refine Dx [10,11] ?_;refine Oq EOp y1 data4 (Fb 12 []) (Xi j1.toNat) ?_;refine Oq EOp y1 data4 (Fa 13 []) Xa ?_;refine Oq EOp y1 data4 (Fa 14 []) (Xi j1.toNat) ?_;refine Rn 15 ?_;refine Wo EOp data4 j1.toNat 0 (gt data4 (j1 - 1).toNat) y1b ?_;have hv1 : y1.val data4.length = y1.val (data4.set j1.toNat (gt data4 (j1 - 1).toNat)).length := congrArg (SlV.val y1) List.length_set.symm;try rw [hv1]
     refine Oq EOp y1 (data4.set j1.toNat (gt data4 (j1 - 1).toNat)) (Fa 16 []) (Xi (j1 - 1).toNat) ?_;refine Rn 17 ?_;refine Wo EOp (data4.set j1.toNat (gt data4 (j1 - 1).toNat)) (j1 - 1).toNat 0 (gt data4 j1.toNat) y1b ?_;have hv2 : y1.val (data4.set j1.toNat (gt data4 (j1 - 1).toNat)).length = y1.val ((data4.set j1.toNat (gt data4 (j1 - 1).toNat)).set (j1 - 1).toNat (gt data4 j1.toNat)).length := congrArg (SlV.val y1) List.length_set.symm;try rw [hv2]
     refine Re0 ?_;refine Tt ?_;have hnx1 : ((j1 - 1) - a1).toNat + 1 = (j1 - a1).toNat + 1 - 1 := by omega
     refine ⟨⟨((data4.set j1.toNat (gt data4 (j1 - 1).toNat)).set (j1 - 1).toNat (gt data4 j1.toNat)), (j1 - 1)⟩, ⟨(by simp only [Ln, List.length_set]; omega), (by rw [hnx1]; exact (by rw [← hf2]; (conv => lhs; rw [← hlt1_]); simp only [aq, hg1, hc2, Bool.true_and, Bool.and_true, Cf] : (aq a1 cmp1 ((i1 - a1).toNat + 1) data2 i1) = (aq a1 cmp1 ((j1 - a1).toNat + 1 - 1) ((data4.set j1.toNat (gt data4 (j1 - 1).toNat)).set (j1 - 1).toNat (gt data4 j1.toNat)) (j1 - 1))).symm)⟩, Oo, Le5⟩
    ·try simp only [hg1, Bool.true_and, Bool.and_true] at hc2
     refine Tx ?_;have hv3 : (aq a1 cmp1 ((i1 - a1).toNat + 1) data2 i1) = data4 := by rw [← hf2]; (conv => lhs; rw [← hlt1_]); simp only [aq, hg1, hc2, Bool.true_and, Bool.and_true, Cf]
     refine ⟨data4, ⟨(by omega), hv3.symm⟩, Le5⟩
   ·have hg1p := of_decide_eq_false hg1;refine xh (.an rfl rfl) (ce rfl rfl rfl) hg1 rfl rfl ?_;refine Ga 15 rfl Gz (jA (v := .bool false) hg1) ?_;refine Ra 16 rfl Xv ?_;refine Re0 ?_;refine Cd' (fun hc3 => ?_) fun hc3 => ?_
    ·exact Bool.noConfusion (hc3.symm.trans ((by simp only [hg1, Bd]) : (decide (j1 > a1) && false) = false))
    ·refine Tx ?_;have hv4 : (aq a1 cmp1 ((i1 - a1).toNat + 1) data2 i1) = data4 := by rw [← hf2]; (conv => lhs; rw [← hlt1_]); simp only [aq, hg1, Bool.true_and, Bool.and_true, Cf]
     refine ⟨data4, ⟨(by omega), hv4.symm⟩, Le5⟩
  ·rintro data3 ⟨hjl, rfl⟩;simp only [Lc];refine Tt ?_;have hnx2 : (b1 - (i1 + 1)).toNat + 1 = (b1 - i1).toNat + 1 - 1 := by omega
   refine ⟨⟨(aq a1 cmp1 ((i1 - a1).toNat + 1) data2 i1), (i1 + 1)⟩, ⟨(by simp only [Ln, List.length_set]; omega), (by rw [hnx2]; exact (hf : (ay data1 a1 b1 cmp1) = (ba a1 b1 cmp1 ((b1 - i1).toNat + 1 - 1) (aq a1 cmp1 ((i1 - a1).toNat + 1) data2 i1) (i1 + 1))).symm)⟩, Oo, Le5⟩
 ·refine Tx ?_;rw [hf.to];exact ⟨(), _, .nil, rfl, Sf, .nil _, Sp⟩
theorem yT (cmp : Op → Op → Int) (P : List Op) : ∀ (r : List Op) (x : Op) (s : List Op) (f : Nat), r.length < f →
  aq (P.length : Int) cmp f (P ++ (r.reverse ++ x :: s)) ((P.length + r.length : Nat) : Int) = P ++ insR (fun a b => decide (cmp a b < 0)) x r s
 | [], x, s, f + 1, _ => by
  rw [aq];simp [insR]
 | y :: r, x, s, f + 1, hf => by
  simp only [List.length_cons] at hf;rw [aq];have h1 : decide (((P.length + (y :: r).length : Nat) : Int) > (P.length : Int)) = true := by simp; omega
  have e0 : ((P.length + (y :: r).length : Nat) : Int).toNat = (P ++ (r.reverse ++ [y])).length := by simp; omega
  have e1 : (((P.length + (y :: r).length : Nat) : Int) - 1).toNat = (P ++ r.reverse).length := by simp; omega
  have d0 : P ++ ((y :: r).reverse ++ x :: s) = (P ++ (r.reverse ++ [y])) ++ x :: s := by simp
  have d1 : (P ++ (r.reverse ++ [y])) ++ x :: s = (P ++ r.reverse) ++ y :: (x :: s) := by simp
  have g0 : gt (P ++ ((y :: r).reverse ++ x :: s)) ((P.length + (y :: r).length : Nat) : Int).toNat = x := by rw [d0]; exact mX _ _ _ _ e0
  have g1 : gt (P ++ ((y :: r).reverse ++ x :: s)) (((P.length + (y :: r).length : Nat) : Int) - 1).toNat = y := by rw [d0, d1]; exact mX _ _ _ _ e1
  rw [h1, g0, g1, cond_true, Bool.true_and, insR];cases hc : decide (cmp x y < 0) with
  | false => simp
  | true =>
   simp only [cond_true];rw [d0, ly _ _ _ _ _ e0, show (P ++ (r.reverse ++ [y])) ++ y :: s = (P ++ r.reverse) ++ y :: (y :: s) by simp, ly _ _ _ _ _ e1];have ih := yT cmp P r x (y :: s) f (by omega);rw [show ((P.length + (y :: r).length : Nat) : Int) - 1 = ((P.length + r.length : Nat) : Int) by simp; omega, List.append_assoc];exact ih
theorem yU (cmp : Op → Op → Int) (P S : List Op) (b : Int) : ∀ (rest acc : List Op) (f : Nat), b = ((P.length + acc.length + rest.length : Nat) : Int) → rest.length < f →
  ba (P.length : Int) b cmp f (P ++ (acc ++ (rest ++ S))) ((P.length + acc.length : Nat) : Int) = P ++ (isort (fun a b => decide (cmp a b < 0)) acc rest ++ S)
 | [], acc, f + 1, hb, _ => by
  rw [ba];have : decide (((P.length + acc.length : Nat) : Int) < b) = false := by rw [hb]; simp
  rw [this, cond_false, isort]; simp
 | x :: rest, acc, f + 1, hb, hf => by
  simp only [List.length_cons] at hf hb;rw [ba];have : decide (((P.length + acc.length : Nat) : Int) < b) = true := by rw [hb]; simp; omega
  have h1 := yT cmp P acc.reverse x (rest ++ S) ((((P.length + acc.length : Nat) : Int) - (P.length : Int)).toNat + 1) (by simp; omega);rw [List.reverse_reverse, List.length_reverse] at h1;rw [this, cond_true, List.cons_append, h1, isort, BU];have hl : (insR (fun a b => decide (cmp a b < 0)) x acc.reverse []).length = acc.length + 1 := by rw [BT]; simp
  have ih := yU cmp P S b rest (insR (fun a b => decide (cmp a b < 0)) x acc.reverse []) f (by rw [hb, hl]; simp; omega) (by omega);rw [hl] at ih;rw [show ((P.length + acc.length : Nat) : Int) + 1 = ((P.length + (acc.length + 1) : Nat) : Int) by simp; omega];exact ih
theorem IS_Op (cmp : Op → Op → Int) (P M S : List Op) (a b : Int) (ha : a = (P.length : Int)) (hb : b = ((P.length + M.length : Nat) : Int)) :
  ay (P ++ (M ++ S)) a b cmp = P ++ (isort (fun a b => decide (cmp a b < 0)) [] M ++ S) := by
 subst ha;unfold ay;cases M with
 | nil =>
  rw [ba];have : decide ((P.length : Int) + 1 < b) = false := by rw [hb]; simp; omega
  rw [this, cond_false, isort]
 | cons x r =>
  have h1 := yU cmp P S b r [x] ((b - ((P.length : Int) + 1)).toNat + 1) (by rw [hb]; simp; omega) (by rw [hb]; simp; omega);have e : isort (fun a b => decide (cmp a b < 0)) [] (x :: r) = isort (fun a b => decide (cmp a b < 0)) [x] r := rfl;rw [e, ← h1];rfl
def bN (a1 : Int) (b1 : Int) (n1 : Int) : Nat → (List Op) → Int → (List Op)
 | 0, data2, i1 => default
 | f_k0 + 1, data2, i1 => (bif decide (i1 < n1) then (bN a1 b1 n1 f_k0 ((data2.set (a1 + i1).toNat (gt data2 (b1 + i1).toNat)).set (b1 + i1).toNat (gt data2 (a1 + i1).toNat)) (i1 + 1)) else data2)
def aI (data1 : List Op) (a1 : Int) (b1 : Int) (n1 : Int) (cmp1 : Op → Op → Int) : List Op :=
 (bN a1 b1 n1 ((n1 - 0).toNat + 1) data1 0)
theorem fP (y1 : SlV) (y1b : Option Nat) (data1 : List Op) (a1 : Int) (b1 : Int) (n1 : Int) (f1 : Nat) (caps1 : List Value) (pre1 : List Pred) [StabL pre1] (cmp1 : Op → Op → Int) (hfb1 : tab.fnb f1 = true) (hfn1 : ∀ (a0_ : Op) (a1_ : Op), Du f1 ([.agg ⟨cO a0_⟩, .agg ⟨cO a1_⟩] ++ caps1) pre1 (.int .i64 (cmp1 a0_ a1_))) (hab : 0 ≤ a1 ∧ 0 ≤ b1 ∧ 0 ≤ n1 ∧ a1 + n1 ≤ (data1.length : Int) ∧ b1 + n1 ≤ (data1.length : Int)) : Dv 261 [y1.val data1.length, .int .i64 a1, .int .i64 b1, .int .i64 n1, .func (.func f1) #[] ⟨caps1⟩] pre1 ⟨[], [ownL EOp 76 y1 y1b data1]⟩ (fun (_ : Unit) => .tuple #[]) (fun _ => []) (fun _ => ⟨[], [ownL EOp 76 y1 y1b (aI data1 a1 b1 n1 cmp1)]⟩) := by
 refine Dq Tryz.func261 fun C => ?_;refine lK EOp (e := 76) (X := y1) (b := y1b) (l := data1) Mm fun hl63y1 hleny1 => ?_;simp only [show EOp.by_ = 56 from rfl] at hleny1;refine Lq (List Op × Int) [1,2,3] [] (fun ⟨data2, i1⟩ => ⟨[(0, .v (y1.val data2.length)), (10, .v (.int .i64 i1))], [], [ownL EOp 76 y1 y1b data2], [], (0 ≤ i1 ∧ i1 ≤ n1 ∧ data2.length = data1.length) ∧ (bN a1 b1 n1 ((n1 - i1).toNat + 1) data2 i1) = (aI data1 a1 b1 n1 cmp1), (n1 - i1).toNat + 1⟩) ⟨data1, 0⟩ ⟨Nz, (by simp only [aI, Bool.true_and, Bool.and_true, Cf, D0])⟩ ?_;rintro ⟨data2, i1⟩ ⟨hi, hf1⟩;simp only [Lc];have hlt0_ : ((n1 - i1).toNat + 1 - 1) + 1 = (n1 - i1).toNat + 1 := by omega
 have hf := Ri hf1.symm;rw [← hlt0_, bN] at hf;refine Cp hf (fun hc1 hc1p hf => ?_) fun hc1 hc1p hf => ?_
 ·refine Rg [(21,some y1b.toList),(23,some y1b.toList)] ?_;refine Dx [0,1,2,3] ?_;refine Rq (Fa 4 [5,6,7,8,9,10,11,12,13,14,15,16,17,18,19,20,21]) Sa Xv ?_;refine Rq (Fa 5 [6,8,9,10,11,12,13,14,15,16,17,18,19,20,21]) Sa Xv ?_;refine Rq (Fa 6 [8,9,10,11,12,13,14,15,16,17,18,19,20,21]) Sa Xv ?_;refine Rq (Fa 7 [8,9,10,11,12,13,14,15,16,17,18,19,20,21]) Sa Xp ?_;refine Dx [8,9,10,11] ?_;refine Oq EOp y1 data2 (Fa 12 [14,15,16,17,18,19]) (Xi (b1 + i1).toNat) ?_;refine Oq EOp y1 data2 (Fa 13 [14,15,16,17,18,19]) Xa ?_;refine Dx [14,15,16,17] ?_;refine Oq EOp y1 data2 (Fb 18 []) (Xi (a1 + i1).toNat) ?_;refine Oq EOp y1 data2 (Fa 19 []) Xa ?_;refine Oq EOp y1 data2 (Fa 20 []) (Xi (a1 + i1).toNat) ?_;refine Rn 21 ?_;refine Wo EOp data2 (a1 + i1).toNat 0 (gt data2 (b1 + i1).toNat) y1b ?_;have hv1 : y1.val data2.length = y1.val (data2.set (a1 + i1).toNat (gt data2 (b1 + i1).toNat)).length := congrArg (SlV.val y1) List.length_set.symm;try rw [hv1]
  refine Oq EOp y1 (data2.set (a1 + i1).toNat (gt data2 (b1 + i1).toNat)) (Fa 22 []) (Xi (b1 + i1).toNat) ?_;refine Rn 23 ?_;refine Wo EOp (data2.set (a1 + i1).toNat (gt data2 (b1 + i1).toNat)) (b1 + i1).toNat 0 (gt data2 (a1 + i1).toNat) y1b ?_;have hv2 : y1.val (data2.set (a1 + i1).toNat (gt data2 (b1 + i1).toNat)).length = y1.val ((data2.set (a1 + i1).toNat (gt data2 (b1 + i1).toNat)).set (b1 + i1).toNat (gt data2 (a1 + i1).toNat)).length := congrArg (SlV.val y1) List.length_set.symm;try rw [hv2]
  refine Re0 ?_;refine Tt ?_;have hnx1 : (n1 - (i1 + 1)).toNat + 1 = (n1 - i1).toNat + 1 - 1 := by omega
  refine ⟨⟨((data2.set (a1 + i1).toNat (gt data2 (b1 + i1).toNat)).set (b1 + i1).toNat (gt data2 (a1 + i1).toNat)), (i1 + 1)⟩, ⟨(by simp only [Ln, List.length_set]; omega), (by rw [hnx1]; exact (hf : (aI data1 a1 b1 n1 cmp1) = (bN a1 b1 n1 ((n1 - i1).toNat + 1 - 1) ((data2.set (a1 + i1).toNat (gt data2 (b1 + i1).toNat)).set (b1 + i1).toNat (gt data2 (a1 + i1).toNat)) (i1 + 1))).symm)⟩, Oo, Le5⟩
 ·refine Tx ?_;rw [hf.to];exact ⟨(), _, .nil, rfl, Sf, .nil _, Sp⟩
theorem sa (a b n : Int) : ∀ (f : Nat) (data : List Op) (i : Int), (n - i).toNat < f → (bN a b n f data i).length = data.length
 | 0, _, _, h => by omega
 | f + 1, data, i, h => by
  rw [bN];cases hc : decide (i < n) with
  | true =>
   have hc := of_decide_eq_true hc;simp only [cond_true];rw [sa a b n f _ _ (by omega)]; simp
  | false => rfl
theorem kQ (data : List Op) (a b n : Int) (cmp : Op → Op → Int) : (aI data a b n cmp).length = data.length := sa a b n _ data 0 (by omega)
def bO (m1 : Int) (cmp1 : Op → Op → Int) : Nat → (List Op) → Int → Int → (List Op)
 | 0, data2, i1, j1 => default
 | f_k0 + 1, data2, i1, j1 => (bif (i1 != j1) then (bif decide (i1 > j1) then (bO m1 cmp1 f_k0 (aI data2 (m1 - i1) m1 j1 cmp1) (i1 - j1) j1) else (bO m1 cmp1 f_k0 (aI data2 (m1 - i1) ((m1 + j1) - i1) i1 cmp1) i1 (j1 - i1))) else (aI data2 (m1 - i1) m1 i1 cmp1))
def bI (data1 : List Op) (a1 : Int) (m1 : Int) (b1 : Int) (cmp1 : Op → Op → Int) : List Op :=
 (bO m1 cmp1 ((b1 - a1).toNat + 1) data1 (m1 - a1) (b1 - m1))
theorem k8 (y1 : SlV) (y1b : Option Nat) (data1 : List Op) (a1 : Int) (m1 : Int) (b1 : Int) (f1 : Nat) (caps1 : List Value) (pre1 : List Pred) [StabL pre1] (cmp1 : Op → Op → Int) (hfb1 : tab.fnb f1 = true) (hfn1 : ∀ (a0_ : Op) (a1_ : Op), Du f1 ([.agg ⟨cO a0_⟩, .agg ⟨cO a1_⟩] ++ caps1) pre1 (.int .i64 (cmp1 a0_ a1_))) (hab : 0 ≤ a1 ∧ a1 < m1 ∧ m1 < b1 ∧ b1 ≤ (data1.length : Int)) : Dv 260 [y1.val data1.length, .int .i64 a1, .int .i64 m1, .int .i64 b1, .func (.func f1) #[] ⟨caps1⟩] pre1 ⟨[], [ownL EOp 76 y1 y1b data1]⟩ (fun (_ : Unit) => .tuple #[]) (fun _ => []) (fun _ => ⟨[], [ownL EOp 76 y1 y1b (bI data1 a1 m1 b1 cmp1)]⟩) := by
 refine Dq Tryz.func260 fun C => ?_;refine lK EOp (e := 76) (X := y1) (b := y1b) (l := data1) Mm fun hl63y1 hleny1 => ?_;simp only [show EOp.by_ = 56 from rfl] at hleny1;refine Lq (List Op × Int × Int × Nat) [2,4] [] (fun ⟨data2, i1, j1, fz1⟩ => ⟨[(0, .v (y1.val data2.length)), (10, .v (.int .i64 i1)), (11, .v (.int .i64 j1))], [], [ownL EOp 76 y1 y1b data2], [], (1 ≤ i1 ∧ i1 ≤ m1 - a1 ∧ 1 ≤ j1 ∧ j1 ≤ b1 - m1 ∧ data2.length = data1.length) ∧ ((i1 + j1).toNat < fz1) ∧ (bO m1 cmp1 fz1 data2 i1 j1) = (bI data1 a1 m1 b1 cmp1), fz1⟩) ⟨data1, (m1 - a1), (b1 - m1), (b1 - a1).toNat + 1⟩ ⟨Nz, Nz, (by simp only [bI, Bool.true_and, Bool.and_true, Cf, D0])⟩ ?_;rintro ⟨data2, i1, j1, fz1⟩ ⟨hi, hzfz1, hf1⟩;simp only [Lc];have hlt0_ : (fz1 - 1) + 1 = fz1 := by omega
 have hf := Ri hf1.symm;rw [← hlt0_, bO] at hf;refine Cn hf (fun hc1 hc1p hf => ?_) fun hc1 hc1p hf => ?_
 ·refine Cp hf (fun hc2 hc2p hf => ?_) fun hc2 hc2p hf => ?_
  ·refine Cm (fP y1 y1b data2 (m1 - i1) m1 j1 _ _ _ cmp1 (by assumption) hfn1 (by omega)) fun _ => ?_;have hv1l : data2.length = (aI data2 (m1 - i1) m1 j1 cmp1).length := (kQ data2 (m1 - i1) m1 j1 cmp1).symm;have hv1 : y1.val data2.length = y1.val (aI data2 (m1 - i1) m1 j1 cmp1).length := congrArg (SlV.val y1) hv1l;try rw [hv1]
   refine Tt ?_;refine ⟨⟨(aI data2 (m1 - i1) m1 j1 cmp1), (i1 - j1), j1, (fz1 - 1)⟩, ⟨(by simp only [kQ]; omega), (by (try simp only []); first | omega | (simp only [Ln]; omega)), (hf : (bI data1 a1 m1 b1 cmp1) = (bO m1 cmp1 (fz1 - 1) (aI data2 (m1 - i1) m1 j1 cmp1) (i1 - j1) j1)).symm⟩, Oo, Le5⟩
  ·refine Cm (fP y1 y1b data2 (m1 - i1) ((m1 + j1) - i1) i1 _ _ _ cmp1 (by assumption) hfn1 (by omega)) fun _ => ?_;have hv2l : data2.length = (aI data2 (m1 - i1) ((m1 + j1) - i1) i1 cmp1).length := (kQ data2 (m1 - i1) ((m1 + j1) - i1) i1 cmp1).symm;have hv2 : y1.val data2.length = y1.val (aI data2 (m1 - i1) ((m1 + j1) - i1) i1 cmp1).length := congrArg (SlV.val y1) hv2l;try rw [hv2]
   refine Tt ?_;refine ⟨⟨(aI data2 (m1 - i1) ((m1 + j1) - i1) i1 cmp1), i1, (j1 - i1), (fz1 - 1)⟩, ⟨(by simp only [kQ]; omega), (by (try simp only []); first | omega | (simp only [Ln]; omega)), (hf : (bI data1 a1 m1 b1 cmp1) = (bO m1 cmp1 (fz1 - 1) (aI data2 (m1 - i1) ((m1 + j1) - i1) i1 cmp1) i1 (j1 - i1))).symm⟩, Oo, Le5⟩
 ·refine Cm (fP y1 y1b data2 (m1 - i1) m1 i1 _ _ _ cmp1 (by assumption) hfn1 (by omega)) fun _ => ?_;have hv3l : data2.length = (aI data2 (m1 - i1) m1 i1 cmp1).length := (kQ data2 (m1 - i1) m1 i1 cmp1).symm;have hv3 : y1.val data2.length = y1.val (aI data2 (m1 - i1) m1 i1 cmp1).length := congrArg (SlV.val y1) hv3l;try rw [hv3]
  refine eF ?_;rw [hf.to];exact ⟨(), _, .nil, rfl, Sf, .nil _, Sp⟩
theorem pa (m : Int) (cmp : Op → Op → Int) : ∀ (f : Nat) (data : List Op) (i j : Int), 1 ≤ i → 1 ≤ j → (i + j).toNat < f → (bO m cmp f data i j).length = data.length
 | 0, _, _, _, _, _, h => by omega
 | f + 1, data, i, j, hi, hj, h => by
  rw [bO];cases hc : (i != j) with
  | true =>
   have hc := bne_iff_ne.1 hc;simp only [cond_true];cases hd : decide (i > j) with
   | true =>
    have hd := of_decide_eq_true hd;simp only [cond_true];rw [pa m cmp f _ _ _ (by omega) hj (by omega), kQ]
   | false =>
    have hd := of_decide_eq_false hd;simp only [cond_false];rw [pa m cmp f _ _ _ hi (by omega) (by omega), kQ]
  | false => simp only [cond_false]; rw [kQ]
theorem q7 (data : List Op) (a m b : Int) (cmp : Op → Op → Int) (h : a < m ∧ m < b) : (bI data a m b cmp).length = data.length := pa m cmp _ data _ _ (by omega) (by omega) (by omega)
def ac (data1 : List Op) (a1 : Int) (m1 : Int) (b1 : Int) (cmp1 : Op → Op → Int) : Nat → Int → Int → Int
 | 0, start3, r2 => default
 | f_k4 + 1, start3, r2 => (bif decide (start3 < r2) then (bif (!(decide ((cmp1 (gt data1 (((((a1 + b1) / 2) + m1) - 1) - ((start3 + r2) / 2)).toNat) (gt data1 ((start3 + r2) / 2).toNat)) < 0))) then (ac data1 a1 m1 b1 cmp1 f_k4 (((start3 + r2) / 2) + 1) r2) else (ac data1 a1 m1 b1 cmp1 f_k4 start3 ((start3 + r2) / 2))) else start3)
def aa (a1 : Int) (m1 : Int) (b1 : Int) : Int × Int :=
 (bif decide (m1 > ((a1 + b1) / 2)) then (((((a1 + b1) / 2) + m1) - b1), ((a1 + b1) / 2)) else (a1, m1))
def al (data1 : List Op) (a1 : Int) (m1 : Int) (b1 : Int) (cmp1 : Op → Op → Int) : List Op :=
 (bif (decide ((ac data1 a1 m1 b1 cmp1 ((b1 - a1).toNat + 1) (aa a1 m1 b1).1 (aa a1 m1 b1).2) < m1) && decide (m1 < ((((a1 + b1) / 2) + m1) - (ac data1 a1 m1 b1 cmp1 ((b1 - a1).toNat + 1) (aa a1 m1 b1).1 (aa a1 m1 b1).2)))) then (bI data1 (ac data1 a1 m1 b1 cmp1 ((b1 - a1).toNat + 1) (aa a1 m1 b1).1 (aa a1 m1 b1).2) m1 ((((a1 + b1) / 2) + m1) - (ac data1 a1 m1 b1 cmp1 ((b1 - a1).toNat + 1) (aa a1 m1 b1).1 (aa a1 m1 b1).2)) cmp1) else data1)
def bg (i2 : Int) : Nat → (List Op) → Int → (List Op)
 | 0, data3, k2 => default
 | f_k3 + 1, data3, k2 => (bif decide (k2 > i2) then (bg i2 f_k3 ((data3.set k2.toNat (gt data3 (k2 - 1).toNat)).set (k2 - 1).toNat (gt data3 k2.toNat)) (k2 - 1)) else data3)
def bh (data1 : List Op) (a1 : Int) (m1 : Int) (cmp1 : Op → Op → Int) : Nat → Int → Int → (List Op)
 | 0, i2, j2 => default
 | f_k2 + 1, i2, j2 => (bif decide (i2 < j2) then (bif (!(decide ((cmp1 (gt data1 m1.toNat) (gt data1 ((i2 + j2) / 2).toNat)) < 0))) then (bh data1 a1 m1 cmp1 f_k2 (((i2 + j2) / 2) + 1) j2) else (bh data1 a1 m1 cmp1 f_k2 i2 ((i2 + j2) / 2))) else (bg i2 ((m1 - a1).toNat + 1) data1 m1))
def bi (i1 : Int) : Nat → (List Op) → Int → (List Op)
 | 0, data2, k1 => default
 | f_k1 + 1, data2, k1 => (bif decide (k1 < (i1 - 1)) then (bi i1 f_k1 ((data2.set k1.toNat (gt data2 (k1 + 1).toNat)).set (k1 + 1).toNat (gt data2 k1.toNat)) (k1 + 1)) else data2)
def bj (data1 : List Op) (a1 : Int) (b1 : Int) (cmp1 : Op → Op → Int) : Nat → Int → Int → (List Op)
 | 0, i1, j1 => default
 | f_k0 + 1, i1, j1 => (bif decide (i1 < j1) then (bif decide ((cmp1 (gt data1 ((i1 + j1) / 2).toNat) (gt data1 a1.toNat)) < 0) then (bj data1 a1 b1 cmp1 f_k0 (((i1 + j1) / 2) + 1) j1) else (bj data1 a1 b1 cmp1 f_k0 i1 ((i1 + j1) / 2))) else (bi i1 ((b1 - a1).toNat + 1) data1 a1))
def ah : Nat → (List Op) → Int → Int → Int → (Op → Op → Int) → (List Op)
 | 0, _, _, _, _, _ => default
 | k_ + 1, data1, a1, m1, b1, cmp1 => (bif ((m1 - a1) == 1) then (bj data1 a1 b1 cmp1 ((b1 - m1).toNat + 1) m1 b1) else (bif ((b1 - m1) == 1) then (bh data1 a1 m1 cmp1 ((m1 - a1).toNat + 1) a1 m1) else (bif (decide (a1 < (ac data1 a1 m1 b1 cmp1 ((b1 - a1).toNat + 1) (aa a1 m1 b1).1 (aa a1 m1 b1).2)) && decide ((ac data1 a1 m1 b1 cmp1 ((b1 - a1).toNat + 1) (aa a1 m1 b1).1 (aa a1 m1 b1).2) < ((a1 + b1) / 2))) then (bif (decide (((a1 + b1) / 2) < ((((a1 + b1) / 2) + m1) - (ac data1 a1 m1 b1 cmp1 ((b1 - a1).toNat + 1) (aa a1 m1 b1).1 (aa a1 m1 b1).2))) && decide (((((a1 + b1) / 2) + m1) - (ac data1 a1 m1 b1 cmp1 ((b1 - a1).toNat + 1) (aa a1 m1 b1).1 (aa a1 m1 b1).2)) < b1)) then (ah k_ (ah k_ (al data1 a1 m1 b1 cmp1) a1 (ac data1 a1 m1 b1 cmp1 ((b1 - a1).toNat + 1) (aa a1 m1 b1).1 (aa a1 m1 b1).2) ((a1 + b1) / 2) cmp1) ((a1 + b1) / 2) ((((a1 + b1) / 2) + m1) - (ac data1 a1 m1 b1 cmp1 ((b1 - a1).toNat + 1) (aa a1 m1 b1).1 (aa a1 m1 b1).2)) b1 cmp1) else (ah k_ (al data1 a1 m1 b1 cmp1) a1 (ac data1 a1 m1 b1 cmp1 ((b1 - a1).toNat + 1) (aa a1 m1 b1).1 (aa a1 m1 b1).2) ((a1 + b1) / 2) cmp1)) else (bif (decide (((a1 + b1) / 2) < ((((a1 + b1) / 2) + m1) - (ac data1 a1 m1 b1 cmp1 ((b1 - a1).toNat + 1) (aa a1 m1 b1).1 (aa a1 m1 b1).2))) && decide (((((a1 + b1) / 2) + m1) - (ac data1 a1 m1 b1 cmp1 ((b1 - a1).toNat + 1) (aa a1 m1 b1).1 (aa a1 m1 b1).2)) < b1)) then (ah k_ (al data1 a1 m1 b1 cmp1) ((a1 + b1) / 2) ((((a1 + b1) / 2) + m1) - (ac data1 a1 m1 b1 cmp1 ((b1 - a1).toNat + 1) (aa a1 m1 b1).1 (aa a1 m1 b1).2)) b1 cmp1) else (al data1 a1 m1 b1 cmp1)))))
theorem sc (i : Int) : ∀ (f : Nat) (data : List Op) (k : Int), (i - 1 - k).toNat < f → (bi i f data k).length = data.length
 | 0, _, _, h => by omega
 | f + 1, data, k, h => by
  rw [bi];cases hc : decide (k < i - 1) with
  | true => have hc := of_decide_eq_true hc; simp only [cond_true]; rw [sc i f _ _ (by omega)]; simp
  | false => rfl
theorem sb (i : Int) : ∀ (f : Nat) (data : List Op) (k : Int), (k - i).toNat < f → (bg i f data k).length = data.length
 | 0, _, _, h => by omega
 | f + 1, data, k, h => by
  rw [bg];cases hc : decide (k > i) with
  | true => have hc := of_decide_eq_true hc; simp only [cond_true]; rw [sb i f _ _ (by omega)]; simp
  | false => rfl
theorem o8 (data : List Op) (a b : Int) (cmp : Op → Op → Int) : ∀ (f : Nat) (i j : Int), a ≤ i → i ≤ j → j ≤ b → (j - i).toNat < f → (bj data a b cmp f i j).length = data.length
 | 0, _, _, _, _, _, h => by omega
 | f + 1, i, j, ha, hi, hj, h => by
  rw [bj];cases hc : decide (i < j) with
  | true =>
   have hc := of_decide_eq_true hc;simp only [cond_true];cases decide (cmp (gt data ((i + j) / 2).toNat) (gt data a.toNat) < 0) with
   | true => exact o8 data a b cmp f _ _ (by omega) (by omega) hj (by omega)
   | false => exact o8 data a b cmp f _ _ ha (by omega) (by omega) (by omega)
  | false => exact sc i _ data a (by omega)
theorem o7 (data : List Op) (a m : Int) (cmp : Op → Op → Int) : ∀ (f : Nat) (i j : Int), a ≤ i → i ≤ j → j ≤ m → (j - i).toNat < f → (bh data a m cmp f i j).length = data.length
 | 0, _, _, _, _, _, h => by omega
 | f + 1, i, j, ha, hi, hj, h => by
  rw [bh];cases hc : decide (i < j) with
  | true =>
   have hc := of_decide_eq_true hc;simp only [cond_true];cases (!decide (cmp (gt data m.toNat) (gt data ((i + j) / 2).toNat) < 0)) with
   | true => exact o7 data a m cmp f _ _ (by omega) (by omega) hj (by omega)
   | false => exact o7 data a m cmp f _ _ ha (by omega) (by omega) (by omega)
  | false => exact sb i _ data m (by omega)
theorem vJ (data : List Op) (a m b : Int) (cmp : Op → Op → Int) : (al data a m b cmp).length = data.length := by
 unfold al;generalize ac data a m b cmp _ _ _ = s;cases hc : (decide (s < m) && decide (m < (a + b) / 2 + m - s)) with
 | true =>
  rw [Bool.and_eq_true] at hc;exact q7 _ _ _ _ _ ⟨of_decide_eq_true hc.1, of_decide_eq_true hc.2⟩
 | false => rfl
theorem kn : ∀ (k : Nat) (data : List Op) (a m b : Int) (cmp : Op → Op → Int), a < m ∧ m < b → (b - a).toNat < k → (ah k data a m b cmp).length = data.length
 | 0, _, _, _, _, _, _, h => by omega
 | k + 1, data, a, m, b, cmp, h, hk => by
  rw [ah];cases h1 : (m - a == 1) with
  | true => exact o8 data a b cmp _ m b (by omega) (by omega) (by omega) (by omega)
  | false =>
   simp only [cond_false];cases h2 : (b - m == 1) with
   | true => exact o7 data a m cmp _ a m (by omega) (by omega) (by omega) (by omega)
   | false =>
    simp only [cond_false];generalize ac data a m b cmp _ _ _ = s;have hV := vJ data a m b cmp;cases h3 : (decide (a < s) && decide (s < (a + b) / 2)) <;> cases h4 : (decide ((a + b) / 2 < (a + b) / 2 + m - s) && decide ((a + b) / 2 + m - s < b)) <;> simp only [cond_true, cond_false]
    ·exact hV
    ·rw [Bool.and_eq_true] at h4;have h41 := of_decide_eq_true h4.1;have h42 := of_decide_eq_true h4.2;rw [kn k _ _ _ _ cmp ⟨h41, h42⟩ (by omega)]; exact hV
    ·rw [Bool.and_eq_true] at h3;have h31 := of_decide_eq_true h3.1;have h32 := of_decide_eq_true h3.2;rw [kn k _ _ _ _ cmp ⟨h31, h32⟩ (by omega)]; exact hV
    ·rw [Bool.and_eq_true] at h3 h4;have h31 := of_decide_eq_true h3.1;have h32 := of_decide_eq_true h3.2;have h41 := of_decide_eq_true h4.1;have h42 := of_decide_eq_true h4.2;rw [kn k _ _ _ _ cmp ⟨h41, h42⟩ (by omega), kn k _ _ _ _ cmp ⟨h31, h32⟩ (by omega)]; exact hV
theorem kF : ∀ (k_ : Nat) (y1 : SlV) (y1b : Option Nat) (data1 : List Op) (a1 : Int) (m1 : Int) (b1 : Int) (f1 : Nat) (caps1 : List Value) (pre1 : List Pred) [StabL pre1] (cmp1 : Op → Op → Int) (hfb1 : tab.fnb f1 = true) (hfn1 : ∀ (a0_ : Op) (a1_ : Op), Du f1 ([.agg ⟨cO a0_⟩, .agg ⟨cO a1_⟩] ++ caps1) pre1 (.int .i64 (cmp1 a0_ a1_))) (hab : 0 ≤ a1 ∧ a1 < m1 ∧ m1 < b1 ∧ b1 ≤ (data1.length : Int)) (hk_ : (b1 - a1).toNat < k_), Dv 259 [y1.val data1.length, .int .i64 a1, .int .i64 m1, .int .i64 b1, .func (.func f1) #[] ⟨caps1⟩] pre1 ⟨[], [ownL EOp 76 y1 y1b data1]⟩ (fun (_ : Unit) => .tuple #[]) (fun _ => []) (fun _ => ⟨[], [ownL EOp 76 y1 y1b (ah k_ data1 a1 m1 b1 cmp1)]⟩) := by
 intro k_;induction k_ with
 | zero => intros; omega
 | succ k_ ih_ =>
 intro y1 y1b data1 a1 m1 b1 f1 caps1 pre1 _ cmp1 hfb1 hfn1 hab hk_;refine Dq Tryz.func259 fun C => ?_;refine lK EOp (e := 76) (X := y1) (b := y1b) (l := data1) Mm fun hl63y1 hleny1 => ?_;simp only [show EOp.by_ = 56 from rfl] at hleny1;refine Cd' (fun hc1 => ?_) fun hc1 => ?_
 ·have hc1p := eq_of_beq hc1;refine Lq (Int × Int × Nat) [0,1,2,3,4] [] (fun ⟨i1, j1, fz1⟩ => ⟨[(10, .v (.int .i64 i1)), (11, .v (.int .i64 j1))], [], [ownL EOp 76 y1 y1b data1], [], (m1 ≤ i1 ∧ i1 ≤ j1 ∧ j1 ≤ b1) ∧ ((j1 - i1).toNat < fz1) ∧ (bj data1 a1 b1 cmp1 fz1 i1 j1) = (ah (k_ + 1) data1 a1 m1 b1 cmp1), fz1⟩) ⟨m1, b1, (b1 - m1).toNat + 1⟩ ⟨Nz, Nz, (by simp only [ah, hc1, Bool.true_and, Bool.and_true, Cf, D0])⟩ ?_;rintro ⟨i1, j1, fz1⟩ ⟨hi0, hzfz1, hf1⟩;simp only [Lc];have hlt0_ : (fz1 - 1) + 1 = fz1 := by omega
  refine Cd' (fun hc2 => ?_) fun hc2 => ?_
  ·have hc2p := of_decide_eq_true hc2;refine Sy Tz (vj und_3 ov rfl rfl Zf Zo) ?_;refine Sq (yn rfl rfl Zf) ?_;refine Sq (vk ov und_3 rfl rfl Zf Zo) ?_;refine Rg [] ?_;refine Dx [0,1,2] ?_;refine Oq EOp y1 data1 (Fb 3 [5,6,7,8]) (Xi ((i1 + j1) / 2).toNat) ?_;refine Oq EOp y1 data1 (Fb 4 [5,6,7,8]) Xa ?_;refine Dx [5,6] ?_;refine Oq EOp y1 data1 (Fb 7 []) (Xi a1.toNat) ?_;refine Oq EOp y1 data1 (Fb 8 []) Xa ?_;refine Rn 9 ?_;refine Cv (hfn1 (gt data1 ((i1 + j1) / 2).toNat) (gt data1 a1.toNat)) (hf := by assumption) fun _ => ?_;refine Ra 10 rfl Qp ?_;refine Re0 ?_;refine Cd' (fun hc3 => ?_) fun hc3 => ?_
   ·have hc3p := of_decide_eq_true hc3;refine Tt ?_;refine ⟨⟨(((i1 + j1) / 2) + 1), j1, (fz1 - 1)⟩, ⟨(by (try simp only []); omega), (by (try simp only []); first | omega | (simp only [Ln]; omega)), (by rw [← hf1]; (conv => lhs; rw [← hlt0_]); simp only [bj, hc2, hc3, Bool.true_and, Bool.and_true, Cf] : (ah (k_ + 1) data1 a1 m1 b1 cmp1) = (bj data1 a1 b1 cmp1 (fz1 - 1) (((i1 + j1) / 2) + 1) j1)).symm⟩, Oo, Le5⟩
   ·have hc3p := of_decide_eq_false hc3;refine Tx ?_;refine ⟨⟨i1, ((i1 + j1) / 2), (fz1 - 1)⟩, ⟨(by (try simp only []); omega), (by (try simp only []); first | omega | (simp only [Ln]; omega)), (by rw [← hf1]; (conv => lhs; rw [← hlt0_]); simp only [bj, hc2, hc3, Bool.true_and, Bool.and_true, Cf] : (ah (k_ + 1) data1 a1 m1 b1 cmp1) = (bj data1 a1 b1 cmp1 (fz1 - 1) i1 ((i1 + j1) / 2))).symm⟩, Oo, Le5⟩
  ·have hc2p := of_decide_eq_false hc2;refine Lq (List Op × Int) [1,2,3,4,10] [] (fun ⟨data2, k1⟩ => ⟨[(0, .v (y1.val data2.length)), (13, .v (.int .i64 k1))], [], [ownL EOp 76 y1 y1b data2], [], (a1 ≤ k1 ∧ k1 < b1 ∧ data2.length = data1.length) ∧ (bi i1 ((b1 - k1).toNat + 1) data2 k1) = (ah (k_ + 1) data1 a1 m1 b1 cmp1), (b1 - k1).toNat + 1⟩) ⟨data1, a1⟩ ⟨Nz, (by rw [← hf1]; (conv => lhs; rw [← hlt0_]); simp only [bj, hc2, Bool.true_and, Bool.and_true, Cf] : (ah (k_ + 1) data1 a1 m1 b1 cmp1) = (bi i1 ((b1 - a1).toNat + 1) data1 a1)).symm⟩ ?_;rintro ⟨data2, k1⟩ ⟨hi1, hf2⟩;simp only [Lc];have hlt1_ : ((b1 - k1).toNat + 1 - 1) + 1 = (b1 - k1).toNat + 1 := by omega
   refine Cd' (fun hc4 => ?_) fun hc4 => ?_
   ·have hc4p := of_decide_eq_true hc4;refine Rg [(15,some y1b.toList),(17,some y1b.toList)] ?_;refine Dx [0,1] ?_;refine Rq (Fa 2 [3,4,5,6,7,8,9,10,11,12,13,14,15]) Sa Xv ?_;refine Rq (Fa 3 [5,6,7,8,9,10,11,12,13,14,15]) Sa Xv ?_;refine Rq (Fa 4 [5,6,7,8,9,10,11,12,13,14,15]) Sa Xp ?_;refine Dx [5,6,7] ?_;refine Oq EOp y1 data2 (Fa 8 [10,11,12,13]) (Xi (k1 + 1).toNat) ?_;refine Oq EOp y1 data2 (Fa 9 [10,11,12,13]) Xa ?_;refine Dx [10,11] ?_;refine Oq EOp y1 data2 (Fb 12 []) (Xi k1.toNat) ?_;refine Oq EOp y1 data2 (Fa 13 []) Xa ?_;refine Oq EOp y1 data2 (Fa 14 []) (Xi k1.toNat) ?_;refine Rn 15 ?_;refine Wo EOp data2 k1.toNat 0 (gt data2 (k1 + 1).toNat) y1b ?_;have hv1 : y1.val data2.length = y1.val (data2.set k1.toNat (gt data2 (k1 + 1).toNat)).length := congrArg (SlV.val y1) List.length_set.symm;try rw [hv1]
    refine Oq EOp y1 (data2.set k1.toNat (gt data2 (k1 + 1).toNat)) (Fa 16 []) (Xi (k1 + 1).toNat) ?_;refine Rn 17 ?_;refine Wo EOp (data2.set k1.toNat (gt data2 (k1 + 1).toNat)) (k1 + 1).toNat 0 (gt data2 k1.toNat) y1b ?_;have hv2 : y1.val (data2.set k1.toNat (gt data2 (k1 + 1).toNat)).length = y1.val ((data2.set k1.toNat (gt data2 (k1 + 1).toNat)).set (k1 + 1).toNat (gt data2 k1.toNat)).length := congrArg (SlV.val y1) List.length_set.symm;try rw [hv2]
    refine Re0 ?_;refine Tt ?_;have hnx3 : (b1 - (k1 + 1)).toNat + 1 = (b1 - k1).toNat + 1 - 1 := by omega
    refine ⟨⟨((data2.set k1.toNat (gt data2 (k1 + 1).toNat)).set (k1 + 1).toNat (gt data2 k1.toNat)), (k1 + 1)⟩, ⟨(by simp only [Ln, List.length_set]; omega), (by rw [hnx3]; exact (by rw [← hf2]; (conv => lhs; rw [← hlt1_]); simp only [bi, hc4, Bool.true_and, Bool.and_true, Cf] : (ah (k_ + 1) data1 a1 m1 b1 cmp1) = (bi i1 ((b1 - k1).toNat + 1 - 1) ((data2.set k1.toNat (gt data2 (k1 + 1).toNat)).set (k1 + 1).toNat (gt data2 k1.toNat)) (k1 + 1))).symm)⟩, Oo, Le5⟩
   ·have hc4p := of_decide_eq_false hc4;refine Tx ?_;have hr1 : (ah (k_ + 1) data1 a1 m1 b1 cmp1) = data2 := by rw [← hf2]; (conv => lhs; rw [← hlt1_]); simp only [bi, hc4, Bool.true_and, Bool.and_true, Cf]
    refine f4 ?_;rw [hr1];exact ⟨(), _, .nil, rfl, Sf, .nil _, Sp⟩
 ·have hc1p := ne_of_beq_false hc1;refine Cd' (fun hc5 => ?_) fun hc5 => ?_
  ·have hc5p := eq_of_beq hc5;refine Lq (Int × Int × Nat) [0,1,2,3,4] [] (fun ⟨i2, j2, fz2⟩ => ⟨[(14, .v (.int .i64 i2)), (15, .v (.int .i64 j2))], [], [ownL EOp 76 y1 y1b data1], [], (a1 ≤ i2 ∧ i2 ≤ j2 ∧ j2 ≤ m1) ∧ ((j2 - i2).toNat < fz2) ∧ (bh data1 a1 m1 cmp1 fz2 i2 j2) = (ah (k_ + 1) data1 a1 m1 b1 cmp1), fz2⟩) ⟨a1, m1, (m1 - a1).toNat + 1⟩ ⟨Nz, Nz, (by simp only [ah, hc1, hc5, Bool.true_and, Bool.and_true, Cf, D0])⟩ ?_;rintro ⟨i2, j2, fz2⟩ ⟨hi2, hzfz2, hf3⟩;simp only [Lc];have hlt2_ : (fz2 - 1) + 1 = fz2 := by omega
   refine Cd' (fun hc6 => ?_) fun hc6 => ?_
   ·have hc6p := of_decide_eq_true hc6;refine Sy Tz (vj und_3 ov rfl rfl Zf Zo) ?_;refine Sq (yn rfl rfl Zf) ?_;refine Sq (vk ov und_3 rfl rfl Zf Zo) ?_;refine Rg [] ?_;refine Dx [0,1,2] ?_;refine Oq EOp y1 data1 (Fb 3 [5,6,7,8]) (Xi m1.toNat) ?_;refine Oq EOp y1 data1 (Fb 4 [5,6,7,8]) Xa ?_;refine Dx [5,6] ?_;refine Oq EOp y1 data1 (Fb 7 []) (Xi ((i2 + j2) / 2).toNat) ?_;refine Oq EOp y1 data1 (Fb 8 []) Xa ?_;refine Rn 9 ?_;refine Cv (hfn1 (gt data1 m1.toNat) (gt data1 ((i2 + j2) / 2).toNat)) (hf := by assumption) fun _ => ?_;refine Dx [10,11] ?_;refine Re0 ?_;refine Cd' (fun hc7 => ?_) fun hc7 => ?_
    ·refine Tt ?_;refine ⟨⟨(((i2 + j2) / 2) + 1), j2, (fz2 - 1)⟩, ⟨(by (try simp only []); omega), (by (try simp only []); first | omega | (simp only [Ln]; omega)), (by rw [← hf3]; (conv => lhs; rw [← hlt2_]); simp only [bh, hc6, hc7, Bool.true_and, Bool.and_true, Cf] : (ah (k_ + 1) data1 a1 m1 b1 cmp1) = (bh data1 a1 m1 cmp1 (fz2 - 1) (((i2 + j2) / 2) + 1) j2)).symm⟩, Oo, Le5⟩
    ·refine Tx ?_;refine ⟨⟨i2, ((i2 + j2) / 2), (fz2 - 1)⟩, ⟨(by (try simp only []); omega), (by (try simp only []); first | omega | (simp only [Ln]; omega)), (by rw [← hf3]; (conv => lhs; rw [← hlt2_]); simp only [bh, hc6, hc7, Bool.true_and, Bool.and_true, Cf] : (ah (k_ + 1) data1 a1 m1 b1 cmp1) = (bh data1 a1 m1 cmp1 (fz2 - 1) i2 ((i2 + j2) / 2))).symm⟩, Oo, Le5⟩
   ·have hc6p := of_decide_eq_false hc6;refine Lq (List Op × Int) [1,2,3,4,14] [] (fun ⟨data3, k2⟩ => ⟨[(0, .v (y1.val data3.length)), (17, .v (.int .i64 k2))], [], [ownL EOp 76 y1 y1b data3], [], (a1 ≤ k2 ∧ k2 ≤ m1 ∧ data3.length = data1.length) ∧ (bg i2 ((k2 - a1).toNat + 1) data3 k2) = (ah (k_ + 1) data1 a1 m1 b1 cmp1), (k2 - a1).toNat + 1⟩) ⟨data1, m1⟩ ⟨Nz, (by rw [← hf3]; (conv => lhs; rw [← hlt2_]); simp only [bh, hc6, Bool.true_and, Bool.and_true, Cf] : (ah (k_ + 1) data1 a1 m1 b1 cmp1) = (bg i2 ((m1 - a1).toNat + 1) data1 m1)).symm⟩ ?_;rintro ⟨data3, k2⟩ ⟨hi3, hf4⟩;simp only [Lc];have hlt3_ : ((k2 - a1).toNat + 1 - 1) + 1 = (k2 - a1).toNat + 1 := by omega
    refine Cd' (fun hc8 => ?_) fun hc8 => ?_
    ·have hc8p := of_decide_eq_true hc8;refine Rg [(15,some y1b.toList),(17,some y1b.toList)] ?_;refine Dx [0,1] ?_;refine Rq (Fa 2 [3,4,5,6,7,8,9,10,11,12,13,14,15]) Sa Xv ?_;refine Rq (Fa 3 [5,6,7,8,9,10,11,12,13,14,15]) Sa Xv ?_;refine Rq (Fa 4 [5,6,7,8,9,10,11,12,13,14,15]) Sa Xm ?_;refine Dx [5,6,7] ?_;refine Oq EOp y1 data3 (Fa 8 [10,11,12,13]) (Xi (k2 - 1).toNat) ?_;refine Oq EOp y1 data3 (Fa 9 [10,11,12,13]) Xa ?_;refine Dx [10,11] ?_;refine Oq EOp y1 data3 (Fb 12 []) (Xi k2.toNat) ?_;refine Oq EOp y1 data3 (Fa 13 []) Xa ?_;refine Oq EOp y1 data3 (Fa 14 []) (Xi k2.toNat) ?_;refine Rn 15 ?_;refine Wo EOp data3 k2.toNat 0 (gt data3 (k2 - 1).toNat) y1b ?_;have hv3 : y1.val data3.length = y1.val (data3.set k2.toNat (gt data3 (k2 - 1).toNat)).length := congrArg (SlV.val y1) List.length_set.symm;try rw [hv3]
     refine Oq EOp y1 (data3.set k2.toNat (gt data3 (k2 - 1).toNat)) (Fa 16 []) (Xi (k2 - 1).toNat) ?_;refine Rn 17 ?_;refine Wo EOp (data3.set k2.toNat (gt data3 (k2 - 1).toNat)) (k2 - 1).toNat 0 (gt data3 k2.toNat) y1b ?_;have hv4 : y1.val (data3.set k2.toNat (gt data3 (k2 - 1).toNat)).length = y1.val ((data3.set k2.toNat (gt data3 (k2 - 1).toNat)).set (k2 - 1).toNat (gt data3 k2.toNat)).length := congrArg (SlV.val y1) List.length_set.symm;try rw [hv4]
     refine Re0 ?_;refine Tt ?_;have hnx6 : ((k2 - 1) - a1).toNat + 1 = (k2 - a1).toNat + 1 - 1 := by omega
     refine ⟨⟨((data3.set k2.toNat (gt data3 (k2 - 1).toNat)).set (k2 - 1).toNat (gt data3 k2.toNat)), (k2 - 1)⟩, ⟨(by simp only [Ln, List.length_set]; omega), (by rw [hnx6]; exact (by rw [← hf4]; (conv => lhs; rw [← hlt3_]); simp only [bg, hc8, Bool.true_and, Bool.and_true, Cf] : (ah (k_ + 1) data1 a1 m1 b1 cmp1) = (bg i2 ((k2 - a1).toNat + 1 - 1) ((data3.set k2.toNat (gt data3 (k2 - 1).toNat)).set (k2 - 1).toNat (gt data3 k2.toNat)) (k2 - 1))).symm)⟩, Oo, Le5⟩
    ·have hc8p := of_decide_eq_false hc8;refine Tx ?_;have hr2 : (ah (k_ + 1) data1 a1 m1 b1 cmp1) = data3 := by rw [← hf4]; (conv => lhs; rw [← hlt3_]); simp only [bg, hc8, Bool.true_and, Bool.and_true, Cf]
     refine f4 ?_;rw [hr2];exact ⟨(), _, .nil, rfl, Sf, .nil _, Sp⟩
  ·have hc5p := ne_of_beq_false hc5;refine Sy Tz (vj und_3 ov rfl rfl Zf Zo) ?_;refine Sq (yn rfl rfl Zf) ?_;refine Sq (vk ov und_3 rfl rfl Zf Zo) ?_;refine Tx ?_;refine Sq Xp ?_;refine Ty ?_;refine mb [0, 1, 2, 3, 4, 18, 19] [] (fun (i_ : Int × Int) => match i_ with | ⟨start1, r1⟩ => [(20, .v (.int .i64 start1)), (21, .v (.int .i64 r1))]) (fun (i_ : Int × Int) => match i_ with | ⟨start1, r1⟩ => []) (fun (i_ : Int × Int) => match i_ with | ⟨start1, r1⟩ => [ownL EOp 76 y1 y1b data1]) (fun (i_ : Int × Int) => match i_ with | ⟨start1, r1⟩ => []) (fun (i_ : Int × Int) => match i_ with | ⟨start1, r1⟩ => (a1 ≤ start1 ∧ start1 ≤ r1 ∧ r1 ≤ m1 ∧ r1 ≤ (a1 + b1) / 2 ∧ (a1 + b1) / 2 + m1 - start1 ≤ b1) ∧ start1 = (aa a1 m1 b1).1 ∧ r1 = (aa a1 m1 b1).2) (.cons rfl (.cons rfl (.cons rfl (.cons rfl (.cons rfl (.cons rfl (.cons rfl (.nil _)))))))) (.nil) ?_ ?_
   ·refine Cd' (fun hc9 => ?_) fun hc9 => ?_
    ·have hc9p := of_decide_eq_true hc9;refine Tt ?_;have hv5 : (aa a1 m1 b1) = (((((a1 + b1) / 2) + m1) - b1), ((a1 + b1) / 2)) := by simp only [aa, hc9, Bool.true_and, Bool.and_true, Cf]
     refine ⟨⟨((((a1 + b1) / 2) + m1) - b1), ((a1 + b1) / 2)⟩, ⟨(by (try simp only []); omega), (by rw [hv5]), (by rw [hv5])⟩, Le5⟩
    ·have hc9p := of_decide_eq_false hc9;refine Tx ?_;have hv6 : (aa a1 m1 b1) = (a1, m1) := by simp only [aa, hc9, Bool.true_and, Bool.and_true, Cf]
     refine ⟨⟨a1, m1⟩, ⟨(by (try simp only []); omega), (by rw [hv6]), (by rw [hv6])⟩, Le5⟩
   ·rintro ⟨start1, r1⟩ ⟨hv8, rfl, rfl⟩;simp only [Lc];refine Tx ?_;refine Sq Xm ?_;refine Ty ?_;refine mb [0, 1, 2, 3, 4, 18, 19] [] (fun (start2 : Int) => [(20, .v (.int .i64 start2))]) (fun (start2 : Int) => []) (fun (start2 : Int) => [ownL EOp 76 y1 y1b data1]) (fun (start2 : Int) => []) (fun (start2 : Int) => (a1 ≤ start2 ∧ start2 ≤ m1 ∧ start2 ≤ (a1 + b1) / 2 ∧ (a1 + b1) / 2 + m1 - start2 ≤ b1) ∧ start2 = (ac data1 a1 m1 b1 cmp1 ((b1 - a1).toNat + 1) (aa a1 m1 b1).1 (aa a1 m1 b1).2)) (.cons rfl (.cons rfl (.cons rfl (.cons rfl (.cons rfl (.cons rfl (.cons rfl (.nil _)))))))) (.nil) ?_ ?_
    ·refine Lq (Int × Int × Nat) [0,1,2,3,4,18,19,22] [] (fun ⟨start3, r2, fz3⟩ => ⟨[(20, .v (.int .i64 start3)), (21, .v (.int .i64 r2))], [], [ownL EOp 76 y1 y1b data1], [], (start3 ≤ r2 ∧ r2 ≤ m1 ∧ r2 ≤ (a1 + b1) / 2 ∧ a1 ≤ start3 ∧ start3 ≤ m1 ∧ start3 ≤ (a1 + b1) / 2 ∧ (a1 + b1) / 2 + m1 - start3 ≤ b1) ∧ ((r2 - start3).toNat < fz3) ∧ (ac data1 a1 m1 b1 cmp1 fz3 start3 r2) = (ac data1 a1 m1 b1 cmp1 ((b1 - a1).toNat + 1) (aa a1 m1 b1).1 (aa a1 m1 b1).2), fz3⟩) ⟨(aa a1 m1 b1).1, (aa a1 m1 b1).2, (b1 - a1).toNat + 1⟩ ⟨Nz, Nz, (rfl : (ac data1 a1 m1 b1 cmp1 ((b1 - a1).toNat + 1) (aa a1 m1 b1).1 (aa a1 m1 b1).2) = (ac data1 a1 m1 b1 cmp1 ((b1 - a1).toNat + 1) (aa a1 m1 b1).1 (aa a1 m1 b1).2)).symm⟩ ?_;rintro ⟨start3, r2, fz3⟩ ⟨hi4, hzfz3, hf5⟩;simp only [Lc];have hlt4_ : (fz3 - 1) + 1 = fz3 := by omega
     refine Cd' (fun hc10 => ?_) fun hc10 => ?_
     ·have hc10p := of_decide_eq_true hc10;refine Sy Tz (vj und_3 ov rfl rfl Zf Zo) ?_;refine Sq (yn rfl rfl Zf) ?_;refine Sq (vk ov und_3 rfl rfl Zf Zo) ?_;refine Rg [] ?_;refine Dx [0,1,2,3,4] ?_;refine Oq EOp y1 data1 (Fb 5 [7,8,9,10]) (Xi (((((a1 + b1) / 2) + m1) - 1) - ((start3 + r2) / 2)).toNat) ?_;refine Oq EOp y1 data1 (Fb 6 [7,8,9,10]) Xa ?_;refine Dx [7,8] ?_;refine Oq EOp y1 data1 (Fb 9 []) (Xi ((start3 + r2) / 2).toNat) ?_;refine Oq EOp y1 data1 (Fb 10 []) Xa ?_;refine Rn 11 ?_;refine Cv (hfn1 (gt data1 (((((a1 + b1) / 2) + m1) - 1) - ((start3 + r2) / 2)).toNat) (gt data1 ((start3 + r2) / 2).toNat)) (hf := by assumption) fun _ => ?_;refine Dx [12,13] ?_;refine Re0 ?_;refine Cd' (fun hc11 => ?_) fun hc11 => ?_
      ·refine Tt ?_;refine ⟨⟨(((start3 + r2) / 2) + 1), r2, (fz3 - 1)⟩, ⟨(by (try simp only []); omega), (by (try simp only []); first | omega | (simp only [Ln]; omega)), (by rw [← hf5]; (conv => lhs; rw [← hlt4_]); simp only [ac, hc10, hc11, Bool.true_and, Bool.and_true, Cf] : (ac data1 a1 m1 b1 cmp1 ((b1 - a1).toNat + 1) (aa a1 m1 b1).1 (aa a1 m1 b1).2) = (ac data1 a1 m1 b1 cmp1 (fz3 - 1) (((start3 + r2) / 2) + 1) r2)).symm⟩, Oo, Le5⟩
      ·refine Tx ?_;refine ⟨⟨start3, ((start3 + r2) / 2), (fz3 - 1)⟩, ⟨(by (try simp only []); omega), (by (try simp only []); first | omega | (simp only [Ln]; omega)), (by rw [← hf5]; (conv => lhs; rw [← hlt4_]); simp only [ac, hc10, hc11, Bool.true_and, Bool.and_true, Cf] : (ac data1 a1 m1 b1 cmp1 ((b1 - a1).toNat + 1) (aa a1 m1 b1).1 (aa a1 m1 b1).2) = (ac data1 a1 m1 b1 cmp1 (fz3 - 1) start3 ((start3 + r2) / 2))).symm⟩, Oo, Le5⟩
     ·have hc10p := of_decide_eq_false hc10;refine Tx ?_;have hv7 : (ac data1 a1 m1 b1 cmp1 ((b1 - a1).toNat + 1) (aa a1 m1 b1).1 (aa a1 m1 b1).2) = start3 := by rw [← hf5]; (conv => lhs; rw [← hlt4_]); simp only [ac, hc10, Bool.true_and, Bool.and_true, Cf]
      refine ⟨start3, ⟨(by (try simp only []); omega), hv7.symm⟩, Le5⟩
    ·rintro start2 ⟨hv4, rfl⟩;simp only [Lc];refine Tx ?_;refine Sq Xm ?_;refine Ty ?_;refine mb [1, 3, 4, 18, 20, 24] [] (fun (data4 : List Op) => [(0, .v (y1.val data4.length))]) (fun (data4 : List Op) => []) (fun (data4 : List Op) => [ownL EOp 76 y1 y1b data4]) (fun (data4 : List Op) => []) (fun (data4 : List Op) => (data4.length = data1.length) ∧ data4 = (al data1 a1 m1 b1 cmp1)) (.cons rfl (.cons rfl (.cons rfl (.cons rfl (.cons rfl (.cons rfl (.nil _))))))) (.nil) ?_ ?_
     ·refine Cd' (fun hc12 => ?_) fun hc12 => ?_
      ·have hz11 := hc12;simp only [Ba] at hz11;refine Cm (k8 y1 y1b data1 (ac data1 a1 m1 b1 cmp1 ((b1 - a1).toNat + 1) (aa a1 m1 b1).1 (aa a1 m1 b1).2) m1 ((((a1 + b1) / 2) + m1) - (ac data1 a1 m1 b1 cmp1 ((b1 - a1).toNat + 1) (aa a1 m1 b1).1 (aa a1 m1 b1).2)) _ _ _ cmp1 (by assumption) hfn1 (by omega)) fun _ => ?_;have hv8l : data1.length = (bI data1 (ac data1 a1 m1 b1 cmp1 ((b1 - a1).toNat + 1) (aa a1 m1 b1).1 (aa a1 m1 b1).2) m1 ((((a1 + b1) / 2) + m1) - (ac data1 a1 m1 b1 cmp1 ((b1 - a1).toNat + 1) (aa a1 m1 b1).1 (aa a1 m1 b1).2)) cmp1).length := (q7 data1 (ac data1 a1 m1 b1 cmp1 ((b1 - a1).toNat + 1) (aa a1 m1 b1).1 (aa a1 m1 b1).2) m1 ((((a1 + b1) / 2) + m1) - (ac data1 a1 m1 b1 cmp1 ((b1 - a1).toNat + 1) (aa a1 m1 b1).1 (aa a1 m1 b1).2)) cmp1 (by omega)).symm;have hv8 : y1.val data1.length = y1.val (bI data1 (ac data1 a1 m1 b1 cmp1 ((b1 - a1).toNat + 1) (aa a1 m1 b1).1 (aa a1 m1 b1).2) m1 ((((a1 + b1) / 2) + m1) - (ac data1 a1 m1 b1 cmp1 ((b1 - a1).toNat + 1) (aa a1 m1 b1).1 (aa a1 m1 b1).2)) cmp1).length := congrArg (SlV.val y1) hv8l;try rw [hv8]
       refine eF ?_;have hv9 : (al data1 a1 m1 b1 cmp1) = (bI data1 (ac data1 a1 m1 b1 cmp1 ((b1 - a1).toNat + 1) (aa a1 m1 b1).1 (aa a1 m1 b1).2) m1 ((((a1 + b1) / 2) + m1) - (ac data1 a1 m1 b1 cmp1 ((b1 - a1).toNat + 1) (aa a1 m1 b1).1 (aa a1 m1 b1).2)) cmp1) := by simp only [al, hc12, Bool.true_and, Bool.and_true, Cf]
       refine ⟨(bI data1 (ac data1 a1 m1 b1 cmp1 ((b1 - a1).toNat + 1) (aa a1 m1 b1).1 (aa a1 m1 b1).2) m1 ((((a1 + b1) / 2) + m1) - (ac data1 a1 m1 b1 cmp1 ((b1 - a1).toNat + 1) (aa a1 m1 b1).1 (aa a1 m1 b1).2)) cmp1), ⟨(by first | rfl | exact q7 _ _ _ _ _ (by omega)), hv9.symm⟩, Le5⟩
      ·refine Tx ?_;have hv10 : (al data1 a1 m1 b1 cmp1) = data1 := by simp only [al, hc12, Bool.true_and, Bool.and_true, Cf]
       refine ⟨data1, ⟨(by first | rfl | exact q7 _ _ _ _ _ (by omega)), hv10.symm⟩, Le5⟩
     ·rintro data4 ⟨hv11, rfl⟩;simp only [Lc];refine Cd' (fun hc13 => ?_) fun hc13 => ?_
      ·have hz12 := hc13;simp only [Ba] at hz12;refine Cm (ih_ y1 y1b (al data1 a1 m1 b1 cmp1) a1 (ac data1 a1 m1 b1 cmp1 ((b1 - a1).toNat + 1) (aa a1 m1 b1).1 (aa a1 m1 b1).2) ((a1 + b1) / 2) _ _ _ cmp1 (by assumption) hfn1 (by omega) (by omega)) fun _ => ?_;have hv11l : (al data1 a1 m1 b1 cmp1).length = (ah k_ (al data1 a1 m1 b1 cmp1) a1 (ac data1 a1 m1 b1 cmp1 ((b1 - a1).toNat + 1) (aa a1 m1 b1).1 (aa a1 m1 b1).2) ((a1 + b1) / 2) cmp1).length := (kn k_ (al data1 a1 m1 b1 cmp1) a1 (ac data1 a1 m1 b1 cmp1 ((b1 - a1).toNat + 1) (aa a1 m1 b1).1 (aa a1 m1 b1).2) ((a1 + b1) / 2) cmp1 (by omega) (by omega)).symm;have hv11 : y1.val (al data1 a1 m1 b1 cmp1).length = y1.val (ah k_ (al data1 a1 m1 b1 cmp1) a1 (ac data1 a1 m1 b1 cmp1 ((b1 - a1).toNat + 1) (aa a1 m1 b1).1 (aa a1 m1 b1).2) ((a1 + b1) / 2) cmp1).length := congrArg (SlV.val y1) hv11l;try rw [hv11]
       refine Cd' (fun hc14 => ?_) fun hc14 => ?_
       ·have hz13 := hc14;simp only [Ba] at hz13;refine Cm (ih_ y1 y1b (ah k_ (al data1 a1 m1 b1 cmp1) a1 (ac data1 a1 m1 b1 cmp1 ((b1 - a1).toNat + 1) (aa a1 m1 b1).1 (aa a1 m1 b1).2) ((a1 + b1) / 2) cmp1) ((a1 + b1) / 2) ((((a1 + b1) / 2) + m1) - (ac data1 a1 m1 b1 cmp1 ((b1 - a1).toNat + 1) (aa a1 m1 b1).1 (aa a1 m1 b1).2)) b1 _ _ _ cmp1 (by assumption) hfn1 (by omega) (by omega)) fun _ => ?_;have hv12l : (ah k_ (al data1 a1 m1 b1 cmp1) a1 (ac data1 a1 m1 b1 cmp1 ((b1 - a1).toNat + 1) (aa a1 m1 b1).1 (aa a1 m1 b1).2) ((a1 + b1) / 2) cmp1).length = (ah k_ (ah k_ (al data1 a1 m1 b1 cmp1) a1 (ac data1 a1 m1 b1 cmp1 ((b1 - a1).toNat + 1) (aa a1 m1 b1).1 (aa a1 m1 b1).2) ((a1 + b1) / 2) cmp1) ((a1 + b1) / 2) ((((a1 + b1) / 2) + m1) - (ac data1 a1 m1 b1 cmp1 ((b1 - a1).toNat + 1) (aa a1 m1 b1).1 (aa a1 m1 b1).2)) b1 cmp1).length := (kn k_ (ah k_ (al data1 a1 m1 b1 cmp1) a1 (ac data1 a1 m1 b1 cmp1 ((b1 - a1).toNat + 1) (aa a1 m1 b1).1 (aa a1 m1 b1).2) ((a1 + b1) / 2) cmp1) ((a1 + b1) / 2) ((((a1 + b1) / 2) + m1) - (ac data1 a1 m1 b1 cmp1 ((b1 - a1).toNat + 1) (aa a1 m1 b1).1 (aa a1 m1 b1).2)) b1 cmp1 (by omega) (by omega)).symm
        have hv12 : y1.val (ah k_ (al data1 a1 m1 b1 cmp1) a1 (ac data1 a1 m1 b1 cmp1 ((b1 - a1).toNat + 1) (aa a1 m1 b1).1 (aa a1 m1 b1).2) ((a1 + b1) / 2) cmp1).length = y1.val (ah k_ (ah k_ (al data1 a1 m1 b1 cmp1) a1 (ac data1 a1 m1 b1 cmp1 ((b1 - a1).toNat + 1) (aa a1 m1 b1).1 (aa a1 m1 b1).2) ((a1 + b1) / 2) cmp1) ((a1 + b1) / 2) ((((a1 + b1) / 2) + m1) - (ac data1 a1 m1 b1 cmp1 ((b1 - a1).toNat + 1) (aa a1 m1 b1).1 (aa a1 m1 b1).2)) b1 cmp1).length := congrArg (SlV.val y1) hv12l;try rw [hv12]
        refine eF ?_;have hr3 : (ah (k_ + 1) data1 a1 m1 b1 cmp1) = (ah k_ (ah k_ (al data1 a1 m1 b1 cmp1) a1 (ac data1 a1 m1 b1 cmp1 ((b1 - a1).toNat + 1) (aa a1 m1 b1).1 (aa a1 m1 b1).2) ((a1 + b1) / 2) cmp1) ((a1 + b1) / 2) ((((a1 + b1) / 2) + m1) - (ac data1 a1 m1 b1 cmp1 ((b1 - a1).toNat + 1) (aa a1 m1 b1).1 (aa a1 m1 b1).2)) b1 cmp1) := by simp only [ah, hc1, hc5, hc13, hc14, Bool.true_and, Bool.and_true, Cf]
        rw [hr3];exact ⟨(), _, .nil, rfl, Sf, .nil _, Sp⟩
       ·refine Tx ?_;have hr4 : (ah (k_ + 1) data1 a1 m1 b1 cmp1) = (ah k_ (al data1 a1 m1 b1 cmp1) a1 (ac data1 a1 m1 b1 cmp1 ((b1 - a1).toNat + 1) (aa a1 m1 b1).1 (aa a1 m1 b1).2) ((a1 + b1) / 2) cmp1) := by simp only [ah, hc1, hc5, hc13, hc14, Bool.true_and, Bool.and_true, Cf]
        rw [hr4];exact ⟨(), _, .nil, rfl, Sf, .nil _, Sp⟩
      ·refine Cd' (fun hc15 => ?_) fun hc15 => ?_
       ·have hz13 := hc15;simp only [Ba] at hz13;refine Cm (ih_ y1 y1b (al data1 a1 m1 b1 cmp1) ((a1 + b1) / 2) ((((a1 + b1) / 2) + m1) - (ac data1 a1 m1 b1 cmp1 ((b1 - a1).toNat + 1) (aa a1 m1 b1).1 (aa a1 m1 b1).2)) b1 _ _ _ cmp1 (by assumption) hfn1 (by omega) (by omega)) fun _ => ?_;have hv13l : (al data1 a1 m1 b1 cmp1).length = (ah k_ (al data1 a1 m1 b1 cmp1) ((a1 + b1) / 2) ((((a1 + b1) / 2) + m1) - (ac data1 a1 m1 b1 cmp1 ((b1 - a1).toNat + 1) (aa a1 m1 b1).1 (aa a1 m1 b1).2)) b1 cmp1).length := (kn k_ (al data1 a1 m1 b1 cmp1) ((a1 + b1) / 2) ((((a1 + b1) / 2) + m1) - (ac data1 a1 m1 b1 cmp1 ((b1 - a1).toNat + 1) (aa a1 m1 b1).1 (aa a1 m1 b1).2)) b1 cmp1 (by omega) (by omega)).symm;have hv13 : y1.val (al data1 a1 m1 b1 cmp1).length = y1.val (ah k_ (al data1 a1 m1 b1 cmp1) ((a1 + b1) / 2) ((((a1 + b1) / 2) + m1) - (ac data1 a1 m1 b1 cmp1 ((b1 - a1).toNat + 1) (aa a1 m1 b1).1 (aa a1 m1 b1).2)) b1 cmp1).length := congrArg (SlV.val y1) hv13l;try rw [hv13]
        refine eF ?_;have hr5 : (ah (k_ + 1) data1 a1 m1 b1 cmp1) = (ah k_ (al data1 a1 m1 b1 cmp1) ((a1 + b1) / 2) ((((a1 + b1) / 2) + m1) - (ac data1 a1 m1 b1 cmp1 ((b1 - a1).toNat + 1) (aa a1 m1 b1).1 (aa a1 m1 b1).2)) b1 cmp1) := by simp only [ah, hc1, hc5, hc13, hc15, Bool.true_and, Bool.and_true, Cf]
        rw [hr5];exact ⟨(), _, .nil, rfl, Sf, .nil _, Sp⟩
       ·refine Tx ?_;have hr6 : (ah (k_ + 1) data1 a1 m1 b1 cmp1) = (al data1 a1 m1 b1 cmp1) := by simp only [ah, hc1, hc5, hc13, hc15, Bool.true_and, Bool.and_true, Cf]
        rw [hr6];exact ⟨(), _, .nil, rfl, Sf, .nil _, Sp⟩
end Go.Proofs.YtkjccbdeaflekaaGreatDoor
namespace Go.Proofs.YtkjccbdeaflekaaGreatDoor
open Go Go.Proofs.YtkjccbdeaflekaaGreatDoor.Fw Go.Proofs
attribute [local irreducible] CW RW
def bsearch (p : Int → Bool) : Nat → Int → Int → Int
 | 0, _, _ => default
 | f + 1, i, j => bif decide (i < j) then (bif p ((i + j) / 2) then bsearch p f ((i + j) / 2 + 1) j else bsearch p f i ((i + j) / 2)) else i
theorem kP (p : Int → Bool) : ∀ (f : Nat) (i j : Int), i ≤ j → (j - i).toNat < f → (∀ x y, i ≤ x → x ≤ y → y < j → p y = true → p x = true) →
  i ≤ bsearch p f i j ∧ bsearch p f i j ≤ j ∧ (∀ x, i ≤ x → x < bsearch p f i j → p x = true) ∧ (∀ x, bsearch p f i j ≤ x → x < j → p x = false)
 | 0, _, _, _, h, _ => by omega
 | f + 1, i, j, hij, h, hm => by
  rw [bsearch];cases hc : decide (i < j) with
  | false =>
   have := of_decide_eq_false hc;simp only [cond_false];exact ⟨Int.le_refl _, hij, fun x h1 h2 => by omega, fun x h1 h2 => by omega⟩
  | true =>
   have hc := of_decide_eq_true hc;simp only [cond_true];cases hp : p ((i + j) / 2) with
   | true =>
    simp only [cond_true];obtain ⟨h1, h2, h3, h4⟩ := kP p f ((i + j) / 2 + 1) j (by omega) (by omega) (fun x y hx hxy hy => hm x y (by omega) hxy hy);refine ⟨by omega, h2, fun x hx hxr => ?_, h4⟩;by_cases hh : x ≤ (i + j) / 2
    ·exact hm x _ hx hh (by omega) hp
    ·exact h3 x (by omega) hxr
   | false =>
    simp only [cond_false];obtain ⟨h1, h2, h3, h4⟩ := kP p f i ((i + j) / 2) (by omega) (by omega) (fun x y hx hxy hy => hm x y hx hxy (by omega));refine ⟨h1, by omega, h3, fun x hx hxj => ?_⟩;by_cases hh : x < (i + j) / 2
    ·exact h4 x hx hh
    ·cases hpx : p x with
     | false => rfl
     | true => have := hm ((i + j) / 2) x (by omega) (by omega) hxj hpx; rw [hp] at this; cases this
theorem yM (n : Int) (a b : Int) : ∀ (X2 Y2 P X1 Y1 M S : List Op) (f : Nat), X1.length = Y1.length → X2.length = Y2.length → a = (P.length : Int) → b = ((P.length + Y1.length + X2.length + M.length : Nat) : Int) → n = ((Y1.length + X2.length : Nat) : Int) → X2.length < f →
  bN a b n f (P ++ (Y1 ++ (X2 ++ (M ++ (X1 ++ (Y2 ++ S)))))) (Y1.length : Int) = P ++ (Y1 ++ (Y2 ++ (M ++ (X1 ++ (X2 ++ S)))))
 | [], [], P, X1, Y1, M, S, f + 1, h1, h2, ha, hb, hn, hf => by
  rw [bN];have : decide ((Y1.length : Int) < n) = false := by rw [hn]; simp
  rw [this]; rfl
 | x :: X2, y :: Y2, P, X1, Y1, M, S, f + 1, h1, h2, ha, hb, hn, hf => by
  simp only [List.length_cons] at h2 hb hn hf;rw [bN];have hc : decide ((Y1.length : Int) < n) = true := by rw [hn]; simp; omega
  have ea : (a + (Y1.length : Int)).toNat = (P ++ Y1).length := by rw [ha]; simp; omega
  have eb : (b + (Y1.length : Int)).toNat = (P ++ (Y1 ++ (x :: X2 ++ (M ++ X1)))).length := by rw [hb]; simp; omega
  have eb' : (b + (Y1.length : Int)).toNat = (P ++ (Y1 ++ (y :: X2 ++ (M ++ X1)))).length := by rw [hb]; simp; omega
  have d1 : P ++ (Y1 ++ (x :: X2 ++ (M ++ (X1 ++ (y :: Y2 ++ S))))) = (P ++ Y1) ++ x :: (X2 ++ (M ++ (X1 ++ (y :: Y2 ++ S)))) := by simp
  have d2 : P ++ (Y1 ++ (x :: X2 ++ (M ++ (X1 ++ (y :: Y2 ++ S))))) = (P ++ (Y1 ++ (x :: X2 ++ (M ++ X1)))) ++ y :: (Y2 ++ S) := by simp
  have d3 : (P ++ Y1) ++ y :: (X2 ++ (M ++ (X1 ++ (y :: Y2 ++ S)))) = (P ++ (Y1 ++ (y :: X2 ++ (M ++ X1)))) ++ y :: (Y2 ++ S) := by simp
  have g1 : gt (P ++ (Y1 ++ (x :: X2 ++ (M ++ (X1 ++ (y :: Y2 ++ S)))))) (a + (Y1.length : Int)).toNat = x := by rw [d1]; exact mX _ _ _ _ ea
  have g2 : gt (P ++ (Y1 ++ (x :: X2 ++ (M ++ (X1 ++ (y :: Y2 ++ S)))))) (b + (Y1.length : Int)).toNat = y := by rw [d2]; exact mX _ _ _ _ eb
  have s1 : (P ++ (Y1 ++ (x :: X2 ++ (M ++ (X1 ++ (y :: Y2 ++ S)))))).set (a + (Y1.length : Int)).toNat y = (P ++ Y1) ++ y :: (X2 ++ (M ++ (X1 ++ (y :: Y2 ++ S)))) := by rw [d1]; exact ly _ _ _ _ _ ea
  rw [hc, cond_true, g1, g2, s1, d3, ly _ _ _ _ _ eb'];have ih := yM n a b X2 Y2 P (X1 ++ [x]) (Y1 ++ [y]) M S f (by simp [h1]) (by omega) ha (by rw [hb]; simp; omega) (by rw [hn]; simp; omega) (by omega);simp only [Ln, List.append_assoc, List.cons_append, List.nil_append] at ih ⊢;rw [show (Y1.length : Int) + 1 = ((Y1.length + (0 + 1) : Nat) : Int) by simp];exact ih
theorem SR_Op (P X M Y S : List Op) (a b n : Int) (cmp : Op → Op → Int) (h : X.length = Y.length) (ha : a = (P.length : Int)) (hb : b = ((P.length + X.length + M.length : Nat) : Int)) (hn : n = (X.length : Int)) :
  aI (P ++ (X ++ (M ++ (Y ++ S)))) a b n cmp = P ++ (Y ++ (M ++ (X ++ S))) := by
 have := yM n a b X Y P [] [] M S ((n - 0).toNat + 1) rfl h ha (by rw [hb]; simp) (by rw [hn]; simp) (by rw [hn]; simp);exact this
theorem vN (m : Int) (cmp : Op → Op → Int) : ∀ (f : Nat) (P X Y S : List Op), 1 ≤ X.length → 1 ≤ Y.length → m = ((P.length + X.length : Nat) : Int) → X.length + Y.length < f →
  bO m cmp f (P ++ (X ++ (Y ++ S))) (X.length : Int) (Y.length : Int) = P ++ (Y ++ (X ++ S))
 | 0, _, _, _, _, _, _, _, h => by omega
 | f + 1, P, X, Y, S, hx, hy, hm, hf => by
  rw [bO];cases hc : ((X.length : Int) != (Y.length : Int)) with
  | false =>
   have hc := ag hc;simp only [cond_false];exact SR_Op P X [] Y S _ _ _ cmp (by omega) (by rw [hm]; simp) (by rw [hm]; simp) rfl
  | true =>
   have hc := bne_iff_ne.1 hc;simp only [cond_true];cases hd : decide ((X.length : Int) > (Y.length : Int)) with
   | true =>
    have hd := of_decide_eq_true hd;simp only [cond_true];have hX : X = X.take Y.length ++ X.drop Y.length := (List.take_append_drop _ _).symm;have hl : (X.take Y.length).length = Y.length := by simp; omega
    have e := SR_Op P (X.take Y.length) (X.drop Y.length) Y S (m - (X.length : Int)) m (Y.length : Int) cmp hl (by rw [hm]; simp) (by rw [hm]; simp; omega) (by rw [hl]);rw [← List.append_assoc (X.take Y.length), List.take_append_drop] at e;rw [e];have ih := vN m cmp f (P ++ Y) (X.drop Y.length) (X.take Y.length) S (by simp; omega) (by rw [hl]; exact hy) (by rw [hm]; simp; omega) (by rw [hl]; simp; omega);rw [hl] at ih;have hdl : ((X.drop Y.length).length : Int) = (X.length : Int) - (Y.length : Int) := by simp; omega
    rw [hdl] at ih;simp only [List.append_assoc] at ih;rw [ih, ← List.append_assoc (X.take Y.length), List.take_append_drop]
   | false =>
    have hd := of_decide_eq_false hd;simp only [cond_false];have hl2 : (Y.drop (Y.length - X.length)).length = X.length := by simp; omega
    have hl1 : (Y.take (Y.length - X.length)).length = Y.length - X.length := by simp
    have e := SR_Op P X (Y.take (Y.length - X.length)) (Y.drop (Y.length - X.length)) S (m - (X.length : Int)) (m + (Y.length : Int) - (X.length : Int)) (X.length : Int) cmp hl2.symm (by rw [hm]; simp) (by rw [hm, hl1]; simp; omega) rfl;rw [← List.append_assoc (Y.take _), List.take_append_drop] at e;rw [e];have ih := vN m cmp f P (Y.drop (Y.length - X.length)) (Y.take (Y.length - X.length)) (X ++ S) (by rw [hl2]; exact hx) (by rw [hl1]; omega) (by rw [hl2]; exact hm) (by rw [hl1, hl2]; omega);rw [hl2, hl1] at ih;have hdl : ((Y.length - X.length : Nat) : Int) = (Y.length : Int) - (X.length : Int) := by omega
    rw [hdl] at ih;rw [ih, ← List.append_assoc (Y.take _), List.take_append_drop]
theorem RT_Op (P X Y S : List Op) (a m b : Int) (cmp : Op → Op → Int) (hx : 1 ≤ X.length) (hy : 1 ≤ Y.length) (ha : a = (P.length : Int)) (hm : m = ((P.length + X.length : Nat) : Int)) (hb : b = ((P.length + X.length + Y.length : Nat) : Int)) :
  bI (P ++ (X ++ (Y ++ S))) a m b cmp = P ++ (Y ++ (X ++ S)) := by
 unfold bI;have h := vN m cmp ((b - a).toNat + 1) P X Y S hx hy hm (by rw [ha, hb]; omega);rw [show m - a = (X.length : Int) by rw [ha, hm]; omega, show b - m = (Y.length : Int) by rw [hm, hb]; omega];exact h
variable {α : Type}
theorem CJ [Inhabited α] (A B C : List α) (i : Nat) (h1 : A.length ≤ i) (h2 : i < A.length + B.length) : gt (A ++ (B ++ C)) i = gt B (i - A.length) := by
 unfold gt;rw [List.getD_eq_getElem?_getD, List.getD_eq_getElem?_getD, List.getElem?_append_right h1, List.getElem?_append_left (by omega)]
variable {l : List α} {n : Nat} {x : α}
theorem nt [Inhabited α] (h : x ∈ l.take n) : ∃ i, i < n ∧ i < l.length ∧ x = gt l i := by
 obtain ⟨i, hi, rfl⟩ := List.getElem_of_mem h;simp only [List.length_take] at hi;refine ⟨i, by omega, by omega, ?_⟩;rw [gt_eq (by omega), List.getElem_take]
theorem nu [Inhabited α] (h : x ∈ l.drop n) : ∃ i, n ≤ i ∧ i < l.length ∧ x = gt l i := by
 obtain ⟨i, hi, rfl⟩ := List.getElem_of_mem h;simp only [List.length_drop] at hi;refine ⟨n + i, by omega, by omega, ?_⟩;rw [gt_eq (by omega), List.getElem_drop]
theorem kE [Inhabited α] {lt : α → α → Bool} (has : ∀ a b, lt a b = true → lt b a = false) (h : Sorted lt l) {i j : Nat} (hij : i ≤ j) (hj : j < l.length) : lt (gt l j) (gt l i) = false := by
 rcases Nat.eq_or_lt_of_le hij with rfl | hij
 ·cases hh : lt (gt l i) (gt l i) with
  | false => rfl
  | true => have := has _ _ hh; rw [hh] at this; exact this
 ·rw [gt_eq hj, gt_eq (by omega)];exact List.pairwise_iff_getElem.1 h i j (by omega) hj hij
theorem yO (i : Int) : ∀ (V P R : List Op) (x : Op) (f : Nat), i - 1 = ((P.length + V.length : Nat) : Int) → V.length < f →
  bi i f (P ++ x :: (V ++ R)) (P.length : Int) = P ++ (V ++ x :: R)
 | [], P, R, x, f + 1, hi, hf => by
  rw [bi];have : decide ((P.length : Int) < i - 1) = false := by rw [hi]; simp
  rw [this]; rfl
 | v :: V, P, R, x, f + 1, hi, hf => by
  simp only [List.length_cons] at hi hf;rw [bi];have hc : decide ((P.length : Int) < i - 1) = true := by rw [hi]; simp; omega
  have e0 : (P.length : Int).toNat = P.length := by simp
  have e1 : ((P.length : Int) + 1).toNat = (P ++ [x]).length := by simp only [Ln]; omega
  have e2 : ((P.length : Int) + 1).toNat = (P ++ [v]).length := by simp only [Ln]; omega
  have d1 : P ++ x :: (v :: V ++ R) = (P ++ [x]) ++ v :: (V ++ R) := by simp
  have g0 : gt (P ++ x :: (v :: V ++ R)) (P.length : Int).toNat = x := mX _ _ _ _ e0;have g1 : gt (P ++ x :: (v :: V ++ R)) ((P.length : Int) + 1).toNat = v := by rw [d1]; exact mX _ _ _ _ e1
  rw [hc, cond_true, g0, g1, ly _ _ _ _ _ e0, show P ++ v :: (v :: V ++ R) = (P ++ [v]) ++ v :: (V ++ R) by simp, ly _ _ _ _ _ e2];have ih := yO i V (P ++ [v]) R x f (by rw [hi]; simp; omega) (by omega);simp only [Ln, List.append_assoc, List.cons_append, List.nil_append] at ih ⊢;rw [show (P.length : Int) + 1 = ((P.length + (0 + 1) : Nat) : Int) by simp];exact ih
theorem yN (i : Int) (P : List Op) (hi : i = (P.length : Int)) : ∀ (r R : List Op) (y : Op) (f : Nat), r.length < f →
  bg i f (P ++ (r.reverse ++ y :: R)) ((P.length + r.length : Nat) : Int) = P ++ (y :: (r.reverse ++ R))
 | [], R, y, f + 1, hf => by
  rw [bg];have : decide (((P.length + ([] : List Op).length : Nat) : Int) > i) = false := by rw [hi]; simp
  rw [this]; rfl
 | u :: r, R, y, f + 1, hf => by
  simp only [List.length_cons] at hf;rw [bg];have hc : decide (((P.length + (u :: r).length : Nat) : Int) > i) = true := by rw [hi]; simp; omega
  have e0 : ((P.length + (u :: r).length : Nat) : Int).toNat = (P ++ (r.reverse ++ [u])).length := by simp; omega
  have e1 : (((P.length + (u :: r).length : Nat) : Int) - 1).toNat = (P ++ r.reverse).length := by simp; omega
  have d0 : P ++ ((u :: r).reverse ++ y :: R) = (P ++ (r.reverse ++ [u])) ++ y :: R := by simp
  have d1 : (P ++ (r.reverse ++ [u])) ++ y :: R = (P ++ r.reverse) ++ u :: (y :: R) := by simp
  have g0 : gt (P ++ ((u :: r).reverse ++ y :: R)) ((P.length + (u :: r).length : Nat) : Int).toNat = y := by rw [d0]; exact mX _ _ _ _ e0
  have g1 : gt (P ++ ((u :: r).reverse ++ y :: R)) (((P.length + (u :: r).length : Nat) : Int) - 1).toNat = u := by rw [d0, d1]; exact mX _ _ _ _ e1
  rw [hc, cond_true, g0, g1, d0, ly _ _ _ _ _ e0, show (P ++ (r.reverse ++ [u])) ++ u :: R = (P ++ r.reverse) ++ u :: (u :: R) by simp, ly _ _ _ _ _ e1];have ih := yN i P hi r (u :: R) y f (by omega);rw [show ((P.length + (u :: r).length : Nat) : Int) - 1 = ((P.length + r.length : Nat) : Int) by simp; omega, List.append_assoc, ih];simp
theorem vM (data : List Op) (a b : Int) (cmp : Op → Op → Int) : ∀ (f : Nat) (i j : Int), (j - i).toNat < f →
  bj data a b cmp f i j = bi (bsearch (fun h => decide (cmp (gt data h.toNat) (gt data a.toNat) < 0)) f i j) ((b - a).toNat + 1) data a
 | 0, _, _, h => by omega
 | f + 1, i, j, h => by
  rw [bj, bsearch];cases hc : decide (i < j) with
  | false => rfl
  | true =>
   have hc := of_decide_eq_true hc;simp only [cond_true];cases decide (cmp (gt data ((i + j) / 2).toNat) (gt data a.toNat) < 0) with
   | true => simp only [cond_true]; exact vM data a b cmp f _ _ (by omega)
   | false => simp only [cond_false]; exact vM data a b cmp f _ _ (by omega)
theorem vL (data : List Op) (a m : Int) (cmp : Op → Op → Int) : ∀ (f : Nat) (i j : Int), (j - i).toNat < f →
  bh data a m cmp f i j = bg (bsearch (fun h => !decide (cmp (gt data m.toNat) (gt data h.toNat) < 0)) f i j) ((m - a).toNat + 1) data m
 | 0, _, _, h => by omega
 | f + 1, i, j, h => by
  rw [bh, bsearch];cases hc : decide (i < j) with
  | false => rfl
  | true =>
   have hc := of_decide_eq_true hc;simp only [cond_true];cases decide (cmp (gt data m.toNat) (gt data ((i + j) / 2).toNat) < 0) with
   | true => simp only [Bool.not_true, cond_false]; exact vL data a m cmp f _ _ (by omega)
   | false => simp only [Bool.not_false, cond_true]; exact vL data a m cmp f _ _ (by omega)
theorem vK (data : List Op) (a m b : Int) (cmp : Op → Op → Int) : ∀ (f : Nat) (i j : Int),
  ac data a m b cmp f i j = bsearch (fun c => !decide (cmp (gt data ((a + b) / 2 + m - 1 - c).toNat) (gt data c.toNat) < 0)) f i j
 | 0, _, _ => rfl
 | f + 1, i, j => by
  rw [ac, bsearch, vK data a m b cmp f, vK data a m b cmp f]
theorem SM_Op (cmp : Op → Op → Int) (lt : Op → Op → Bool) (hlt : ∀ a b, decide (cmp a b < 0) = lt a b) (htr : ∀ a b c, lt c b = false → lt b a = false → lt c a = false) (has : ∀ a b, lt a b = true → lt b a = false) : ∀ (k : Nat) (P U V S : List Op) (a m b : Int),
  1 ≤ U.length → 1 ≤ V.length → a = (P.length : Int) → m = ((P.length + U.length : Nat) : Int) → b = ((P.length + U.length + V.length : Nat) : Int) → U.length + V.length < k → Sorted lt U → Sorted lt V →
  ∃ W, ah k (P ++ (U ++ (V ++ S))) a m b cmp = P ++ (W ++ S) ∧ W.Perm (U ++ V) ∧ Sorted lt W
 | 0, _, _, _, _, _, _, _, _, _, _, _, _, h, _, _ => by omega
 | k + 1, P, U, V, S, a, m, b, hu, hv, ha, hm, hb, hk, sU, sV => by
  have gU : ∀ i : Int, a ≤ i → i < m → gt (P ++ (U ++ (V ++ S))) i.toNat = gt U (i - a).toNat := fun i h1 h2 => by
   rw [CJ P U (V ++ S) i.toNat (by omega) (by omega)]; congr 1; omega
  have gV : ∀ i : Int, m ≤ i → i < b → gt (P ++ (U ++ (V ++ S))) i.toNat = gt V (i - m).toNat := fun i h1 h2 => by
   rw [← List.append_assoc P, CJ (P ++ U) V S i.toNat (by simp; omega) (by simp; omega)]; congr 1; simp; omega
  rw [ah];cases h1 : (m - a == 1) with
  | true =>
   have h1 := eq_of_beq h1;simp only [cond_true];obtain ⟨x, rfl⟩ : ∃ x, U = [x] := List.length_eq_one_iff.1 (by omega);rw [vM _ a b cmp _ _ _ (by omega)];have ga : gt (P ++ ([x] ++ (V ++ S))) a.toNat = x := by rw [gU a (by omega) (by omega)]; simp [gt]
   rw [ga];obtain ⟨q1, q2, q3, q4⟩ := kP (fun h => decide (cmp (gt (P ++ ([x] ++ (V ++ S))) h.toNat) x < 0)) ((b - m).toNat + 1) m b (by omega) (by omega) (fun z w hz hzw hw hp => by
    try simp only at hp ⊢
    rw [gV z hz (by omega)];rw [gV w (by omega) hw] at hp;rw [hlt] at hp ⊢;cases hh : lt (gt V (z - m).toNat) x with
    | true => rfl
    | false => rw [htr _ _ _ (kE has sV (i := (z - m).toNat) (j := (w - m).toNat) (by omega) (by omega)) hh] at hp; cases hp)
   generalize bsearch (fun h => decide (cmp (gt (P ++ ([x] ++ (V ++ S))) h.toNat) x < 0)) ((b - m).toNat + 1) m b = r at *;have hV : V = V.take (r - m).toNat ++ V.drop (r - m).toNat := (List.take_append_drop _ _).symm;refine ⟨V.take (r - m).toNat ++ x :: V.drop (r - m).toNat, ?_, ?_, ?_⟩
   ·have := yO r (V.take (r - m).toNat) P (V.drop (r - m).toNat ++ S) x ((b - a).toNat + 1) (by simp; omega) (by simp; omega);rw [← List.append_assoc (V.take _), List.take_append_drop] at this;rw [ha];simp only [Lc];rw [ha] at this;rw [this]; simp
   ·refine List.perm_middle.trans ?_;rw [List.take_append_drop]; exact .refl _
   ·have sV' := sV;unfold Sorted at sV';rw [hV] at sV';obtain ⟨p1, p2, p3⟩ := List.pairwise_append.1 sV';refine List.pairwise_append.2 ⟨p1, List.pairwise_cons.2 ⟨fun v hv9 => ?_, p2⟩, fun v hv9 w hw => ?_⟩
    ·obtain ⟨i, hi1, hi2, rfl⟩ := nu hv9;have := q4 (m + i) (by omega) (by omega);rw [gV (m + i) (by omega) (by omega), hlt] at this;rw [show (m + (i : Int) - m).toNat = i by omega] at this;exact this
    ·rcases List.mem_cons.1 hw with rfl | hw
     ·obtain ⟨i, hi1, hi2, rfl⟩ := nt hv9;have := q3 (m + i) (by omega) (by omega);rw [gV (m + i) (by omega) (by omega), hlt] at this;rw [show (m + (i : Int) - m).toNat = i by omega] at this;exact has _ _ this
     ·exact p3 v hv9 w hw
  | false =>
   simp only [cond_false];have h1 : ¬ m - a = 1 := by simpa using h1
   cases h2 : (b - m == 1) with
   | true =>
    have h2 := eq_of_beq h2;simp only [cond_true];obtain ⟨y, rfl⟩ : ∃ y, V = [y] := List.length_eq_one_iff.1 (by omega);rw [vL _ a m cmp _ _ _ (by omega)];have gm : gt (P ++ (U ++ ([y] ++ S))) m.toNat = y := by rw [gV m (by omega) (by omega)]; simp [gt]
    rw [gm];obtain ⟨q1, q2, q3, q4⟩ := kP (fun h => !decide (cmp y (gt (P ++ (U ++ ([y] ++ S))) h.toNat) < 0)) ((m - a).toNat + 1) a m (by omega) (by omega) (fun z w hz hzw hw hp => by
     try simp only at hp ⊢
     rw [gU z hz (by omega)];rw [gU w (by omega) hw] at hp;rw [hlt] at hp ⊢;have hp : lt y (gt U (w - a).toNat) = false := by simpa using hp
     rw [htr _ _ _ hp (kE has sU (i := (z - a).toNat) (j := (w - a).toNat) (by omega) (by omega))]; rfl)
    generalize bsearch (fun h => !decide (cmp y (gt (P ++ (U ++ ([y] ++ S))) h.toNat) < 0)) ((m - a).toNat + 1) a m = r at *;have hU : U = U.take (r - a).toNat ++ U.drop (r - a).toNat := (List.take_append_drop _ _).symm;refine ⟨U.take (r - a).toNat ++ y :: U.drop (r - a).toNat, ?_, ?_, ?_⟩
    ·have := yN r (P ++ U.take (r - a).toNat) (by simp; omega) (U.drop (r - a).toNat).reverse S y ((m - a).toNat + 1) (by simp; omega);rw [List.reverse_reverse] at this;have e1 : P ++ U.take (r - a).toNat ++ (U.drop (r - a).toNat ++ y :: S) = P ++ (U ++ ([y] ++ S)) := by
      rw [List.append_assoc P, ← List.append_assoc (U.take _), List.take_append_drop]; rfl
     have e2 : (((P ++ U.take (r - a).toNat).length + (U.drop (r - a).toNat).reverse.length : Nat) : Int) = m := by simp; omega
     rw [e1, e2] at this;rw [this]; simp
    ·refine List.perm_middle.trans ?_;rw [List.take_append_drop];exact (List.perm_append_comm (l₁ := [y]) (l₂ := U))
    ·have sU' := sU;unfold Sorted at sU';rw [hU] at sU';obtain ⟨p1, p2, p3⟩ := List.pairwise_append.1 sU';refine List.pairwise_append.2 ⟨p1, List.pairwise_cons.2 ⟨fun v hv9 => ?_, p2⟩, fun v hv9 w hw => ?_⟩
     ·obtain ⟨i, hi1, hi2, rfl⟩ := nu hv9;have := q4 (a + i) (by omega) (by omega);rw [gU (a + i) (by omega) (by omega), hlt] at this;rw [show (a + (i : Int) - a).toNat = i by omega] at this;exact has _ _ (by simpa using this)
     ·rcases List.mem_cons.1 hw with rfl | hw
      ·obtain ⟨i, hi1, hi2, rfl⟩ := nt hv9;have := q3 (a + i) (by omega) (by omega);rw [gU (a + i) (by omega) (by omega), hlt] at this;rw [show (a + (i : Int) - a).toNat = i by omega] at this;simpa using this
      ·exact p3 v hv9 w hw
   | false =>
    simp only [cond_false];have h2 : ¬ b - m = 1 := by simpa using h2
    have hV8 : a ≤ (aa a m b).1 ∧ (aa a m b).1 ≤ (aa a m b).2 ∧ (aa a m b).2 ≤ m ∧ (aa a m b).2 ≤ (a + b) / 2 ∧ (a + b) / 2 + m - (aa a m b).1 ≤ b ∧
      ((aa a m b).1 = a ∨ (aa a m b).1 = (a + b) / 2 + m - b) ∧ ((aa a m b).2 = m ∨ (aa a m b).2 = (a + b) / 2) := by
     unfold aa;cases hc : decide (m > (a + b) / 2) with
     | true => have hc := of_decide_eq_true hc; exact ⟨by simp only [cond_true]; omega, by simp only [cond_true]; omega, by simp only [cond_true]; omega, by simp only [cond_true]; omega, by simp only [cond_true]; omega, .inr rfl, .inr rfl⟩
     | false => have hc := of_decide_eq_false hc; exact ⟨by simp only [cond_false]; omega, by simp only [cond_false]; omega, by simp only [cond_false]; omega, by simp only [cond_false]; omega, by simp only [cond_false]; omega, .inl rfl, .inl rfl⟩
    unfold al;rw [vK];generalize (aa a m b).1 = lo at *;generalize (aa a m b).2 = hi at *;obtain ⟨w1, w2, w3, w4, w5, w6, w7⟩ := hV8;obtain ⟨q1, q2, q3, q4⟩ := kP (fun c => !decide (cmp (gt (P ++ (U ++ (V ++ S))) ((a + b) / 2 + m - 1 - c).toNat) (gt (P ++ (U ++ (V ++ S))) c.toNat) < 0)) ((b - a).toNat + 1) lo hi w2 (by omega) (fun z w hz hzw hw hp => by
     try simp only at hp ⊢
     rw [gU z (by omega) (by omega), gV _ (by omega) (by omega)];rw [gU w (by omega) (by omega), gV _ (by omega) (by omega)] at hp;rw [hlt] at hp ⊢;have hp : lt (gt V ((a + b) / 2 + m - 1 - w - m).toNat) (gt U (w - a).toNat) = false := by simpa using hp
     have hp2 := htr _ _ _ (kE has sV (i := ((a + b) / 2 + m - 1 - w - m).toNat) (j := ((a + b) / 2 + m - 1 - z - m).toNat) (by omega) (by omega)) hp;rw [htr _ _ _ hp2 (kE has sU (i := (z - a).toNat) (j := (w - a).toNat) (by omega) (by omega))]; rfl)
    generalize bsearch (fun c => !decide (cmp (gt (P ++ (U ++ (V ++ S))) ((a + b) / 2 + m - 1 - c).toNat) (gt (P ++ (U ++ (V ++ S))) c.toNat) < 0)) ((b - a).toNat + 1) lo hi = s at *;have hU : U = U.take (s - a).toNat ++ U.drop (s - a).toNat := (List.take_append_drop _ _).symm;have hV : V = V.take ((a + b) / 2 - s).toNat ++ V.drop ((a + b) / 2 - s).toNat := (List.take_append_drop _ _).symm;have lU1 : (U.take (s - a).toNat).length = (s - a).toNat := by simp; omega
    have lU2 : (U.drop (s - a).toNat).length = (m - s).toNat := by simp; omega
    have lV1 : (V.take ((a + b) / 2 - s).toNat).length = ((a + b) / 2 - s).toNat := by simp; omega
    have lV2 : (V.drop ((a + b) / 2 - s).toNat).length = (b - ((a + b) / 2 + m - s)).toNat := by simp; omega
    have c1 : ∀ u ∈ U.take (s - a).toNat, ∀ v ∈ V.drop ((a + b) / 2 - s).toNat, lt v u = false := fun u hu' v hv' => by
     obtain ⟨i, hi1, hi2, rfl⟩ := nt hu';obtain ⟨j, hj1, hj2, rfl⟩ := nu hv';have hs : lo < s := by rcases w6 with w6 | w6 <;> omega
     have := q3 (s - 1) (by omega) (by omega);rw [gU (s - 1) (by omega) (by omega), gV _ (by omega) (by omega), hlt] at this;have this : lt (gt V ((a + b) / 2 + m - 1 - (s - 1) - m).toNat) (gt U (s - 1 - a).toNat) = false := by simpa using this
     exact htr _ _ _ (htr _ _ _ (kE has sV (i := ((a + b) / 2 + m - 1 - (s - 1) - m).toNat) (j := j) (by omega) hj2) this) (kE has sU (i := i) (j := (s - 1 - a).toNat) (by omega) (by omega))
    have c2 : ∀ v ∈ V.take ((a + b) / 2 - s).toNat, ∀ u ∈ U.drop (s - a).toNat, lt u v = false := fun v hv' u hu' => by
     obtain ⟨j, hj1, hj2, rfl⟩ := nt hv';obtain ⟨i, hi1, hi2, rfl⟩ := nu hu';have hs : s < hi := by rcases w7 with w7 | w7 <;> omega
     have := q4 s (by omega) hs;rw [gU s (by omega) (by omega), gV _ (by omega) (by omega), hlt] at this;have this : lt (gt V ((a + b) / 2 + m - 1 - s - m).toNat) (gt U (s - a).toNat) = true := by simpa using this
     exact htr _ _ _ (htr _ _ _ (kE has sU (i := (s - a).toNat) (j := i) (by omega) hi2) (has _ _ this)) (kE has sV (i := j) (j := ((a + b) / 2 + m - 1 - s - m).toNat) (by omega) (by omega))
    have sU' := sU;have sV' := sV;unfold Sorted at sU' sV';rw [hU] at sU';rw [hV] at sV';obtain ⟨u1, u2, u3⟩ := List.pairwise_append.1 sU';obtain ⟨v1, v2, v3⟩ := List.pairwise_append.1 sV';have hrot : (bif (decide (s < m) && decide (m < (a + b) / 2 + m - s)) then bI (P ++ (U ++ (V ++ S))) s m ((a + b) / 2 + m - s) cmp else P ++ (U ++ (V ++ S))) = P ++ (U.take (s - a).toNat ++ (V.take ((a + b) / 2 - s).toNat ++ (U.drop (s - a).toNat ++ (V.drop ((a + b) / 2 - s).toNat ++ S)))) := by
     cases hc : (decide (s < m) && decide (m < (a + b) / 2 + m - s)) with
     | true =>
      simp only [Ba] at hc;have := RT_Op (P ++ U.take (s - a).toNat) (U.drop (s - a).toNat) (V.take ((a + b) / 2 - s).toNat) (V.drop ((a + b) / 2 - s).toNat ++ S) s m ((a + b) / 2 + m - s) cmp (by omega) (by omega) (by simp; omega) (by simp; omega) (by simp; omega);have e1 : P ++ U.take (s - a).toNat ++ (U.drop (s - a).toNat ++ (V.take ((a + b) / 2 - s).toNat ++ (V.drop ((a + b) / 2 - s).toNat ++ S))) = P ++ (U ++ (V ++ S)) := by
       rw [List.append_assoc P, ← List.append_assoc (U.take _), List.take_append_drop, ← List.append_assoc (V.take _), List.take_append_drop]
      rw [e1] at this;rw [cond_true, this]; simp
     | false =>
      simp only [Bool.and_eq_false_iff, decide_eq_false_iff_not] at hc;rw [cond_false];rcases hc with hc | hc
      ·have e : U.drop (s - a).toNat = [] := List.length_eq_zero_iff.1 (by omega);have e' : U.take (s - a).toNat = U := List.take_of_length_le (by omega);rw [e, e', List.nil_append, ← List.append_assoc (V.take _), List.take_append_drop]
      ·have e : V.take ((a + b) / 2 - s).toNat = [] := List.length_eq_zero_iff.1 (by omega);have e' : V.drop ((a + b) / 2 - s).toNat = V := by rw [show ((a + b) / 2 - s).toNat = 0 by omega]; rfl
       rw [e, e', List.nil_append, ← List.append_assoc (U.take _), List.take_append_drop]
    rw [hrot];obtain ⟨W1, hW1, pW1, sW1⟩ : ∃ W1, (bif (decide (a < s) && decide (s < (a + b) / 2)) then ah k (P ++ (U.take (s - a).toNat ++ (V.take ((a + b) / 2 - s).toNat ++ (U.drop (s - a).toNat ++ (V.drop ((a + b) / 2 - s).toNat ++ S))))) a s ((a + b) / 2) cmp else P ++ (U.take (s - a).toNat ++ (V.take ((a + b) / 2 - s).toNat ++ (U.drop (s - a).toNat ++ (V.drop ((a + b) / 2 - s).toNat ++ S))))) = P ++ (W1 ++ (U.drop (s - a).toNat ++ (V.drop ((a + b) / 2 - s).toNat ++ S))) ∧ W1.Perm (U.take (s - a).toNat ++ V.take ((a + b) / 2 - s).toNat) ∧ Sorted lt W1 := by
     cases hc : (decide (a < s) && decide (s < (a + b) / 2)) with
     | true =>
      simp only [Ba] at hc;rw [cond_true];exact SM_Op cmp lt hlt htr has k P (U.take (s - a).toNat) (V.take ((a + b) / 2 - s).toNat) _ a s ((a + b) / 2) (by omega) (by omega) ha (by omega) (by omega) (by omega) u1 v1
     | false =>
      simp only [Bool.and_eq_false_iff, decide_eq_false_iff_not] at hc;refine ⟨U.take (s - a).toNat ++ V.take ((a + b) / 2 - s).toNat, by rw [cond_false]; simp, .refl _, ?_⟩;rcases hc with hc | hc
      ·have e : U.take (s - a).toNat = [] := List.length_eq_zero_iff.1 (by omega);rw [e]; exact v1
      ·have e : V.take ((a + b) / 2 - s).toNat = [] := List.length_eq_zero_iff.1 (by omega);rw [e, List.append_nil]; exact u1
    have lW1 : W1.length = ((a + b) / 2 - a).toNat := by rw [pW1.length_eq]; simp only [List.length_append]; omega
    obtain ⟨W2, hW2, pW2, sW2⟩ : ∃ W2, (bif (decide ((a + b) / 2 < (a + b) / 2 + m - s) && decide ((a + b) / 2 + m - s < b)) then ah k (P ++ (W1 ++ (U.drop (s - a).toNat ++ (V.drop ((a + b) / 2 - s).toNat ++ S)))) ((a + b) / 2) ((a + b) / 2 + m - s) b cmp else P ++ (W1 ++ (U.drop (s - a).toNat ++ (V.drop ((a + b) / 2 - s).toNat ++ S)))) = P ++ (W1 ++ (W2 ++ S)) ∧ W2.Perm (U.drop (s - a).toNat ++ V.drop ((a + b) / 2 - s).toNat) ∧ Sorted lt W2 := by
     cases hc : (decide ((a + b) / 2 < (a + b) / 2 + m - s) && decide ((a + b) / 2 + m - s < b)) with
     | true =>
      simp only [Ba] at hc;rw [cond_true];obtain ⟨W2, g1, g2, g3⟩ := SM_Op cmp lt hlt htr has k (P ++ W1) (U.drop (s - a).toNat) (V.drop ((a + b) / 2 - s).toNat) S ((a + b) / 2) ((a + b) / 2 + m - s) b (by omega) (by omega) (by simp; omega) (by simp; omega) (by simp; omega) (by omega) u2 v2;exact ⟨W2, by rw [List.append_assoc, List.append_assoc] at g1; exact g1, g2, g3⟩
     | false =>
      simp only [Bool.and_eq_false_iff, decide_eq_false_iff_not] at hc;refine ⟨U.drop (s - a).toNat ++ V.drop ((a + b) / 2 - s).toNat, by rw [cond_false]; simp, .refl _, ?_⟩;rcases hc with hc | hc
      ·have e : U.drop (s - a).toNat = [] := List.length_eq_zero_iff.1 (by omega);rw [e]; exact v2
      ·have e : V.drop ((a + b) / 2 - s).toNat = [] := List.length_eq_zero_iff.1 (by omega);rw [e, List.append_nil]; exact u2
    refine ⟨W1 ++ W2, ?_, ?_, ?_⟩
    ·rw [List.append_assoc, ← hW2, ← hW1];cases (decide (a < s) && decide (s < (a + b) / 2)) <;> cases (decide ((a + b) / 2 < (a + b) / 2 + m - s) && decide ((a + b) / 2 + m - s < b)) <;> rfl
    ·refine (pW1.append pW2).trans ?_;conv => rhs; rw [hU, hV]
     simp only [List.append_assoc];refine List.Perm.append_left _ ?_;rw [← List.append_assoc, ← List.append_assoc];exact List.Perm.append_right _ List.perm_append_comm
    ·refine List.pairwise_append.2 ⟨sW1, sW2, fun x hx y hy => ?_⟩;have hx := pW1.mem_iff.1 hx;have hy := pW2.mem_iff.1 hy;rcases List.mem_append.1 hx with hx | hx <;> rcases List.mem_append.1 hy with hy | hy
     ·exact u3 x hx y hy
     ·exact c1 x hx y hy
     ·exact c2 x hx y hy
     ·exact v3 x hx y hy
attribute [local irreducible] RdL RdN VarP
theorem sg (a : Int) (cmp : Op → Op → Int) : ∀ (f : Nat) (data : List Op) (j : Int), (j - a).toNat < f → (aq a cmp f data j).length = data.length
 | 0, _, _, h => by omega
 | f + 1, data, j, h => by
  rw [aq];cases hc : decide (j > a) with
  | false => rfl
  | true =>
   have hc := of_decide_eq_true hc;simp only [cond_true, Bool.true_and];cases decide (cmp (gt data j.toNat) (gt data (j - 1).toNat) < 0) with
   | false => rfl
   | true => simp only [cond_true]; rw [sg a cmp f _ _ (by omega)]; simp
theorem sh (a b : Int) (cmp : Op → Op → Int) : ∀ (f : Nat) (data : List Op) (i : Int), (b - i).toNat < f → (ba a b cmp f data i).length = data.length
 | 0, _, _, h => by omega
 | f + 1, data, i, h => by
  rw [ba];cases hc : decide (i < b) with
  | false => rfl
  | true =>
   have hc := of_decide_eq_true hc;simp only [cond_true];rw [sh a b cmp f _ _ (by omega), sg a cmp _ _ _ (by omega)]
theorem pc (data : List Op) (a b : Int) (cmp : Op → Op → Int) : (ay data a b cmp).length = data.length := sh a b cmp _ data _ (by omega)
def aZ (n1 : Int) (cmp1 : Op → Op → Int) : Nat → (List Op) → Int → Int → Int → (List Op)
 | 0, data3, blockSize1, a2, b2 => []
 | f_k1 + 1, data3, blockSize1, a2, b2 => (bif decide (blockSize1 < n1) then (bif decide ((2 * blockSize1) ≤ n1) then [] else (bif decide ((0 + blockSize1) < n1) then (aZ n1 cmp1 f_k1 (ah 100 data3 0 (0 + blockSize1) n1 cmp1) (blockSize1 * 2) 0 (2 * blockSize1)) else (aZ n1 cmp1 f_k1 data3 (blockSize1 * 2) 0 (2 * blockSize1)))) else data3)
def cG (n1 : Int) (cmp1 : Op → Op → Int) : Nat → (List Op) → Int → Int → (List Op)
 | 0, data2, a1, b1 => []
 | f_k0 + 1, data2, a1, b1 => (bif decide (b1 ≤ n1) then (cG n1 cmp1 f_k0 (ay data2 a1 b1 cmp1) b1 (b1 + 20)) else (aZ n1 cmp1 (41) (ay data2 a1 n1 cmp1) 20 a1 b1))
def ct (data1 : List Op) (n1 : Int) (cmp1 : Op → Op → Int) : List Op :=
 (cG n1 cmp1 (n1.toNat + 21) data1 0 20)
theorem k7 (y1 : SlV) (y1b : Option Nat) (data1 : List Op) (n1 : Int) (f1 : Nat) (caps1 : List Value) (pre1 : List Pred) [StabL pre1] (cmp1 : Op → Op → Int) (hfb1 : tab.fnb f1 = true) (hfn1 : ∀ (a0_ : Op) (a1_ : Op), Du f1 ([.agg ⟨cO a0_⟩, .agg ⟨cO a1_⟩] ++ caps1) pre1 (.int .i64 (cmp1 a0_ a1_))) (hn : 0 ≤ n1 ∧ n1 ≤ 30 ∧ n1 ≤ (data1.length : Int)) : Dv 257 [y1.val data1.length, .int .i64 n1, .func (.func f1) #[] ⟨caps1⟩] pre1 ⟨[], [ownL EOp 76 y1 y1b data1]⟩ (fun (_ : Unit) => .tuple #[]) (fun _ => []) (fun _ => ⟨[], [ownL EOp 76 y1 y1b (ct data1 n1 cmp1)]⟩) := by
 refine Dq Tryz.func257 fun C => ?_;refine lK EOp (e := 76) (X := y1) (b := y1b) (l := data1) Mm fun hl63y1 hleny1 => ?_;simp only [show EOp.by_ = 56 from rfl] at hleny1;refine Lq (List Op × Int × Int × Nat) [1,2,6] [] (fun ⟨data2, a1, b1, fz1⟩ => ⟨[(0, .v (y1.val data2.length)), (7, .v (.int .i64 a1)), (8, .v (.int .i64 b1))], [], [ownL EOp 76 y1 y1b data2], [], (0 ≤ a1 ∧ b1 = a1 + 20 ∧ a1 ≤ n1 ∧ data2.length = data1.length) ∧ ((n1 + 20 - b1).toNat < fz1) ∧ (cG n1 cmp1 fz1 data2 a1 b1) = (ct data1 n1 cmp1), fz1⟩) ⟨data1, 0, 20, n1.toNat + 21⟩ ⟨Nz, Nz, (by simp only [ct, Bool.true_and, Bool.and_true, Cf, D0])⟩ ?_;rintro ⟨data2, a1, b1, fz1⟩ ⟨hi0, hzfz1, hf1⟩;simp only [Lc];have hlt0_ : (fz1 - 1) + 1 = fz1 := by omega
 have hf := Ri hf1.symm;rw [← hlt0_, cG] at hf;refine Cp hf (fun hc1 hc1p hf => ?_) fun hc1 hc1p hf => ?_
 ·refine Cm (gr y1 y1b data2 a1 b1 _ _ _ cmp1 (by assumption) hfn1 (by omega)) fun _ => ?_;have hv1l : data2.length = (ay data2 a1 b1 cmp1).length := (pc data2 a1 b1 cmp1).symm;have hv1 : y1.val data2.length = y1.val (ay data2 a1 b1 cmp1).length := congrArg (SlV.val y1) hv1l;try rw [hv1]
  refine Tt ?_;refine ⟨⟨(ay data2 a1 b1 cmp1), b1, (b1 + 20), (fz1 - 1)⟩, ⟨(by simp only [true_and]; omega), (by (try simp only []); first | omega | (simp only [Ln]; omega)), (hf : (ct data1 n1 cmp1) = (cG n1 cmp1 (fz1 - 1) (ay data2 a1 b1 cmp1) b1 (b1 + 20))).symm⟩, Oo, Le5⟩
 ·refine Cm (gr y1 y1b data2 a1 n1 _ _ _ cmp1 (by assumption) hfn1 (by omega)) fun _ => ?_;have hv2l : data2.length = (ay data2 a1 n1 cmp1).length := (pc data2 a1 n1 cmp1).symm;have hv2 : y1.val data2.length = y1.val (ay data2 a1 n1 cmp1).length := congrArg (SlV.val y1) hv2l;try rw [hv2]
  refine Lq (List Op × Int × Int × Int × Nat) [1,2] [] (fun ⟨data3, blockSize1, a2, b2, fz2⟩ => ⟨[(0, .v (y1.val data3.length)), (6, .v (.int .i64 blockSize1)), (7, .v (.int .i64 a2)), (8, .v (.int .i64 b2))], [], [ownL EOp 76 y1 y1b data3], [], (20 ≤ blockSize1 ∧ blockSize1 ≤ 60 ∧ data3.length = data1.length) ∧ ((60 - blockSize1).toNat < fz2) ∧ (aZ n1 cmp1 fz2 data3 blockSize1 a2 b2) = (ct data1 n1 cmp1), fz2⟩) ⟨(ay data2 a1 n1 cmp1), 20, a1, b1, 41⟩ ⟨Nz, Nz, hf.symm⟩ ?_;rintro ⟨data3, blockSize1, a2, b2, fz2⟩ ⟨hi1, hzfz2, hf2⟩;simp only [Lc];have hlt1_ : (fz2 - 1) + 1 = fz2 := by omega
  have hf := Ri hf2.symm;rw [← hlt1_, aZ] at hf;refine Cp hf (fun hc2 hc2p hf => ?_) fun hc2 hc2p hf => ?_
  ·refine Sy Tz (q_mul rfl rfl Zf rfl Zf Zo) ?_;refine Tx ?_;(repeat refine er ?_); refine DJ ?_;refine Cp hf (fun hc3 hc3p hf => ?_) fun hc3 hc3p hf => ?_
   ·exact absurd (of_decide_eq_true hc3) (by omega)
   ·refine Cp hf (fun hc4 hc4p hf => ?_) fun hc4 hc4p hf => ?_
    ·refine Cm (kF 100 y1 y1b data3 0 (0 + blockSize1) n1 _ _ _ cmp1 (by assumption) hfn1 (by omega) (by omega)) fun _ => ?_;have hv3l : data3.length = (ah 100 data3 0 (0 + blockSize1) n1 cmp1).length := (kn 100 data3 0 (0 + blockSize1) n1 cmp1 (by omega) (by omega)).symm;have hv3 : y1.val data3.length = y1.val (ah 100 data3 0 (0 + blockSize1) n1 cmp1).length := congrArg (SlV.val y1) hv3l;try rw [hv3]
     refine Sy Tz (q_mul rfl rfl Zf rfl Zf Zo) ?_;refine Tx ?_;refine ⟨⟨(ah 100 data3 0 (0 + blockSize1) n1 cmp1), (blockSize1 * 2), 0, (2 * blockSize1), (fz2 - 1)⟩, ⟨(by (try simp only []); omega), (by (try simp only []); first | omega | (simp only [Ln]; omega)), (hf : (ct data1 n1 cmp1) = (aZ n1 cmp1 (fz2 - 1) (ah 100 data3 0 (0 + blockSize1) n1 cmp1) (blockSize1 * 2) 0 (2 * blockSize1))).symm⟩, Oo, Le5⟩
    ·refine Sy Tz (q_mul rfl rfl Zf rfl Zf Zo) ?_;refine Tx ?_;refine ⟨⟨data3, (blockSize1 * 2), 0, (2 * blockSize1), (fz2 - 1)⟩, ⟨(by (try simp only []); omega), (by (try simp only []); first | omega | (simp only [Ln]; omega)), (hf : (ct data1 n1 cmp1) = (aZ n1 cmp1 (fz2 - 1) data3 (blockSize1 * 2) 0 (2 * blockSize1))).symm⟩, Oo, Le5⟩
  ·refine Tx ?_;rw [hf.to];exact ⟨(), _, .nil, rfl, Sf, .nil _, Sp⟩
def ar (x1 : List Op) (cmp1 : Op → Op → Int) : List Op :=
 (ct x1 (x1.length : Int) cmp1)
theorem kS (y1 : SlV) (y1b : Option Nat) (x1 : List Op) (f1 : Nat) (caps1 : List Value) (pre1 : List Pred) [StabL pre1] (cmp1 : Op → Op → Int) (hfb1 : tab.fnb f1 = true) (hfn1 : ∀ (a0_ : Op) (a1_ : Op), Du f1 ([.agg ⟨cO a0_⟩, .agg ⟨cO a1_⟩] ++ caps1) pre1 (.int .i64 (cmp1 a0_ a1_))) (hx : x1.length ≤ 30) : Dv 255 [y1.val x1.length, .func (.func f1) #[] ⟨caps1⟩] pre1 ⟨[], [ownL EOp 76 y1 y1b x1]⟩ (fun (_ : Unit) => .tuple #[]) (fun _ => []) (fun _ => ⟨[], [ownL EOp 76 y1 y1b (ar x1 cmp1)]⟩) := by
 refine Dq Tryz.func255 fun C => ?_;refine lK EOp (e := 76) (X := y1) (b := y1b) (l := x1) Mm fun hl63y1 hleny1 => ?_;simp only [show EOp.by_ = 56 from rfl] at hleny1;refine Cm (k7 y1 y1b x1 (x1.length : Int) _ _ _ cmp1 (by assumption) hfn1 Zc) fun _ => ?_;refine eF ?_;have hr1 : (ar x1 cmp1) = (ct x1 (x1.length : Int) cmp1) := by simp only [ar, Bool.true_and, Bool.and_true, Cf]
 rw [hr1];exact ⟨(), _, .nil, rfl, Sf, .nil _, Sp⟩
theorem Cd (cmp : Op → Op → Int) (lt : Op → Op → Bool) (hlt : ∀ a b, decide (cmp a b < 0) = lt a b) (htr : ∀ a b c, lt c b = false → lt b a = false → lt c a = false) (has : ∀ a b, lt a b = true → lt b a = false) (U V : List Op) (hU : U.length = 20) (hV : U.length + V.length ≤ 30) (sU : Sorted lt U) (sV : Sorted lt V) (a b : Int) :
  ∃ W, aZ ((U.length + V.length : Nat) : Int) cmp 41 (U ++ V) 20 a b = W ∧ W.Perm (U ++ V) ∧ Sorted lt W := by
 cases V with
 | nil =>
  refine ⟨U, ?_, by simp, sU⟩;rw [aZ];have : decide ((20 : Int) < ((U.length + ([] : List Op).length : Nat) : Int)) = false := by simp; omega
  rw [this]; simp
 | cons v V =>
  simp only [List.length_cons] at hV;obtain ⟨W, h1, h2, h3⟩ := SM_Op cmp lt hlt htr has 100 [] U (v :: V) [] 0 (0 + 20) ((U.length + (v :: V).length : Nat) : Int) (by omega) (by simp) rfl (by simp; omega) (by simp) (by simp; omega) sU sV;refine ⟨W, ?_, h2, h3⟩;simp only [List.nil_append, List.append_nil] at h1;rw [aZ];have c1 : decide ((20 : Int) < ((U.length + (v :: V).length : Nat) : Int)) = true := by simp; omega
  have c2 : decide ((2 * 20 : Int) ≤ ((U.length + (v :: V).length : Nat) : Int)) = false := by simp; omega
  have c3 : decide ((0 + 20 : Int) < ((U.length + (v :: V).length : Nat) : Int)) = true := by simp; omega
  rw [c1, c2, c3, cond_true, cond_false, cond_true, h1, aZ];have c4 : decide ((20 * 2 : Int) < ((U.length + (v :: V).length : Nat) : Int)) = false := by simp; omega
  rw [c4]; rfl
theorem ST_Op (cmp : Op → Op → Int) (lt : Op → Op → Bool) (hlt : ∀ a b, decide (cmp a b < 0) = lt a b) (htr : ∀ a b c, lt c b = false → lt b a = false → lt c a = false) (has : ∀ a b, lt a b = true → lt b a = false) (l : List Op) (hl : l.length ≤ 30) :
  (ar l cmp).Perm l ∧ Sorted lt (ar l cmp) := by
 have hfun : (fun a b => decide (cmp a b < 0)) = lt := by funext a b; exact hlt a b
 unfold ar ct;have key : ∀ M : List Op, (isort lt [] M).Perm M ∧ Sorted lt (isort lt [] M) := fun M => ⟨by simpa using rp lt M [], rZ htr has M [] (by simp [Sorted])⟩;rw [show (l.length : Int).toNat + 21 = (l.length + 20) + 1 by simp, cG];by_cases h : 20 ≤ l.length
 ·have c1 : decide ((20 : Int) ≤ (l.length : Int)) = true := by simp; omega
  have e1 : ay l 0 20 cmp = isort lt [] (l.take 20) ++ l.drop 20 := by
   have := IS_Op cmp [] (l.take 20) (l.drop 20) 0 20 rfl (by simp; omega);rw [List.nil_append, List.nil_append, List.take_append_drop, hfun] at this;exact this
  rw [c1, cond_true, e1, cG];have c2 : decide ((20 + 20 : Int) ≤ (l.length : Int)) = false := by simp; omega
  have e2 : ay (isort lt [] (l.take 20) ++ l.drop 20) 20 (l.length : Int) cmp = isort lt [] (l.take 20) ++ isort lt [] (l.drop 20) := by
   have := IS_Op cmp (isort lt [] (l.take 20)) (l.drop 20) [] 20 (l.length : Int) (by rw [oT]; simp; omega) (by rw [oT]; simp; omega);rw [List.append_nil, List.append_nil, hfun] at this;exact this
  rw [c2, cond_false, e2];have hlen : ((isort lt [] (l.take 20)).length + (isort lt [] (l.drop 20)).length : Nat) = l.length := by rw [oT, oT]; simp; omega
  obtain ⟨W, h1, h2, h3⟩ := Cd cmp lt hlt htr has (isort lt [] (l.take 20)) (isort lt [] (l.drop 20)) (by rw [oT]; simp; omega) (by rw [hlen]; exact hl) (key _).2 (key _).2 20 (20 + 20);rw [hlen] at h1;rw [h1];refine ⟨h2.trans ?_, h3⟩;have := (key (l.take 20)).1.append (key (l.drop 20)).1;rw [List.take_append_drop] at this;exact this
 ·have c1 : decide ((20 : Int) ≤ (l.length : Int)) = false := by simp; omega
  have e1 : ay l 0 (l.length : Int) cmp = isort lt [] l := by
   have := IS_Op cmp [] l [] 0 (l.length : Int) rfl (by simp);simp only [List.nil_append, List.append_nil, hfun] at this;exact this
  rw [c1, cond_false, e1, aZ];have c2 : decide ((20 : Int) < (l.length : Int)) = false := by simp; omega
  rw [c2];exact key l
theorem Bg (l : List Op) (cmp : Op → Op → Int) (hl : l.length ≤ 30) : (ar l cmp).length = l.length := by
 have key : ∀ (d : List Op) (a b : Int), d.length = l.length → (aZ (l.length : Int) cmp 41 d 20 a b).length = l.length := fun d a b hd => by
  rw [aZ];cases hc : decide ((20 : Int) < (l.length : Int)) with
  | false => exact hd
  | true =>
   have hc := of_decide_eq_true hc;have c2 : decide ((2 * 20 : Int) ≤ (l.length : Int)) = false := by simp; omega
   have c3 : decide ((0 + 20 : Int) < (l.length : Int)) = true := by simp; omega
   have c4 : decide ((20 * 2 : Int) < (l.length : Int)) = false := by simp; omega
   rw [c2, c3, cond_true, cond_false, cond_true, aZ, c4, cond_false, kn 100 _ _ _ _ _ (by omega) (by omega)];exact hd
 unfold ar ct;rw [show (l.length : Int).toNat + 21 = (l.length + 20) + 1 by simp, cG];cases hc : decide ((20 : Int) ≤ (l.length : Int)) with
 | false => rw [cond_false]; exact key _ _ _ (pc _ _ _ _)
 | true =>
  have hc := of_decide_eq_true hc;have c2 : decide ((20 + 20 : Int) ≤ (l.length : Int)) = false := by simp; omega
  rw [cond_true, cG, c2, cond_false];exact key _ _ _ (by rw [pc, pc])
def dA (k1 : Nat) : Nat → (List Op) → Int → Int → (List Op)
 | 0, s2, i1, j1 => default
 | f_k0 + 1, s2, i1, j1 => (bif decide (i1 < j1) then (dA k1 f_k0 ((s2.set (k1 + i1.toNat) (gt s2 (k1 + j1.toNat))).set (k1 + j1.toNat) (gt s2 (k1 + i1.toNat))) (i1 + 1) (j1 - 1)) else s2)
def bA (s1 : List Op) (k1 : Nat) : List Op :=
 (dA k1 (s1.length + 2) s1 0 (((s1.drop k1).length : Int) - 1))
theorem m8 (y1 : SlV) (y1b : Option Nat) (s1 : List Op) (k1 : Nat) (hk : k1 ≤ s1.length) : Dv 217 [(⟨slA y1.a y1.c k1 EOp.esz, y1.c - k1⟩ : SlV).val (s1.drop k1).length] [] ⟨[], [ownL EOp 76 y1 y1b s1]⟩ (fun (_ : Unit) => .tuple #[]) (fun _ => []) (fun _ => ⟨[], [ownL EOp 76 y1 y1b (bA s1 k1)]⟩) := by
 refine Dq Tryz.func217 fun C => ?_;refine lK EOp (e := 76) (X := y1) (b := y1b) (l := s1) Mm fun hl63y1 hleny1 => ?_;simp only [show EOp.by_ = 56 from rfl] at hleny1;have hkd : (s1.drop k1).length = s1.length - k1 := List.length_drop;refine Lq (List Op × Int × Int × Nat) [] [] (fun ⟨s2, i1, j1, fz1⟩ => ⟨[(0, .v ((⟨slA y1.a y1.c k1 EOp.esz, y1.c - k1⟩ : SlV).val (s2.drop k1).length)), (2, .v (.int .i64 i1)), (3, .v (.int .i64 j1))], [], [ownL EOp 76 y1 y1b s2], [], (0 ≤ i1 ∧ i1 + j1 = ((s1.drop k1).length : Int) - 1 ∧ s2.length = s1.length) ∧ ((j1 - i1 + 1).toNat < fz1) ∧ (dA k1 fz1 s2 i1 j1) = (bA s1 k1), fz1⟩) ⟨s1, 0, (((s1.drop k1).length : Int) - 1), s1.length + 2⟩ ⟨⟨by simp, by simp, rfl⟩, Nz, (by simp only [bA, Bool.true_and, Bool.and_true, Cf, D0])⟩ ?_;rintro ⟨s2, i1, j1, fz1⟩ ⟨hi, hzfz1, hf1⟩;simp only [Lc];have hlt0_ : (fz1 - 1) + 1 = fz1 := by omega
 have hf := Ri hf1.symm;rw [← hlt0_, dA] at hf;refine Cp hf (fun hc1 hc1p hf => ?_) fun hc1 hc1p hf => ?_
 ·refine Rg [(13,some y1b.toList),(15,some y1b.toList)] ?_;refine Dx [0,1] ?_;refine Rq (Fa 2 [3,4,5,6,7,8,9,10,11,12,13]) Sa Xv ?_;refine Rq (Fa 3 [4,5,6,7,8,9,10,11,12,13]) Sa Xv ?_;refine Dx [4,5] ?_;refine Oq EOp y1 s2 (Fa 6 [8,9,10,11]) (yo EOp (l := s2) (X := y1) (k := k1) j1.toNat rfl rfl Zf rfl Zf rfl rfl rfl (.head _) Zo Za) ?_;refine Oq EOp y1 s2 (Fa 7 [8,9,10,11]) Xa ?_;refine Dx [8,9] ?_;refine Oq EOp y1 s2 (Fb 10 []) (yo EOp (l := s2) (X := y1) (k := k1) i1.toNat rfl rfl Zf rfl Zf rfl rfl rfl (.head _) Zo Za) ?_;refine Oq EOp y1 s2 (Fa 11 []) Xa ?_;refine Oq EOp y1 s2 (Fa 12 []) (yo EOp (l := s2) (X := y1) (k := k1) i1.toNat rfl rfl Zf rfl Zf rfl rfl rfl (.head _) Zo Za) ?_;refine Rn 13 ?_;refine Wo EOp s2 (k1 + i1.toNat) 0 (gt s2 (k1 + j1.toNat)) y1b ?_;have hv1 : y1.val s2.length = y1.val (s2.set (k1 + i1.toNat) (gt s2 (k1 + j1.toNat))).length := congrArg (SlV.val y1) List.length_set.symm;try rw [hv1]
  have hv2 : (⟨slA y1.a y1.c k1 EOp.esz, y1.c - k1⟩ : SlV).val (s2.drop k1).length = (⟨slA y1.a y1.c k1 EOp.esz, y1.c - k1⟩ : SlV).val ((s2.set (k1 + i1.toNat) (gt s2 (k1 + j1.toNat))).drop k1).length := by congr 1; simp only [List.length_drop, List.length_set] <;> omega
  try rw [hv2]
  refine Oq EOp y1 (s2.set (k1 + i1.toNat) (gt s2 (k1 + j1.toNat))) (Fa 14 []) (yo EOp (l := (s2.set (k1 + i1.toNat) (gt s2 (k1 + j1.toNat)))) (X := y1) (k := k1) j1.toNat rfl rfl Zf rfl Zf rfl rfl rfl (.head _) Zo Za) ?_;refine Rn 15 ?_;refine Wo EOp (s2.set (k1 + i1.toNat) (gt s2 (k1 + j1.toNat))) (k1 + j1.toNat) 0 (gt s2 (k1 + i1.toNat)) y1b ?_;have hv3 : y1.val (s2.set (k1 + i1.toNat) (gt s2 (k1 + j1.toNat))).length = y1.val ((s2.set (k1 + i1.toNat) (gt s2 (k1 + j1.toNat))).set (k1 + j1.toNat) (gt s2 (k1 + i1.toNat))).length := congrArg (SlV.val y1) List.length_set.symm;try rw [hv3]
  have hv4 : (⟨slA y1.a y1.c k1 EOp.esz, y1.c - k1⟩ : SlV).val ((s2.set (k1 + i1.toNat) (gt s2 (k1 + j1.toNat))).drop k1).length = (⟨slA y1.a y1.c k1 EOp.esz, y1.c - k1⟩ : SlV).val (((s2.set (k1 + i1.toNat) (gt s2 (k1 + j1.toNat))).set (k1 + j1.toNat) (gt s2 (k1 + i1.toNat))).drop k1).length := by congr 1; simp only [List.length_drop, List.length_set] <;> omega
  try rw [hv4]
  refine Re0 ?_;refine Tt ?_;refine ⟨⟨((s2.set (k1 + i1.toNat) (gt s2 (k1 + j1.toNat))).set (k1 + j1.toNat) (gt s2 (k1 + i1.toNat))), (i1 + 1), (j1 - 1), (fz1 - 1)⟩, ⟨(by simp only [List.length_set]; omega), (by (try simp only []); first | omega | (simp only [Ln]; omega)), (hf : (bA s1 k1) = (dA k1 (fz1 - 1) ((s2.set (k1 + i1.toNat) (gt s2 (k1 + j1.toNat))).set (k1 + j1.toNat) (gt s2 (k1 + i1.toNat))) (i1 + 1) (j1 - 1))).symm⟩, Oo, Le4⟩
 ·refine Tx ?_;rw [hf.to];exact ⟨(), _, .nil, rfl, Sm, .nil _, Sp⟩
theorem se (k : Nat) : ∀ (f : Nat) (s : List Op) (i j : Int), (j - i + 1).toNat < f → (dA k f s i j).length = s.length
 | 0, _, _, _, h => by omega
 | f + 1, s, i, j, h => by
  rw [dA];cases hc : decide (i < j) with
  | false => rfl
  | true =>
   have hc := of_decide_eq_true hc;simp only [cond_true];rw [se k f _ _ _ (by omega)]; simp
theorem Bj (s : List Op) (k : Nat) (h : k ≤ s.length) : (bA s k).length = s.length := se k _ s _ _ (by simp; omega)
theorem Ci (k : Nat) : ∀ (n : Nat) (A M B : List Op) (f : Nat), M.length = n → A.length = B.length → k ≤ (A.length + k) → ∀ P : List Op, P.length = k → n + 1 < f →
  dA k f (P ++ (A ++ (M ++ B))) (A.length : Int) ((A.length + M.length : Nat) - 1 : Int) = P ++ (A ++ (M.reverse ++ B)) := by
 intro n;induction n using Nat.strongRecOn with
 | _ n ih =>
  intro A M B f hM hAB _ P hP hf;obtain ⟨f, rfl⟩ : ∃ g, f = g + 1 := ⟨f - 1, by omega⟩;rw [dA]
  match M, hM with
  | [], hM =>
   have : decide ((A.length : Int) < ((A.length + ([] : List Op).length : Nat) - 1 : Int)) = false := by simp; omega
   rw [this]; rfl
  | [x], hM =>
   have : decide ((A.length : Int) < ((A.length + [x].length : Nat) - 1 : Int)) = false := by simp
   rw [this]; rfl
  | x :: y :: M', hM =>
   obtain ⟨L, z, hL⟩ : ∃ L z, y :: M' = L ++ [z] := ⟨(y :: M').dropLast, (y :: M').getLast (by simp), (List.dropLast_concat_getLast (by simp)).symm⟩;rw [hL] at hM ⊢;simp only [List.length_cons, List.length_append, List.length_nil] at hM;have hc : decide ((A.length : Int) < ((A.length + (x :: (L ++ [z])).length : Nat) - 1 : Int)) = true := by simp; omega
   have e0 : k + (A.length : Int).toNat = (P ++ A).length := by simp; omega
   have e1 : k + ((A.length + (x :: (L ++ [z])).length : Nat) - 1 : Int).toNat = (P ++ (A ++ (x :: L))).length := by simp; omega
   have e2 : k + ((A.length + (x :: (L ++ [z])).length : Nat) - 1 : Int).toNat = (P ++ (A ++ (z :: L))).length := by simp; omega
   have d0 : P ++ (A ++ (x :: (L ++ [z]) ++ B)) = (P ++ A) ++ x :: (L ++ ([z] ++ B)) := by simp
   have d1 : P ++ (A ++ (x :: (L ++ [z]) ++ B)) = (P ++ (A ++ (x :: L))) ++ z :: B := by simp
   have g0 : gt (P ++ (A ++ (x :: (L ++ [z]) ++ B))) (k + (A.length : Int).toNat) = x := by rw [d0]; exact mX _ _ _ _ e0
   have g1 : gt (P ++ (A ++ (x :: (L ++ [z]) ++ B))) (k + ((A.length + (x :: (L ++ [z])).length : Nat) - 1 : Int).toNat) = z := by rw [d1]; exact mX _ _ _ _ e1
   have s0 : (P ++ (A ++ (x :: (L ++ [z]) ++ B))).set (k + (A.length : Int).toNat) z = (P ++ A) ++ z :: (L ++ ([z] ++ B)) := by rw [d0]; exact ly _ _ _ _ _ e0
   rw [hc, cond_true, g0, g1, s0, show (P ++ A) ++ z :: (L ++ ([z] ++ B)) = (P ++ (A ++ (z :: L))) ++ z :: B by simp, ly _ _ _ _ _ e2];have h := ih L.length (by omega) (A ++ [z]) L (x :: B) f rfl (by simp [hAB]) (by omega) P hP (by omega);rw [show (((A ++ [z]).length : Nat) : Int) = (A.length : Int) + 1 by simp, show ((((A ++ [z]).length + L.length : Nat) : Int) - 1) = ((A.length + (x :: (L ++ [z])).length : Nat) - 1 : Int) - 1 by simp; omega] at h;rw [show (P ++ (A ++ (z :: L))) ++ x :: B = P ++ (A ++ [z] ++ (L ++ x :: B)) by simp, h];simp
theorem RK_Op (s : List Op) (k : Nat) (h : k ≤ s.length) : bA s k = s.take k ++ (s.drop k).reverse := by
 unfold bA;have := Ci k (s.drop k).length [] (s.drop k) [] (s.length + 2) rfl rfl (by omega) (s.take k) (by simp; omega) (by simp; omega);simp only [List.nil_append, List.append_nil, List.take_append_drop, List.length_nil, Nat.zero_add] at this;exact this
def br (a1 : Op) (b1 : Op) : Int :=
 (bif (jL (⟨a1.time, a1.who⟩ : Stamp) (⟨b1.time, b1.who⟩ : Stamp)) then (-1) else (bif (jL (⟨b1.time, b1.who⟩ : Stamp) (⟨a1.time, a1.who⟩ : Stamp)) then 1 else 0))
theorem p7 (a1 : Op) (b1 : Op) : Du 256 [.agg ⟨cO a1⟩, .agg ⟨cO b1⟩] [] (.int .i64 (br a1 b1)) := by
 refine Dp Tryz.func256 fun C => ?_;refine BxT fun g1 => ?_;refine BxT fun g2 => ?_;refine Ck (kV (⟨a1.time, a1.who⟩ : Stamp) (⟨b1.time, b1.who⟩ : Stamp)) fun _ => ?_;refine eF ?_;have hf := Ri (br.eq_1 a1 b1);refine Kh hf fun hc1 hf => ?_;refine Ck (kV (⟨b1.time, b1.who⟩ : Stamp) (⟨a1.time, a1.who⟩ : Stamp)) fun _ => ?_;refine eF ?_;refine Kh hf fun hc2 hf => ?_;exact Ru
def eZ (l1 : List Op) : List Op → Nat → (List Step) → (List Place) → (History × Int)
 | [], n2, l2, p1 => ((⟨l2, p1⟩ : History), 0)
 | pn2 :: rn2, n2, l2, p1 => (bif (decide ((n2 : Int) > 0) && decide ((⟨(gt (ar l1 br) (n2 - 1)).time, (gt (ar l1 br) (n2 - 1)).who⟩ : Stamp) = (⟨pn2.time, pn2.who⟩ : Stamp))) then ((⟨[], []⟩ : History), 6) else (bif ((f5 p1 pn2).2.2 != 0) then ((⟨[], []⟩ : History), (f5 p1 pn2).2.2) else (eZ l1 rn2 (n2 + 1) (l2 ++ [(f5 p1 pn2).2.1]) (f5 p1 pn2).1)))
def fB (l1 : List Op) : List Op → (History × Int)
 | [] => (eZ l1 (ar l1 br) 0 [] [])
 | pn1 :: rn1 => (bif ((dv pn1) != 0) then ((⟨[], []⟩ : History), (dv pn1)) else (fB l1 rn1))
def bW (l1 : List Op) : History × Int :=
 (bif decide ((l1.length : Int) > 30) then ((⟨[], []⟩ : History), 2) else (fB l1 l1))
theorem rq (y1 : SlV) (l1 : List Op) : Dw 249 [y1.val l1.length] [RdL EOp y1 l1] (fun (X : SlV × SlV) => .tuple #[.agg ⟨cH X.1 X.2 (bW l1).1⟩, .int .i64 (bW l1).2]) (fun X => [RdL EStep X.1 (bW l1).1.l, RdL EPlace X.2 (bW l1).1.t]) := by
 refine Dp Tryz.func249 fun C => ?_;refine Qc y1 56 fun hlen1 => ?_;refine AlT fun g1 => ?_;have hf := Ri (bW.eq_1 l1);refine Cp hf (fun hc1 hc1p hf => ?_) fun hc1 hc1p hf => ?_
 ·refine Tx ?_;refine Fc EStep ?_;refine Fc EPlace ?_;refine Rx ?_; exact Rr ⟨Z0, Z0⟩
 ·refine Lq Nat [0,2,3,17,18] [true] (fun n1 => ⟨[(19, .v (.int .i64 (n1 : Int)))], [], [], [], (n1 ≤ l1.length) ∧ (fB l1 (l1.drop n1)) = (bW l1), l1.length - n1⟩) 0 ⟨N0, hf.symm⟩ ?_;rintro n1 ⟨hkn1, hf1⟩;simp only [Lc];refine Cu (fun hlt0 => ?_) fun hge0 => ?_
  ·refine Sy Tz (Xi n1) ?_;refine Sq Xa ?_;refine AlT fun g2 => ?_;refine Ck (fW (gt l1 n1)) fun _ => ?_;have hf := Ri hf1.symm;rw [aK hlt0, fB] at hf;refine Cn hf (fun hc3 hc3p hf => ?_) fun hc3 hc3p hf => ?_
   ·refine Tx ?_;refine Fc EStep ?_;refine Fc EPlace ?_;refine Rx ?_; exact Rr ⟨Z0, Z0⟩
   ·refine Tt ?_;refine ⟨(n1 + 1), ⟨hlt0, hf.symm⟩, Oo, Le4⟩
  ·refine Cm (kZ y1 l1) fun x1 => ?_;refine Cm (kS x1.1 x1.2 l1 _ _ _ br Kr (fun a0_ a1_ => p7 a0_ a1_) (by omega)) fun _ => ?_;have hv1l : l1.length = (ar l1 br).length := (Bg l1 br (by omega)).symm;have hv1 : x1.1.val l1.length = x1.1.val (ar l1 br).length := congrArg (SlV.val x1.1) hv1l;try rw [hv1]
   refine AlT fun g3 => ?_;refine Tx ?_;refine Fz x1.1 ?_;refine Qc x1.1 56 fun hlen2 => ?_;refine Lq (Nat × List Step × SlV × Option Nat × List Place × SlV) [0,2,3,7,34,35] [false, true] (fun ⟨n2, l2, x2, x2b, p1, x3⟩ => ⟨[(36, .v (.int .i64 (n2 : Int)))], [⟨g3, 27, [x2.val l2.length, x3.val p1.length]⟩], [ownL EStep 157 x2 x2b l2], [RdL EPlace x3 p1], (n2 ≤ (ar l1 br).length) ∧ (l2.length ≤ n2) ∧ (l2.length = n2) ∧ (eZ l1 ((ar l1 br).drop n2) n2 l2 p1) = (bW l1), (ar l1 br).length - n2⟩) ⟨0, [], ⟨none, 0⟩, none, [], ⟨none, 0⟩⟩ ⟨N0, Nz, rfl, (by rw [← hf1, Dl hge0]; simp only [fB, Cf, D0])⟩ ?_ (hs := Le.trans (eI EStep 157) (Le.trans (th (RdL EPlace ⟨none, 0⟩ ([] : List Place)) [] (.nil _) (fun M w _ => RdL.nil _ _ _ (by omega) M w)) Le4));rintro ⟨n2, l2, x2, x2b, p1, x3⟩ ⟨hkn2, hl2, hhl, hf2⟩;simp only [Lc];refine Cu (fun hlt1 => ?_) fun hge1 => ?_
   ·refine Sy Tz (Xi n2) ?_;refine Sq Xa ?_;refine AlT fun g4 => ?_;refine Rg [] ?_;refine Dx (.range 6) ?_;refine Gb 6 rfl Gz (Xi (n2 - 1)) ?_;refine Gb 7 rfl Gz Xf ?_;refine Gb 8 rfl Gz (q_leP EOp rfl rfl Bt rfl rfl Mm (by first | (intro _; first | assumption | omega) | (intro h; simp at h; omega)) rfl) ?_;refine Dx [9,10] ?_;refine Ga 11 rfl Gz (q_eqE tB (oW (⟨(gt (ar l1 br) (n2 - 1)).time, (gt (ar l1 br) (n2 - 1)).who⟩ : Stamp) (⟨(gt (ar l1 br) n2).time, (gt (ar l1 br) n2).who⟩ : Stamp)) rfl rfl Bt rfl Bt rfl rfl) ?_;refine Ra 12 rfl Xv ?_;refine Re0 ?_;have hf := Ri hf2.symm;rw [aK hlt1, eZ] at hf;refine Ch hf (fun hc5 hf => ?_) fun hc5 hf => ?_
    ·refine Tx ?_;refine Fc EStep ?_;refine Fc EPlace ?_;refine Rx ?_; exact Rr ⟨Z0, Z0⟩
    ·refine Ck (rU x3 p1 (gt (ar l1 br) n2)) fun x4 => ?_;refine Pr EPlace x4 (f5 p1 (gt (ar l1 br) n2)).1 24 fun hlen3 => ?_;refine AlT fun g5 => ?_;refine AlT fun g6 => ?_;refine Cn hf (fun hc6 hc6p hf => ?_) fun hc6 hc6p hf => ?_
     ·refine Tx ?_;refine Fc EStep ?_;refine Fc EPlace ?_;refine Rx ?_; exact Rr ⟨Z0, Z0⟩
     ·refine Rg [(5,some x2b.toList),(7,some [g3]),(9,some [g3])] ?_;refine Rq (Fa 0 [1,2,3,4,5]) Sa XA ?_;refine Dx [1,2,3] ?_;refine Rq (Fa 6 [4,5]) Sa Xv ?_;refine Rn 4 ?_;refine Bl EStep [(f5 p1 (gt (ar l1 br) n2)).2.1] fun x5 x5b => ?_;refine Rn 5 ?_;refine Ap EStep 88 l2 [(f5 p1 (gt (ar l1 br) n2)).2.1] x2b fun x6 x6b => ?_;refine Rn 7 ?_;refine Wp ?_;refine Ra 8 rfl Qp ?_;refine Rn 9 ?_;refine W1 ?_;refine Re0 ?_;refine Tt ?_;refine ⟨⟨(n2 + 1), (l2 ++ [(f5 p1 (gt (ar l1 br) n2)).2.1]), x6, x6b, (f5 p1 (gt (ar l1 br) n2)).1, x4⟩, ⟨hlt1, Zl, Zl, hf.symm⟩, Oo, Le4⟩
   ·refine Tx ?_;refine Fz x2 ?_;have hf := Ri hf2.symm;rw [Dl hge1, eZ] at hf;refine Rx ?_; exact Rr ⟨x2, x3⟩
def fv  : List Step → (List Op) → (List Op)
 | [], l1 => l1
 | pn1 :: rn1, l1 => (fv rn1 (l1 ++ [pn1.o]))
def eM (h1 : History) : List Op :=
 (fv h1.l [])
theorem ss (y1 : SlV) (y2 : SlV) (h1 : History) : Dw 250 [.agg ⟨cH y1 y2 h1⟩] [RdL EStep y1 h1.l, RdL EPlace y2 h1.t] (fun (X : SlV) => X.val (eM h1).length) (fun X => [RdL EOp X (eM h1)]) := by
 refine Dp Tryz.func250 fun C => ?_;refine Qc y1 88 fun hlen1 => ?_;refine Qc y2 24 fun hlen2 => ?_;refine BxT fun g1 => ?_;refine Lq (List Op × SlV × Option Nat × Nat) [2,7,8] [true] (fun ⟨l1, x1, x1b, n1⟩ => ⟨[(3, .v (x1.val l1.length)), (9, .v (.int .i64 (n1 : Int)))], [], [ownL EOp 76 x1 x1b l1], [], (n1 ≤ h1.l.length) ∧ (l1.length ≤ n1) ∧ (fv (h1.l.drop n1) l1) = (eM h1), h1.l.length - n1⟩) ⟨[], ⟨none, 0⟩, none, 0⟩ ⟨N0, Nz, (by simp only [eM, Cf, D0])⟩ ?_ (hs := Le.trans (eI EOp 76) Le4);rintro ⟨l1, x1, x1b, n1⟩ ⟨hkn1, hl1, hf1⟩;simp only [Lc];refine Cu (fun hlt0 => ?_) fun hge0 => ?_
 ·refine Sy Tz (Xi n1) ?_;refine Sq Xa ?_;refine AlT fun g2 => ?_;refine Bl EOp [(gt h1.l n1).o] fun x2 x2b => ?_;refine Ap EOp 56 l1 [(gt h1.l n1).o] x1b fun x3 x3b => ?_;refine Tt ?_;refine ⟨⟨(l1 ++ [(gt h1.l n1).o]), x3, x3b, (n1 + 1)⟩, ⟨hlt0, Zl, (by rw [← hf1, aK hlt0]; simp only [fv, Cf, D0])⟩, Oo, Le4⟩
 ·refine Tx ?_;refine Fz x1 ?_;have hf := Ri hf1.symm;rw [Dl hge0, fv] at hf;refine Rx ?_; exact Rr x1
def gj (a1 : History) (b1 : History) : Bool :=
 ((decide (a1.l = b1.l)) && (decide (a1.t = b1.t)))
theorem mU (y1 : SlV) (y2 : SlV) (a1 : History) (y3 : SlV) (y4 : SlV) (b1 : History) : Du 110 [.agg ⟨cH y1 y2 a1⟩, .agg ⟨cH y3 y4 b1⟩] [RdL EStep y1 a1.l, RdL EPlace y2 a1.t, RdL EStep y3 b1.l, RdL EPlace y4 b1.t] (.bool (gj a1 b1)) := by
 refine Dp Tryz.func110 fun C => ?_;refine Qc y1 88 fun hlen1 => ?_;refine Qc y2 24 fun hlen2 => ?_;refine Qc y3 88 fun hlen3 => ?_;refine Qc y4 24 fun hlen4 => ?_;refine BxT fun g1 => ?_;refine BxT fun g2 => ?_;refine Ck ((fun y1 a y2 b => j5 y1 y2 a b) y1 a1.l y3 b1.l) fun _ => ?_;refine Cy (fun hG_ => (fun y1 a y2 b => cf y1 y2 a b) y2 a1.t y4 b1.t) ?_;have hf := Ri (gj.eq_1 a1 b1);exact Ru
def bz (h1 : History) : Int :=
 (bif (((bW (eM h1)).2 == 0) && (!(gj (bW (eM h1)).1 h1))) then 4 else (bW (eM h1)).2)
theorem qQ (y1 : SlV) (y2 : SlV) (h1 : History) : Du 231 [.agg ⟨cH y1 y2 h1⟩] [RdL EStep y1 h1.l, RdL EPlace y2 h1.t] (.int .i64 (bz h1)) := by
 refine Dp Tryz.func231 fun C => ?_;refine Qc y1 88 fun hlen1 => ?_;refine Qc y2 24 fun hlen2 => ?_;refine BxT fun g1 => ?_;refine Ck (ss y1 y2 h1) fun x1 => ?_;refine Qr x1 56 fun hlen3 => ?_;refine Ck (rq x1 (eM h1)) fun x2 => ?_;refine Qr x2.1 88 fun hlen4 => ?_;refine Qr x2.2 24 fun hlen5 => ?_;refine AlT fun g2 => ?_;refine Cy (fun hG_ => mU x2.1 x2.2 (bW (eM h1)).1 y1 y2 h1) ?_;have hf := Ri (bz.eq_1 h1);refine Kh hf fun hc1 hf => ?_;exact Ru
def l7 (h1 : History) : History :=
 (⟨h1.l, (lu h1.t)⟩ : History)
theorem mV (y1 : SlV) (y2 : SlV) (h1 : History) : Dv 128 [.agg ⟨cH y1 y2 h1⟩] [RdL EStep y1 h1.l, RdL EPlace y2 h1.t] ⟨[], []⟩ (fun (X : SlV × Option Nat × SlV) => .agg ⟨cH X.1 X.2.2 (l7 h1)⟩) (fun X => [RdL EPlace X.2.2 (l7 h1).t]) (fun X => ⟨[], [ownL EStep 157 X.1 X.2.1 (l7 h1).l]⟩) := by
 refine Dq Tryz.func128 fun C => ?_;refine Qc y1 88 fun hlen1 => ?_;refine Qc y2 24 fun hlen2 => ?_;refine BxT fun g1 => ?_;refine AlT fun g2 => ?_;refine eF ?_;refine Rg [(7,some [g2])] ?_;refine Dx [0,1,3,4] ?_;refine Rn 2 ?_;refine Cm (og y1 h1.l) fun x1 => ?_;refine Rn 5 ?_;refine Cm (mj y2 h1.t) fun x2 => ?_;refine Ra 6 rfl Qp ?_;refine Rn 7 ?_;refine Wa ?_;refine Re0 ?_;(repeat refine er ?_);refine Fz x2.1 ?_;have hf := Ri (l7.eq_1 h1);refine Rx ?_; exact Rr ⟨x1.1, x1.2, x2.1⟩
def dQ (f1 : Step → Bool) : List Step → Nat → Int
 | [], n1 => (-1)
 | pn1 :: rn1, n1 => (bif (f1 pn1) then (n1 : Int) else (dQ f1 rn1 (n1 + 1)))
def gR (s1 : List Step) (f1 : Step → Bool) : Int :=
 (dQ f1 s1 0)
theorem lR (y1 : SlV) (s1 : List Step) (f2 : Nat) (caps1 : List Value) (pre1 : List Pred) [StabL pre1] (f1 : Step → Bool) (hfb1 : tab.fnb f2 = true) (hfn1 : ∀ (a0_ : Step), Du f2 ([.agg ⟨cS a0_⟩] ++ caps1) pre1 (.bool (f1 a0_))) : Du 238 [y1.val s1.length, .func (.func f2) #[] ⟨caps1⟩] (RdL EStep y1 s1 :: pre1) (.int .i64 (gR s1 f1)) := by
 refine Dp Tryz.func238 fun C => ?_;refine e8 (φ := s1.length * 88 ≤ 140737488355328) [RdL EStep y1 s1] Sf (fun M w h => (allF1 h).len) fun hlen1 => ?_;refine Lq Nat [0,1,4,7] [] (fun n1 => ⟨[(8, .v (.int .i64 (n1 : Int)))], [], [], [], (n1 ≤ s1.length) ∧ (dQ f1 (s1.drop n1) n1) = (gR s1 f1), s1.length - n1⟩) 0 ⟨N0, (by simp only [gR, Cf, D0])⟩ ?_;rintro n1 ⟨hkn1, hf1⟩;simp only [Lc];refine Cu (fun hlt0 => ?_) fun hge0 => ?_
 ·refine Sy Tz (Xi n1) ?_;refine Sq Xa ?_;refine Cv (hfn1 (gt s1 n1)) (hf := by assumption) fun _ => ?_;refine eF ?_;have hf := Ri hf1.symm;rw [aK hlt0, dQ] at hf;refine Ch hf (fun hc2 hf => ?_) fun hc2 hf => ?_
  ·refine Tx ?_;refine f4 ?_;rw [hf.to];exact ⟨(), _, (.cons (.tmp rfl) .nil), rfl, Sf, .nil _, .nil _⟩
  ·refine Tt ?_;refine ⟨(n1 + 1), ⟨hlt0, hf.symm⟩, Oo, Le5⟩
 ·refine Tx ?_;have hf := Ri hf1.symm;rw [Dl hge0, dQ] at hf;refine f4 ?_;rw [hf.to];exact ⟨(), _, (.cons (.tmp rfl) .nil), rfl, Sf, .nil _, .nil _⟩
def ip (s1 : List Step) (f1 : Step → Bool) : Bool :=
 decide ((gR s1 f1) ≥ 0)
theorem kT (y1 : SlV) (s1 : List Step) (f2 : Nat) (caps1 : List Value) (pre1 : List Pred) [StabL pre1] (f1 : Step → Bool) (hfb1 : tab.fnb f2 = true) (hfn1 : ∀ (a0_ : Step), Du f2 ([.agg ⟨cS a0_⟩] ++ caps1) pre1 (.bool (f1 a0_))) : Du 213 [y1.val s1.length, .func (.func f2) #[] ⟨caps1⟩] (RdL EStep y1 s1 :: pre1) (.bool (ip s1 f1)) := by
 refine Dp Tryz.func213 fun C => ?_;refine e8 (φ := s1.length * 88 ≤ 140737488355328) [RdL EStep y1 s1] Sf (fun M w h => (allF1 h).len) fun hlen1 => ?_;refine Ck (lR y1 s1 _ _ _ f1 (by assumption) hfn1) fun _ => ?_;refine Tx ?_;have hf := Ri (ip.eq_1 s1 f1);refine f4 ?_;rw [hf.to];exact ⟨(), _, (.cons (.tmp rfl) .nil), rfl, Sf, .nil _, .nil _⟩
theorem lx (s : List Step) (f : Step → Bool) : ip s f = s.any f := by
 have key : ∀ (l : List Step) (k : Nat), decide (dQ f l k ≥ 0) = l.any f := by
  intro l;induction l with
  | nil => intro k; rfl
  | cons p r ih =>
   intro k;rw [dQ, List.any_cons];cases f p with
   | true => simp only [cond_true, Bool.true_or, decide_eq_true_eq]; omega
   | false => rw [cond_false, ih, Bool.false_or]
 exact key s 0
theorem kG (y1 : SlV) (s1 : List Step) (f1 : Nat) (caps1 : List Value) (pre1 : List Pred) [StabL pre1] (p1 : Step → Bool) (hfb1 : tab.fnb f1 = true) (hfn1 : ∀ (a0_ : Step), Du f1 ([.agg ⟨cS a0_⟩] ++ caps1) pre1 (.bool (p1 a0_))) :
  Du 213 [y1.val s1.length, .func (.func f1) #[] ⟨caps1⟩] (RdL EStep y1 s1 :: pre1) (.bool (s1.any p1)) := by
 have := kT y1 s1 f1 caps1 pre1 p1 hfb1 hfn1;rw [lx] at this;exact this
def jk (s1 : Step) (o1 : Op) : Bool :=
 decide ((⟨s1.o.time, s1.o.who⟩ : Stamp) = (⟨o1.time, o1.who⟩ : Stamp))
theorem qP (s1 : Step) (c1 : Nat) (o1 : Op) : Du 214 [.agg ⟨cS s1⟩, .pointer (some ⟨c1, 0, none⟩)] [VarP c1 (cO o1)] (.bool (jk s1 o1)) := by
 refine Dp Tryz.func214 fun C => ?_;refine BxT fun g1 => ?_;refine Sy Tz (q_eqE tB (oW (⟨s1.o.time, s1.o.who⟩ : Stamp) (⟨o1.time, o1.who⟩ : Stamp)) rfl rfl Zf rfl Zf rfl rfl) ?_;have hf := Ri (jk.eq_1 s1 o1);exact Ru
def ig  : List Op → (List Step) → (List Place) → (History × Int)
 | [], l2, p2 => ((⟨l2, p2⟩ : History), 0)
 | pn2 :: rn2, l2, p2 => (bif ((f5 p2 pn2).2.2 != 0) then ((⟨[], []⟩ : History), (f5 p2 pn2).2.2) else (ig rn2 (l2 ++ [(f5 p2 pn2).2.1]) (f5 p2 pn2).1))
def fT (o1 : Op) : Nat → (List Op) → Int → (List Step) → (List Place) → (History × Int)
 | 0, later1, n1, l1, p1 => default
 | f_k0 + 1, later1, n1, l1, p1 => (bif (decide (n1 > 0) && (jL (⟨o1.time, o1.who⟩ : Stamp) (⟨(gt l1 (n1 - 1).toNat).o.time, (gt l1 (n1 - 1).toNat).o.who⟩ : Stamp))) then (bif ((ee p1 (gt l1 (n1 - 1).toNat)).2 != 0) then ((⟨[], []⟩ : History), (ee p1 (gt l1 (n1 - 1).toNat)).2) else (fT o1 f_k0 (later1 ++ [(gt l1 (n1 - 1).toNat).o]) (n1 - 1) (l1.take (n1 - 1).toNat) (ee p1 (gt l1 (n1 - 1).toNat)).1)) else (ig (bA later1 1) l1 p1))
def cv (h1 : History) (o1 : Op) : History × Int :=
 (bif ((dv o1) != 0) then ((⟨[], []⟩ : History), (dv o1)) else (bif (h1.l.any (fun a0_ => jk a0_ o1)) then ((⟨[], []⟩ : History), 6) else (bif ((h1.l.length : Int) == 30) then ((⟨[], []⟩ : History), 2) else (fT o1 (h1.l.length + 1) [o1] (h1.l.length : Int) h1.l h1.t))))
theorem nS (y1 : SlV) (y2 : SlV) (h1 : History) (o1 : Op) (hl : h1.l.length ≤ 1000) : Dw 193 [.agg ⟨cH y1 y2 h1⟩, .agg ⟨cO o1⟩] [RdL EStep y1 h1.l, RdL EPlace y2 h1.t] (fun (X : SlV × SlV) => .tuple #[.agg ⟨cH X.1 X.2 (cv h1 o1).1⟩, .int .i64 (cv h1 o1).2]) (fun X => [RdL EStep X.1 (cv h1 o1).1.l, RdL EPlace X.2 (cv h1 o1).1.t]) := by
 refine Dp Tryz.func193 fun C => ?_;refine Qc y1 88 fun hlen1 => ?_;refine Qc y2 24 fun hlen2 => ?_;refine BxT fun g1 => ?_;refine BxT fun g2 => ?_;refine AlT fun g3 => ?_;refine Ck (fW o1) fun _ => ?_;have hf := Ri (cv.eq_1 h1 o1);refine Cn hf (fun hc1 hc1p hf => ?_) fun hc1 hc1p hf => ?_
 ·refine Tx ?_;refine Fc EStep ?_;refine Fc EPlace ?_;refine Rx ?_; exact Rr ⟨Z0, Z0⟩
 ·refine Tx ?_;refine rw_le (rY (g := g2) Pk) ?_;refine Ck (kG y1 h1.l _ _ _ (fun a0_ => jk a0_ o1) Kr (fun a0_ => qP a0_ g2 o1)) fun _ => ?_;refine eF ?_;refine Ch hf (fun hc2 hf => ?_) fun hc2 hf => ?_
  ·refine Tx ?_;refine Fc EStep ?_;refine Fc EPlace ?_;refine Rx ?_; exact Rr ⟨Z0, Z0⟩
  ·refine Ce hf (fun hc3 hc3p hf => ?_) fun hc3 hc3p hf => ?_
   ·refine Tx ?_;refine Fc EStep ?_;refine Fc EPlace ?_;refine Rx ?_; exact Rr ⟨Z0, Z0⟩
   ·refine Cm (mV y1 y2 h1) fun x1 => ?_;refine Qr x1.2.2 24 fun hlen3 => ?_;refine Bl EOp [o1] fun x2 x2b => ?_;refine Lq (List Op × SlV × Option Nat × Int × List Step × List Place × SlV × Nat) [2,3,4,5] [true, false] (fun ⟨later1, x3, x3b, n1, l1, p1, x5, fz1⟩ => ⟨[(7, .v (x3.val later1.length)), (8, .v (.int .i64 n1))], [⟨g1, 27, [x1.1.val l1.length, x5.val p1.length]⟩], [ownL EOp 76 x3 x3b later1, ownL EStep 157 x1.1 x1.2.1 l1], [RdL EPlace x5 p1], (n1 = (l1.length : Int) ∧ 1 ≤ later1.length ∧ later1.length + l1.length = h1.l.length + 1) ∧ (n1.toNat < fz1) ∧ (fT o1 fz1 later1 n1 l1 p1) = (cv h1 o1), fz1⟩) ⟨[o1], x2, x2b, (h1.l.length : Int), h1.l, h1.t, x1.2.2, h1.l.length + 1⟩ ⟨⟨rfl, Nr, by simp only [List.length_cons, List.length_nil]; omega⟩, Nz, hf.symm⟩ ?_;rintro ⟨later1, x3, x3b, n1, l1, p1, x5, fz1⟩ ⟨hi, hzfz1, hf1⟩;simp only [Lc];have hlt0_ : (fz1 - 1) + 1 = fz1 := by omega
    refine Rg [] ?_;refine Dx [0,1,2,3] ?_;refine Gb 4 rfl Gz (q_lfP rfl rfl Bt rfl Mm rfl) ?_;refine Dx [5,6,7,8] ?_;refine rN EStep (e := 157) (X := x1.1) (b := x1.2.1) (l := l1) Mm (.ab (i := 9) (js := []) [10, 11, 12, 13, 14] rfl Kr Kr Kr Kr Kr) (ce rfl rfl rfl) rfl rfl (q_idx EStep (n1 - 1).toNat rfl rfl Bt rfl Bt rfl rfl rfl (.head _) rfl (by intro h; first | omega | rfl | (simp at h; omega)) (by first | (intro _; first | assumption | omega | (simp only [List.length_set]; omega)) | (intro h; simp at h; omega))) ?_;refine Dx [10,11] ?_;refine rN EStep (e := 157) (X := x1.1) (b := x1.2.1) (l := l1) Mm (.ab (i := 12) (js := []) [13, 14] rfl Kr Kr Kr Kr Kr) (ce rfl rfl rfl) rfl rfl (q_leP EStep rfl rfl Bt rfl rfl (.head _) (by first | (intro _; first | assumption | omega | (simp only [List.length_set]; omega)) | (intro h; simp at h; omega)) rfl) ?_;refine Rn 13 ?_;refine Cy (fun hG_ => kV (⟨o1.time, o1.who⟩ : Stamp) (⟨(gt l1 (n1 - 1).toNat).o.time, (gt l1 (n1 - 1).toNat).o.who⟩ : Stamp)) ?_;refine Ra 14 rfl Xv ?_;refine Re0 ?_;have hf := Ri hf1.symm;rw [← hlt0_, fT] at hf;refine Ch hf (fun hc4 hf => ?_) fun hc4 hf => ?_
    ·have hn0 := of_decide_eq_true (Bool.and_eq_true_iff.1 hc4).1;refine Tx ?_;refine Jn (Nat × SlV) [2, 3, 4, 5, 7, 8, 39, 40, 41, 53] [true, true] (fun ⟨g4, x6⟩ => ⟨[(9, .v (.pointer (some ⟨g4, 0, none⟩))), (10, .v (.int .i64 (ee p1 (gt l1 (n1 - 1).toNat)).2)), (56, .v (.tuple #[.agg ⟨[x6.val (ee p1 (gt l1 (n1 - 1).toNat)).1.length]⟩, .int .i64 (ee p1 (gt l1 (n1 - 1).toNat)).2])), (57, .v (.pointer (some ⟨g1, 1, none⟩))), (58, .v (.agg ⟨[x5.val p1.length]⟩)), (59, .v (.pointer (some ⟨g1, 0, none⟩))), (60, .v (x1.1.val l1.length)), (61, .v (.int .i64 n1)), (62, .v (.int .i64 (n1 - 1))), (64, .v (.agg ⟨cS (gt l1 (n1 - 1).toNat)⟩)), (65, .v (.tuple #[.agg ⟨[x6.val (ee p1 (gt l1 (n1 - 1).toNat)).1.length]⟩, .int .i64 (ee p1 (gt l1 (n1 - 1).toNat)).2])), (66, .v (.agg ⟨[x6.val (ee p1 (gt l1 (n1 - 1).toNat)).1.length]⟩)), (67, .v (.int .i64 (ee p1 (gt l1 (n1 - 1).toNat)).2))], [⟨g4, 25, [x6.val (ee p1 (gt l1 (n1 - 1).toNat)).1.length]⟩], [ownL EOp 76 x3 x3b later1, ownL EStep 157 x1.1 x1.2.1 l1], [RdL EPlace x6 (ee p1 (gt l1 (n1 - 1).toNat)).1, RdL EPlace x5 p1], True, 0⟩) ?_ ?_
     ·refine Rg [(13,none)] ?_;refine Dx (.range 6) ?_;refine Oq EStep x1.1 l1 (Fb 6 [12]) (Xi (n1 - 1).toNat) ?_;refine Oq EStep x1.1 l1 (Fb 7 [12]) Xa ?_;refine Rw 8 12 ?_ ?_
      ·refine Ck (pQ x5 p1 (gt l1 (n1 - 1).toNat)) fun x7 => ?_;refine Pr EPlace x7 (ee p1 (gt l1 (n1 - 1).toNat)).1 24 fun hlen4 => ?_;refine Dx [9,10] ?_;refine Rp' (Fa 11 [12,13]) ?_;refine Rn 12 ?_;refine AlT fun g5 => ?_;refine Rn 13 ?_;refine Wa ?_;refine Ra 14 rfl Qp ?_;refine Re0 ?_;refine ⟨⟨g5, x7⟩, trivial, Le4⟩
      ·refine AlT fun g6 => ?_;refine Rn 8 ?_;refine Ck (pQ x5 p1 (gt l1 (n1 - 1).toNat)) fun x8 => ?_;refine Pr EPlace x8 (ee p1 (gt l1 (n1 - 1).toNat)).1 24 fun hlen5 => ?_;refine Dx [9,10] ?_;refine Rp' (Fa 11 [13]) ?_;refine Rn 13 ?_;refine Wa ?_;refine Ra 14 rfl Qp ?_;refine Re0 ?_;refine ⟨⟨g6, x8⟩, trivial, Le4⟩
     ·rintro ⟨g4, x6⟩ -;simp only [Lc];refine Cn hf (fun hc5 hc5p hf => ?_) fun hc5 hc5p hf => ?_
      ·refine Tx ?_;refine Fc EStep ?_;refine Fc EPlace ?_;refine Rx ?_; exact Rr ⟨Z0, Z0⟩
      ·refine Tx ?_;refine Sq Xm ?_;refine Oq EStep x1.1 l1 .sq (Xi (n1 - 1).toNat) ?_;refine Sq Xf ?_;refine Oq EStep x1.1 l1 .sq (q_leP EStep rfl rfl Zf rfl rfl (.head _) Za rfl) ?_;refine Bl EOp [(gt l1 (n1 - 1).toNat).o] fun x9 x9b => ?_;refine Ap EOp 56 later1 [(gt l1 (n1 - 1).toNat).o] x3b fun x10 x10b => ?_;refine Rg [(7,some [g1]),(9,some [g1])] ?_;refine Dx [0,1,2] ?_;refine Rq (Fb 3 [6,7]) (.keep (.drop Sa)) Xv ?_;refine Rq (Fa 4 [6,7]) (.keep (.drop Sa)) Xm ?_;refine Ra 6 rfl Qp ?_;refine Rw 5 7 ?_ ?_
       ·refine vZ EStep l1 (n1 - 1).toNat (e := 157) (X := x1.1) (ob := x1.2.1) (.an rfl rfl) (au rfl) rfl rfl rfl rfl rfl rfl rfl rfl rfl Uo (by omega) (by first | omega | (simp only [List.length_set]; omega)) ?_;refine Rn 7 ?_;refine Wp ?_;refine Ra 8 rfl Qp ?_;refine Rn 9 ?_;refine W1 ?_;refine Re0 ?_;refine Tt ?_;refine ⟨⟨(later1 ++ [(gt l1 (n1 - 1).toNat).o]), x10, x10b, (n1 - 1), (l1.take (n1 - 1).toNat), (ee p1 (gt l1 (n1 - 1).toNat)).1, x6, (fz1 - 1)⟩, ⟨(by (try simp only [Ln, List.length_take]); omega), (by (try simp only []); first | omega | (simp only [Ln]; omega)), (hf : (cv h1 o1) = (fT o1 (fz1 - 1) (later1 ++ [(gt l1 (n1 - 1).toNat).o]) (n1 - 1) (l1.take (n1 - 1).toNat) (ee p1 (gt l1 (n1 - 1).toNat)).1)).symm⟩, Oo, Le4⟩
       ·refine Wp ?_;refine Rn 5 ?_;refine vZ EStep l1 (n1 - 1).toNat (e := 157) (X := x1.1) (ob := x1.2.1) (.an rfl rfl) (au rfl) rfl rfl rfl rfl rfl rfl rfl rfl rfl Uo (by omega) (by first | omega | (simp only [List.length_set]; omega)) ?_;refine Ra 8 rfl Qp ?_;refine Rn 9 ?_;refine W1 ?_;refine Re0 ?_;refine Tt ?_;refine ⟨⟨(later1 ++ [(gt l1 (n1 - 1).toNat).o]), x10, x10b, (n1 - 1), (l1.take (n1 - 1).toNat), (ee p1 (gt l1 (n1 - 1).toNat)).1, x6, (fz1 - 1)⟩, ⟨(by (try simp only [Ln, List.length_take]); omega), (by (try simp only []); first | omega | (simp only [Ln]; omega)), (hf : (cv h1 o1) = (fT o1 (fz1 - 1) (later1 ++ [(gt l1 (n1 - 1).toNat).o]) (n1 - 1) (l1.take (n1 - 1).toNat) (ee p1 (gt l1 (n1 - 1).toNat)).1)).symm⟩, Oo, Le4⟩
    ·refine Sy Tz (rS EOp 1 (l := later1) (X := x3) rfl rfl Zf rfl Zf rfl rfl (fun _ => by first | omega | (simp only [List.length_set]; omega)) (fun _ => by first | omega | (simp only [List.length_set]; omega))) ?_;refine Cm (m8 x3 x3b later1 1 (by omega)) fun _ => ?_;have hv1l : later1.length = (bA later1 1).length := (Bj later1 1 (by omega)).symm;have hv1 : x3.val later1.length = x3.val (bA later1 1).length := congrArg (SlV.val x3) hv1l;try rw [hv1]
     have hv2 : (⟨slA x3.a x3.c 1 EOp.esz, x3.c - 1⟩ : SlV).val (later1.drop 1).length = (⟨slA x3.a x3.c 1 EOp.esz, x3.c - 1⟩ : SlV).val ((bA later1 1).drop 1).length := by congr 1; simp only [List.length_drop, List.length_set] <;> omega
     try rw [hv2]
     refine Tx ?_;refine Fz x3 ?_;refine Qc x3 56 fun hlen6 => ?_;refine Lq (Nat × List Step × SlV × Option Nat × List Place × SlV) [2,4,5,93,94] [false, true] (fun ⟨n2, l2, x11, x11b, p2, x12⟩ => ⟨[(95, .v (.int .i64 (n2 : Int)))], [⟨g1, 27, [x11.val l2.length, x12.val p2.length]⟩], [ownL EStep 157 x11 x11b l2], [RdL EPlace x12 p2], (n2 ≤ (bA later1 1).length) ∧ (l2.length ≤ n2 + l1.length) ∧ (ig ((bA later1 1).drop n2) l2 p2) = (cv h1 o1), (bA later1 1).length - n2⟩) ⟨0, l1, x1.1, x1.2.1, p1, x5⟩ ⟨N0, Nz, hf.symm⟩ ?_;rintro ⟨n2, l2, x11, x11b, p2, x12⟩ ⟨hkn2, hl2, hf2⟩;simp only [Lc];refine Cu (fun hlt1 => ?_) fun hge1 => ?_
     ·refine Sy Tz (Xi n2) ?_;refine Sq Xa ?_;refine AlT fun g7 => ?_;refine Ck (rU x12 p2 (gt (bA later1 1) n2)) fun x13 => ?_;refine Pr EPlace x13 (f5 p2 (gt (bA later1 1) n2)).1 24 fun hlen7 => ?_;refine AlT fun g8 => ?_;refine AlT fun g9 => ?_;have hf := Ri hf2.symm;rw [aK hlt1, ig] at hf;refine Cn hf (fun hc7 hc7p hf => ?_) fun hc7 hc7p hf => ?_
      ·refine Tx ?_;refine Fc EStep ?_;refine Fc EPlace ?_;refine Rx ?_; exact Rr ⟨Z0, Z0⟩
      ·refine Rg [(5,some x11b.toList),(7,some [g1]),(9,some [g1])] ?_;refine Rq (Fa 0 [1,2,3,4,5]) Sa XA ?_;refine Dx [1,2,3] ?_;refine Rq (Fa 6 [4,5]) Sa Xv ?_;refine Rn 4 ?_;refine Bl EStep [(f5 p2 (gt (bA later1 1) n2)).2.1] fun x14 x14b => ?_;refine Rn 5 ?_;refine Ap EStep 88 l2 [(f5 p2 (gt (bA later1 1) n2)).2.1] x11b fun x15 x15b => ?_;refine Rn 7 ?_;refine Wp ?_;refine Ra 8 rfl Qp ?_;refine Rn 9 ?_;refine W1 ?_;refine Re0 ?_;refine Tt ?_;refine ⟨⟨(n2 + 1), (l2 ++ [(f5 p2 (gt (bA later1 1) n2)).2.1]), x15, x15b, (f5 p2 (gt (bA later1 1) n2)).1, x13⟩, ⟨hlt1, Zl, hf.symm⟩, Oo, Le4⟩
     ·refine Tx ?_;refine Fz x11 ?_;have hf := Ri hf2.symm;rw [Dl hge1, ig] at hf;refine Rx ?_; exact Rr ⟨x11, x12⟩
theorem ky (h : History) : eM h = h.l.map (·.o) := by
 have key : ∀ (l : List Step) (acc : List Op), fv l acc = acc ++ l.map (·.o) := by
  intro l;induction l with
  | nil => intro acc; simp [fv]
  | cons p r ih => intro acc; rw [fv, ih]; simp
 unfold eM;rw [key]; simp
theorem su {l : List Op} (h : (bW l).2 = 0) : l.length ≤ 30 := by
 unfold bW at h;cases hc : decide ((l.length : Int) > 30) with
 | true => rw [hc, cond_true] at h; cases h
 | false => have := of_decide_eq_false hc; omega
variable {h : History}
theorem l8 (hc : bz h = 0) : (bW (eM h)).2 = 0 ∧ gj (bW (eM h)).1 h = true := by
 unfold bz at hc;cases h1 : ((bW (eM h)).2 == 0 && !gj (bW (eM h)).1 h) with
 | true => rw [h1, cond_true] at hc; cases hc
 | false =>
  rw [h1, cond_false] at hc;rw [hc] at h1;exact ⟨hc, by simpa using h1⟩
theorem mW (hc : bz h = 0) : h.l.length ≤ 30 := by
 have := su (l8 hc).1;rw [ky, List.length_map] at this;exact this
end Go.Proofs.YtkjccbdeaflekaaGreatDoor
