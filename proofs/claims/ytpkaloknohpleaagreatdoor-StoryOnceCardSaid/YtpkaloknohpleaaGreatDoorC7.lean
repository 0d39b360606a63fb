/- Part of this claim. No condition. -/
import Derived.Test.YtpkaloknohpleaaGreatDoorC4
import Derived.Test.YtpkaloknohpleaaGreatDoorC5
set_option linter.unusedVariables false
set_option linter.unusedSimpArgs false
set_option maxHeartbeats 2000000
namespace Go.Proofs.YtpkaloknohpleaaGreatDoor
open Go Go.Proofs.YtpkaloknohpleaaGreatDoor.Fw Go.Proofs
attribute [local irreducible] RdL RdN VarP RW CW
def ar (a1 : Int) (cmp1 : Op → Op → Int) : Nat → (List Op) → Int → (List Op)
 | 0, data4, j1 => default
 | f_k1 + 1, data4, j1 => (bif decide (j1 > a1) then (bif (decide (j1 > a1) && decide ((cmp1 (gt data4 j1.toNat) (gt data4 (j1 - 1).toNat)) < 0)) then (ar a1 cmp1 f_k1 ((data4.set j1.toNat (gt data4 (j1 - 1).toNat)).set (j1 - 1).toNat (gt data4 j1.toNat)) (j1 - 1)) else data4) else data4)
def aR (a1 : Int) (b1 : Int) (cmp1 : Op → Op → Int) : Nat → (List Op) → Int → (List Op)
 | 0, data2, i1 => default
 | f_k0 + 1, data2, i1 => (bif decide (i1 < b1) then (aR a1 b1 cmp1 f_k0 (ar a1 cmp1 ((i1 - a1).toNat + 1) data2 i1) (i1 + 1)) else data2)
def av (data1 : List Op) (a1 : Int) (b1 : Int) (cmp1 : Op → Op → Int) : List Op :=
 (aR a1 b1 cmp1 ((b1 - (a1 + 1)).toNat + 1) data1 (a1 + 1))
theorem eu (y1 : SlV) (y1b : Option Nat) (data1 : List Op) (a1 : Int) (b1 : Int) (f1 : Nat) (caps1 : List Value) (pre1 : List Pred) [StabL pre1] (cmp1 : Op → Op → Int) (hfb1 : tab.fnb f1 = true) (hfn1 : ∀ (a0_ : Op) (a1_ : Op), Does Tryz.prog f1 ([.agg ⟨[.int .i64 a0_.time, .int .i64 a0_.who, .int .i64 a0_.node, .int .i64 a0_.parent, .int .i64 a0_.name, .int .i64 a0_.life, .int .i64 a0_.seq]⟩, .agg ⟨[.int .i64 a1_.time, .int .i64 a1_.who, .int .i64 a1_.node, .int .i64 a1_.parent, .int .i64 a1_.name, .int .i64 a1_.life, .int .i64 a1_.seq]⟩] ++ caps1) pre1 (fun (_ : Unit) => .int .i64 (cmp1 a0_ a1_)) (fun _ => [])) (hab : 0 ≤ a1 ∧ a1 ≤ b1 ∧ b1 ≤ (data1.length : Int)) : DoesG Tryz.prog 75 [y1.val data1.length, .int .i64 a1, .int .i64 b1, .func (.func f1) #[] ⟨caps1⟩] pre1 ⟨[], [ownL EOp 49 y1 y1b data1]⟩ (fun (_ : Unit) => .tuple #[]) (fun _ => []) (fun _ => ⟨[], [ownL EOp 49 y1 y1b (av data1 a1 b1 cmp1)]⟩) := by
 refine co aZ Tryz.func75 rfl Tryz.ntmps75 Tryz.results75 rfl inferInstance (fun _ => inferInstance) fun C => ?_
 refine iL EOp (e := 49) (X := y1) (b := y1b) (l := data1) Mm fun hl63y1 hleny1 => ?_
 simp only [show EOp.by_ = 56 from rfl] at hleny1
 refine Tx ?_
 refine rw_q rfl rfl rfl (q_add rfl rfl Zf rfl Zf Zo) ?_
 refine Tx ?_
 (repeat refine ao ?_); refine Lp [1,2,3] [] (fun (i_ : List Op × Int) => match i_ with | ⟨data2, i1⟩ => (⟨[(0, .v (y1.val data2.length)), (8, .v (.int .i64 i1))], [], [ownL EOp 49 y1 y1b data2], [], (a1 + 1 ≤ i1 ∧ data2.length = data1.length) ∧ (aR a1 b1 cmp1 ((b1 - i1).toNat + 1) data2 i1) = (av data1 a1 b1 cmp1), (b1 - i1).toNat + 1⟩ : Ls)) ⟨data1, (a1 + 1)⟩ (Sc (Sc (Sc Sn))) (.nil) ⟨(by first | exact Nat.le_refl _ | exact Nat.zero_le _ | omega), (by simp only [av, Bool.true_and, Bool.and_true, Cf] : (av data1 a1 b1 cmp1) = (aR a1 b1 cmp1 ((b1 - (a1 + 1)).toNat + 1) data1 (a1 + 1))).symm⟩ Le5 ?_
 rintro ⟨data2, i1⟩ ⟨hi, hf1⟩
 simp only [List.cons_append, List.nil_append]
 have hlt0_ : ((b1 - i1).toNat + 1 - 1) + 1 = (b1 - i1).toNat + 1 := by omega
 refine Tx ?_
 refine Cd (b := decide (i1 < b1)) (fun hc1 => ?_) fun hc1 => ?_
 ·have hc1p := of_decide_eq_true hc1
  (repeat refine ao ?_); refine q6 ?_
  (repeat refine ao ?_); refine pD ?_
  refine Ty ?_
  refine mf [1, 2, 3, 8, 12, 13, 14, 17] [] (fun (data3 : List Op) => [(0, .v (y1.val data3.length))]) (fun (data3 : List Op) => []) (fun (data3 : List Op) => [ownL EOp 49 y1 y1b data3]) (fun (data3 : List Op) => []) (fun (data3 : List Op) => (data3.length = data1.length) ∧ data3 = (ar a1 cmp1 ((i1 - a1).toNat + 1) data2 i1)) (.cons rfl (.cons rfl (.cons rfl (.cons rfl (.cons rfl (.cons rfl (.cons rfl (.cons rfl (.nil _))))))))) (.nil) ?_ ?_
  ·refine Tx ?_
   (repeat refine ao ?_); refine Lp [1,2,3,8,12,13,14,17] [] (fun (i_ : List Op × Int) => match i_ with | ⟨data4, j1⟩ => (⟨[(0, .v (y1.val data4.length)), (9, .v (.int .i64 j1))], [], [ownL EOp 49 y1 y1b data4], [], (a1 ≤ j1 ∧ j1 < b1 ∧ data4.length = data1.length) ∧ (ar a1 cmp1 ((j1 - a1).toNat + 1) data4 j1) = (ar a1 cmp1 ((i1 - a1).toNat + 1) data2 i1), (j1 - a1).toNat + 1⟩ : Ls)) ⟨data2, i1⟩ (Sc (Sc (Sc (Sc (Sc (Sc (Sc (Sc Sn)))))))) (.nil) ⟨(by first | exact Nat.le_refl _ | exact Nat.zero_le _ | omega), (rfl : (ar a1 cmp1 ((i1 - a1).toNat + 1) data2 i1) = (ar a1 cmp1 ((i1 - a1).toNat + 1) data2 i1)).symm⟩ Le5 ?_
   rintro ⟨data4, j1⟩ ⟨hj, hf2⟩
   simp only [List.cons_append, List.nil_append]
   have hlt1_ : ((j1 - a1).toNat + 1 - 1) + 1 = (j1 - a1).toNat + 1 := by omega
   (repeat refine ao ?_); refine au (fun _ => some []) ?_
   refine Rb 0 rfl Qp ?_
   refine Rb 1 rfl Qp ?_
   refine Rb 2 rfl Qp ?_
   refine Ra 3 rfl Qp ?_
   refine Gb 4 rfl (aG rfl rfl rfl) (q_pev rfl Bt) ?_
   refine Gb 5 rfl (aG rfl rfl rfl) (q_pev rfl Bt) ?_
   refine Gb 6 rfl (aG rfl rfl rfl) (q_pev rfl Bt) ?_
   refine nB EOp (e := 49) (X := y1) (b := y1b) (l := data4) Mm (.ab (i := 7) (js := [9, 10, 11, 12, 13]) [8, 14, 15, 16] rfl Kr Kr Kr Kr Kr) (aG rfl rfl rfl) rfl rfl (q_idx EOp j1.toNat rfl rfl Bt rfl Bt rfl rfl rfl (.head _) rfl (by intro h; first | omega | rfl | (simp at h; omega)) (by first | (intro _; first | assumption | omega | (simp only [List.length_set]; omega)) | (intro h; simp at h; omega))) ?_
   refine nB EOp (e := 49) (X := y1) (b := y1b) (l := data4) Mm (.ab (i := 8) (js := [9, 10, 11, 12, 13]) [14, 15, 16] rfl Kr Kr Kr Kr Kr) (aG rfl rfl rfl) rfl rfl (q_leA EOp rfl rfl Bt rfl rfl (.head _) (by first | (intro _; first | assumption | omega | (simp only [List.length_set]; omega)) | (intro h; simp at h; omega))) ?_
   refine Gb 9 rfl (aG rfl rfl rfl) (q_pev rfl Bt) ?_
   refine Gb 10 rfl (aG rfl rfl rfl) (q_pev rfl Bt) ?_
   refine Gb 11 rfl (aG rfl rfl rfl) (q_sub rfl rfl Bt rfl Bt (by intro h; first | omega | (simp at h; omega))) ?_
   refine nB EOp (e := 49) (X := y1) (b := y1b) (l := data4) Mm (.ab (i := 12) (js := []) [13, 14, 15, 16] rfl Kr Kr Kr Kr Kr) (aG rfl rfl rfl) rfl rfl (q_idx EOp (j1 - 1).toNat rfl rfl Bt rfl Bt rfl rfl rfl (.head _) rfl (by intro h; first | omega | rfl | (simp at h; omega)) (by first | (intro _; first | assumption | omega | (simp only [List.length_set]; omega)) | (intro h; simp at h; omega))) ?_
   refine nB EOp (e := 49) (X := y1) (b := y1b) (l := data4) Mm (.ab (i := 13) (js := []) [14, 15, 16] rfl Kr Kr Kr Kr Kr) (aG rfl rfl rfl) rfl rfl (q_leA EOp rfl rfl Bt rfl rfl (.head _) (by first | (intro _; first | assumption | omega | (simp only [List.length_set]; omega)) | (intro h; simp at h; omega))) ?_
   refine ap 14 Kr ?_
   refine uz (.an rfl rfl) (aG rfl rfl rfl) (fun hg1 => ?_) (fun hg1 => ?_)
   ·have hg1p := of_decide_eq_true hg1
    refine gg (hfn1 (gt data4 j1.toNat) (gt data4 (j1 - 1).toNat)) (.an rfl rfl) (uH (aG rfl rfl rfl) hg1) rfl rfl rfl rfl (by first | rfl | assumption | (simp only [hc1, hg1, Bool.and_true, Bool.true_and, Bool.and_self, Bool.not_false, Bool.not_true]; done) | simp_all) (by assumption) rfl (by first | rfl | assumption | (simp only [hc1, hg1, Bool.and_true, Bool.true_and, Bool.and_self, Bool.not_false, Bool.not_true]; done) | simp_all) rfl Sf ?_
    intro _
    refine Ga 15 rfl (aG rfl rfl rfl) (q_pev rfl Bt) ?_
    refine Ra 16 rfl (q_pev rfl Bt) ?_
    refine bn Kr ?_
    (repeat refine ao ?_)
    refine Cd (b := (decide (j1 > a1) && decide ((cmp1 (gt data4 j1.toNat) (gt data4 (j1 - 1).toNat)) < 0))) (fun hc2 => ?_) fun hc2 => ?_
    ·try simp only [hg1, Bool.true_and, Bool.and_true] at hc2
     refine Tx ?_
     (repeat refine ao ?_); refine au (fun j => match j with | 15 => some y1b.toList | 17 => some y1b.toList | _ => some []) ?_
     refine Ra 0 rfl Qp ?_
     refine Ra 1 rfl Qp ?_
     refine ra_q (.an (i := 2) (js := [3, 4, 5, 6, 7, 8, 9, 10, 11, 12, 13, 14, 15]) rfl Kr Kr Kr Kr) (bK.all _) (by intro g hg; simp only [List.mem_append, List.mem_singleton, List.not_mem_nil, or_false, false_or, Option.mem_toList, Option.mem_def, List.append_nil] at hg; first | exact .inr ⟨ownL EOp 49 y1 y1b data4, Mm, hg⟩) rfl rfl rfl (q_pev rfl Zf) ?_
     refine ra_q (.an (i := 3) (js := [5, 6, 7, 8, 9, 10, 11, 12, 13, 14, 15]) rfl Kr Kr Kr Kr) (bK.all _) (by intro g hg; simp only [List.mem_append, List.mem_singleton, List.not_mem_nil, or_false, false_or, Option.mem_toList, Option.mem_def, List.append_nil] at hg; first | exact .inr ⟨ownL EOp 49 y1 y1b data4, Mm, hg⟩) rfl rfl rfl (q_pev rfl Zf) ?_
     refine ra_q (.an (i := 4) (js := [5, 6, 7, 8, 9, 10, 11, 12, 13, 14, 15]) rfl Kr Kr Kr Kr) (bK.all _) (by intro g hg; simp only [List.mem_append, List.mem_singleton, List.not_mem_nil, or_false, false_or, Option.mem_toList, Option.mem_def, List.append_nil] at hg; first | exact .inr ⟨ownL EOp 49 y1 y1b data4, Mm, hg⟩) rfl rfl rfl (q_sub rfl rfl Zf rfl Zf Zo) ?_
     refine Rb 5 rfl Qp ?_
     refine Rb 6 rfl Qp ?_
     refine Rb 7 rfl (q_sub rfl rfl Zf rfl Zf Zo) ?_
     refine rw_qO EOp (e := 49) (X := y1) (b := y1b) (l := data4) Mm (.an (i := 8) (js := [10, 11, 12, 13]) rfl Kr Kr Kr Kr) rfl rfl rfl (q_idx EOp (j1 - 1).toNat rfl rfl Zf rfl Zf rfl rfl rfl (.head _) rfl Zo Za) ?_
     refine rw_qO EOp (e := 49) (X := y1) (b := y1b) (l := data4) Mm (.an (i := 9) (js := [10, 11, 12, 13]) rfl Kr Kr Kr Kr) rfl rfl rfl (q_leA EOp rfl rfl Zf rfl rfl (.head _) Za) ?_
     refine Rb 10 rfl Qp ?_
     refine Rb 11 rfl Qp ?_
     refine rw_qO EOp (e := 49) (X := y1) (b := y1b) (l := data4) Mm (.ab (i := 12) (js := []) [13, 14, 15, 16, 17] rfl Kr Kr Kr Kr Kr) rfl rfl rfl (q_idx EOp j1.toNat rfl rfl Zf rfl Zf rfl rfl rfl (.head _) rfl Zo Za) ?_
     refine rw_qO EOp (e := 49) (X := y1) (b := y1b) (l := data4) Mm (.an (i := 13) (js := []) rfl Kr Kr Kr Kr) rfl rfl rfl (q_leA EOp rfl rfl Zf rfl rfl (.head _) Za) ?_
     refine rw_qO EOp (e := 49) (X := y1) (b := y1b) (l := data4) Mm (.an (i := 14) (js := []) rfl Kr Kr Kr Kr) rfl rfl rfl (q_idx EOp j1.toNat rfl rfl Zf rfl Zf rfl rfl rfl (.head _) rfl Zo Za) ?_
     refine ap 15 Kr ?_
     refine kh EOp data4 j1.toNat 0 (gt data4 (j1 - 1).toNat) (e := 49) (X := y1) (b := y1b) (.an rfl rfl) (.inr (fun g h => by simp [h])) (ac rfl) rfl rfl rfl rfl rfl rfl rfl rfl rfl rfl rfl Zb rfl Uo ?_
     have hv1 : y1.val data4.length = y1.val (data4.set j1.toNat (gt data4 (j1 - 1).toNat)).length := congrArg (SlV.val y1) List.length_set.symm
     try rw [hv1]
     refine rw_qO EOp (e := 49) (X := y1) (b := y1b) (l := (data4.set j1.toNat (gt data4 (j1 - 1).toNat))) Mm (.an (i := 16) (js := []) rfl Kr Kr Kr Kr) rfl rfl rfl (q_idx EOp (j1 - 1).toNat rfl rfl Zf rfl Zf rfl rfl rfl (.head _) rfl Zo Za) ?_
     refine ap 17 Kr ?_
     refine kh EOp (data4.set j1.toNat (gt data4 (j1 - 1).toNat)) (j1 - 1).toNat 0 (gt data4 j1.toNat) (e := 49) (X := y1) (b := y1b) (.an rfl rfl) (.inr (fun g h => by simp [h])) (ac rfl) rfl rfl rfl rfl rfl rfl rfl rfl rfl rfl rfl Zb rfl Uo ?_
     have hv2 : y1.val (data4.set j1.toNat (gt data4 (j1 - 1).toNat)).length = y1.val ((data4.set j1.toNat (gt data4 (j1 - 1).toNat)).set (j1 - 1).toNat (gt data4 j1.toNat)).length := congrArg (SlV.val y1) List.length_set.symm
     try rw [hv2]
     refine bn Kr ?_
     refine Tx ?_
     refine rw_q rfl rfl rfl (q_sub rfl rfl Zf rfl Zf Zo) ?_
     refine Tx ?_
     have hnx1 : ((j1 - 1) - a1).toNat + 1 = (j1 - a1).toNat + 1 - 1 := by omega
     refine ⟨⟨((data4.set j1.toNat (gt data4 (j1 - 1).toNat)).set (j1 - 1).toNat (gt data4 j1.toNat)), (j1 - 1)⟩, ⟨(by simp only [List.length_append, List.length_cons, List.length_nil, List.length_set]; omega), (by rw [hnx1]; exact (by rw [← hf2]; (conv => lhs; rw [← hlt1_]); simp only [ar, hg1, hc2, Bool.true_and, Bool.and_true, Cf] : (ar a1 cmp1 ((i1 - a1).toNat + 1) data2 i1) = (ar a1 cmp1 ((j1 - a1).toNat + 1 - 1) ((data4.set j1.toNat (gt data4 (j1 - 1).toNat)).set (j1 - 1).toNat (gt data4 j1.toNat)) (j1 - 1))).symm)⟩, (by simp only []; omega), Le5⟩
    ·try simp only [hg1, Bool.true_and, Bool.and_true] at hc2
     refine Tx ?_
     have hv3 : (ar a1 cmp1 ((i1 - a1).toNat + 1) data2 i1) = data4 := by rw [← hf2]; (conv => lhs; rw [← hlt1_]); simp only [ar, hg1, hc2, Bool.true_and, Bool.and_true, Cf]
     refine ⟨data4, ⟨(by omega), hv3.symm⟩, Le5⟩
   ·have hg1p := of_decide_eq_false hg1
    refine vD (.an rfl rfl) (aG rfl rfl rfl) hg1 rfl rfl ?_
    refine Ga 15 rfl (aG rfl rfl rfl) (q_dead (v := .bool false) hg1) ?_
    refine Ra 16 rfl (q_pev rfl Bt) ?_
    refine bn Kr ?_
    (repeat refine ao ?_)
    refine Cd (b := (decide (j1 > a1) && false)) (fun hc3 => ?_) fun hc3 => ?_
    ·exact Bool.noConfusion (hc3.symm.trans ((by simp only [hg1, Bool.and_false, Bool.false_and, Bool.or_true, Bool.true_or, Bool.or_false, Bool.false_or, Bool.and_true, Bool.true_and, Bool.not_true, Bool.not_false]) : (decide (j1 > a1) && false) = false))
    ·refine Tx ?_
     have hv4 : (ar a1 cmp1 ((i1 - a1).toNat + 1) data2 i1) = data4 := by rw [← hf2]; (conv => lhs; rw [← hlt1_]); simp only [ar, hg1, Bool.true_and, Bool.and_true, Cf]
     refine ⟨data4, ⟨(by omega), hv4.symm⟩, Le5⟩
  ·rintro data3 ⟨hjl, rfl⟩
   simp only [List.cons_append, List.nil_append]
   refine Tx ?_
   refine rw_q rfl rfl rfl (q_add rfl rfl Zf rfl Zf Zo) ?_
   refine Tx ?_
   have hnx2 : (b1 - (i1 + 1)).toNat + 1 = (b1 - i1).toNat + 1 - 1 := by omega
   refine ⟨⟨(ar a1 cmp1 ((i1 - a1).toNat + 1) data2 i1), (i1 + 1)⟩, ⟨(by simp only [List.length_append, List.length_cons, List.length_nil, List.length_set]; omega), (by rw [hnx2]; exact (by rw [← hf1]; (conv => lhs; rw [← hlt0_]); simp only [aR, hc1, Bool.true_and, Bool.and_true, Cf] : (av data1 a1 b1 cmp1) = (aR a1 b1 cmp1 ((b1 - i1).toNat + 1 - 1) (ar a1 cmp1 ((i1 - a1).toNat + 1) data2 i1) (i1 + 1))).symm)⟩, (by simp only []; omega), Le5⟩
 ·have hc1p := of_decide_eq_false hc1
  refine Tx ?_
  have hr1 : (av data1 a1 b1 cmp1) = data2 := by rw [← hf1]; (conv => lhs; rw [← hlt0_]); simp only [aR, hc1, Bool.true_and, Bool.and_true, Cf]
  rw [hr1]
  exact ⟨(), _, .nil, rfl, Sf, .nil _, Sp⟩
theorem sg (cmp : Op → Op → Int) (P : List Op) : ∀ (r : List Op) (x : Op) (s : List Op) (f : Nat), r.length < f →
  ar (P.length : Int) cmp f (P ++ (r.reverse ++ x :: s)) ((P.length + r.length : Nat) : Int) = P ++ insR (fun a b => decide (cmp a b < 0)) x r s
 | [], x, s, f + 1, _ => by
  rw [ar]
  simp [insR]
 | y :: r, x, s, f + 1, hf => by
  simp only [List.length_cons] at hf
  rw [ar]
  have h1 : decide (((P.length + (y :: r).length : Nat) : Int) > (P.length : Int)) = true := by simp; omega
  have e0 : ((P.length + (y :: r).length : Nat) : Int).toNat = (P ++ (r.reverse ++ [y])).length := by simp; omega
  have e1 : (((P.length + (y :: r).length : Nat) : Int) - 1).toNat = (P ++ r.reverse).length := by simp; omega
  have d0 : P ++ ((y :: r).reverse ++ x :: s) = (P ++ (r.reverse ++ [y])) ++ x :: s := by simp
  have d1 : (P ++ (r.reverse ++ [y])) ++ x :: s = (P ++ r.reverse) ++ y :: (x :: s) := by simp
  have g0 : gt (P ++ ((y :: r).reverse ++ x :: s)) ((P.length + (y :: r).length : Nat) : Int).toNat = x := by rw [d0]; exact jA _ _ _ _ e0
  have g1 : gt (P ++ ((y :: r).reverse ++ x :: s)) (((P.length + (y :: r).length : Nat) : Int) - 1).toNat = y := by rw [d0, d1]; exact jA _ _ _ _ e1
  rw [h1, g0, g1, cond_true, Bool.true_and, insR]
  cases hc : decide (cmp x y < 0) with
  | false => simp
  | true =>
   simp only [cond_true]
   rw [d0, iy _ _ _ _ _ e0, show (P ++ (r.reverse ++ [y])) ++ y :: s = (P ++ r.reverse) ++ y :: (y :: s) by simp, iy _ _ _ _ _ e1]
   have ih := sg cmp P r x (y :: s) f (by omega)
   rw [show ((P.length + (y :: r).length : Nat) : Int) - 1 = ((P.length + r.length : Nat) : Int) by simp; omega, List.append_assoc]
   exact ih
theorem sh (cmp : Op → Op → Int) (P S : List Op) (b : Int) : ∀ (rest acc : List Op) (f : Nat), b = ((P.length + acc.length + rest.length : Nat) : Int) → rest.length < f →
  aR (P.length : Int) b cmp f (P ++ (acc ++ (rest ++ S))) ((P.length + acc.length : Nat) : Int) = P ++ (isort (fun a b => decide (cmp a b < 0)) acc rest ++ S)
 | [], acc, f + 1, hb, _ => by
  rw [aR]
  have : decide (((P.length + acc.length : Nat) : Int) < b) = false := by rw [hb]; simp
  rw [this, cond_false, isort]; simp
 | x :: rest, acc, f + 1, hb, hf => by
  simp only [List.length_cons] at hf hb
  rw [aR]
  have : decide (((P.length + acc.length : Nat) : Int) < b) = true := by rw [hb]; simp; omega
  have h1 := sg cmp P acc.reverse x (rest ++ S) ((((P.length + acc.length : Nat) : Int) - (P.length : Int)).toNat + 1) (by simp; omega)
  rw [List.reverse_reverse, List.length_reverse] at h1
  rw [this, cond_true, List.cons_append, h1, isort, uG]
  have hl : (insR (fun a b => decide (cmp a b < 0)) x acc.reverse []).length = acc.length + 1 := by rw [uF]; simp
  have ih := sh cmp P S b rest (insR (fun a b => decide (cmp a b < 0)) x acc.reverse []) f (by rw [hb, hl]; simp; omega) (by omega)
  rw [hl] at ih
  rw [show ((P.length + acc.length : Nat) : Int) + 1 = ((P.length + (acc.length + 1) : Nat) : Int) by simp; omega]
  exact ih
theorem IS_Op (cmp : Op → Op → Int) (P M S : List Op) (a b : Int) (ha : a = (P.length : Int)) (hb : b = ((P.length + M.length : Nat) : Int)) :
  av (P ++ (M ++ S)) a b cmp = P ++ (isort (fun a b => decide (cmp a b < 0)) [] M ++ S) := by
 subst ha
 unfold av
 cases M with
 | nil =>
  rw [aR]
  have : decide ((P.length : Int) + 1 < b) = false := by rw [hb]; simp; omega
  rw [this, cond_false, isort]
 | cons x r =>
  have h1 := sh cmp P S b r [x] ((b - ((P.length : Int) + 1)).toNat + 1) (by rw [hb]; simp; omega) (by rw [hb]; simp; omega)
  have e : isort (fun a b => decide (cmp a b < 0)) [] (x :: r) = isort (fun a b => decide (cmp a b < 0)) [x] r := rfl
  rw [e, ← h1]
  rfl
def br (a1 : Int) (b1 : Int) (n1 : Int) : Nat → (List Op) → Int → (List Op)
 | 0, data2, i1 => default
 | f_k0 + 1, data2, i1 => (bif decide (i1 < n1) then (br a1 b1 n1 f_k0 ((data2.set (a1 + i1).toNat (gt data2 (b1 + i1).toNat)).set (b1 + i1).toNat (gt data2 (a1 + i1).toNat)) (i1 + 1)) else data2)
def aC (data1 : List Op) (a1 : Int) (b1 : Int) (n1 : Int) (cmp1 : Op → Op → Int) : List Op :=
 (br a1 b1 n1 ((n1 - 0).toNat + 1) data1 0)
theorem dW (y1 : SlV) (y1b : Option Nat) (data1 : List Op) (a1 : Int) (b1 : Int) (n1 : Int) (f1 : Nat) (caps1 : List Value) (pre1 : List Pred) [StabL pre1] (cmp1 : Op → Op → Int) (hfb1 : tab.fnb f1 = true) (hfn1 : ∀ (a0_ : Op) (a1_ : Op), Does Tryz.prog f1 ([.agg ⟨[.int .i64 a0_.time, .int .i64 a0_.who, .int .i64 a0_.node, .int .i64 a0_.parent, .int .i64 a0_.name, .int .i64 a0_.life, .int .i64 a0_.seq]⟩, .agg ⟨[.int .i64 a1_.time, .int .i64 a1_.who, .int .i64 a1_.node, .int .i64 a1_.parent, .int .i64 a1_.name, .int .i64 a1_.life, .int .i64 a1_.seq]⟩] ++ caps1) pre1 (fun (_ : Unit) => .int .i64 (cmp1 a0_ a1_)) (fun _ => [])) (hab : 0 ≤ a1 ∧ 0 ≤ b1 ∧ 0 ≤ n1 ∧ a1 + n1 ≤ (data1.length : Int) ∧ b1 + n1 ≤ (data1.length : Int)) : DoesG Tryz.prog 124 [y1.val data1.length, .int .i64 a1, .int .i64 b1, .int .i64 n1, .func (.func f1) #[] ⟨caps1⟩] pre1 ⟨[], [ownL EOp 49 y1 y1b data1]⟩ (fun (_ : Unit) => .tuple #[]) (fun _ => []) (fun _ => ⟨[], [ownL EOp 49 y1 y1b (aC data1 a1 b1 n1 cmp1)]⟩) := by
 refine co aZ Tryz.func124 rfl Tryz.ntmps124 Tryz.results124 rfl inferInstance (fun _ => inferInstance) fun C => ?_
 refine iL EOp (e := 49) (X := y1) (b := y1b) (l := data1) Mm fun hl63y1 hleny1 => ?_
 simp only [show EOp.by_ = 56 from rfl] at hleny1
 refine Tx ?_
 (repeat refine ao ?_); refine Lp [1,2,3] [] (fun (i_ : List Op × Int) => match i_ with | ⟨data2, i1⟩ => (⟨[(0, .v (y1.val data2.length)), (10, .v (.int .i64 i1))], [], [ownL EOp 49 y1 y1b data2], [], (0 ≤ i1 ∧ i1 ≤ n1 ∧ data2.length = data1.length) ∧ (br a1 b1 n1 ((n1 - i1).toNat + 1) data2 i1) = (aC data1 a1 b1 n1 cmp1), (n1 - i1).toNat + 1⟩ : Ls)) ⟨data1, 0⟩ (Sc (Sc (Sc Sn))) (.nil) ⟨(by first | exact Nat.le_refl _ | exact Nat.zero_le _ | omega), (by simp only [aC, Bool.true_and, Bool.and_true, Cf] : (aC data1 a1 b1 n1 cmp1) = (br a1 b1 n1 ((n1 - 0).toNat + 1) data1 0)).symm⟩ Le5 ?_
 rintro ⟨data2, i1⟩ ⟨hi, hf1⟩
 simp only [List.cons_append, List.nil_append]
 have hlt0_ : ((n1 - i1).toNat + 1 - 1) + 1 = (n1 - i1).toNat + 1 := by omega
 refine Tx ?_
 refine Cd (b := decide (i1 < n1)) (fun hc1 => ?_) fun hc1 => ?_
 ·have hc1p := of_decide_eq_true hc1
  refine Tx ?_
  (repeat refine ao ?_); refine au (fun j => match j with | 21 => some y1b.toList | 23 => some y1b.toList | _ => some []) ?_
  refine Ra 0 rfl Qp ?_
  refine Ra 1 rfl Qp ?_
  refine Ra 2 rfl Qp ?_
  refine Ra 3 rfl (q_add rfl rfl Zf rfl Zf Zo) ?_
  refine ra_q (.an (i := 4) (js := [5, 6, 7, 8, 9, 10, 11, 12, 13, 14, 15, 16, 17, 18, 19, 20, 21]) rfl Kr Kr Kr Kr) (bK.all _) (by intro g hg; simp only [List.mem_append, List.mem_singleton, List.not_mem_nil, or_false, false_or, Option.mem_toList, Option.mem_def, List.append_nil] at hg; first | exact .inr ⟨ownL EOp 49 y1 y1b data2, Mm, hg⟩) rfl rfl rfl (q_pev rfl Zf) ?_
  refine ra_q (.an (i := 5) (js := [6, 8, 9, 10, 11, 12, 13, 14, 15, 16, 17, 18, 19, 20, 21]) rfl Kr Kr Kr Kr) (bK.all _) (by intro g hg; simp only [List.mem_append, List.mem_singleton, List.not_mem_nil, or_false, false_or, Option.mem_toList, Option.mem_def, List.append_nil] at hg; first | exact .inr ⟨ownL EOp 49 y1 y1b data2, Mm, hg⟩) rfl rfl rfl (q_pev rfl Zf) ?_
  refine ra_q (.an (i := 6) (js := [8, 9, 10, 11, 12, 13, 14, 15, 16, 17, 18, 19, 20, 21]) rfl Kr Kr Kr Kr) (bK.all _) (by intro g hg; simp only [List.mem_append, List.mem_singleton, List.not_mem_nil, or_false, false_or, Option.mem_toList, Option.mem_def, List.append_nil] at hg; first | exact .inr ⟨ownL EOp 49 y1 y1b data2, Mm, hg⟩) rfl rfl rfl (q_pev rfl Zf) ?_
  refine ra_q (.an (i := 7) (js := [8, 9, 10, 11, 12, 13, 14, 15, 16, 17, 18, 19, 20, 21]) rfl Kr Kr Kr Kr) (bK.all _) (by intro g hg; simp only [List.mem_append, List.mem_singleton, List.not_mem_nil, or_false, false_or, Option.mem_toList, Option.mem_def, List.append_nil] at hg; first | exact .inr ⟨ownL EOp 49 y1 y1b data2, Mm, hg⟩) rfl rfl rfl (q_add rfl rfl Zf rfl Zf Zo) ?_
  refine Rb 8 rfl Qp ?_
  refine Rb 9 rfl Qp ?_
  refine Rb 10 rfl Qp ?_
  refine Rb 11 rfl (q_add rfl rfl Zf rfl Zf Zo) ?_
  refine rw_qO EOp (e := 49) (X := y1) (b := y1b) (l := data2) Mm (.an (i := 12) (js := [14, 15, 16, 17, 18, 19]) rfl Kr Kr Kr Kr) rfl rfl rfl (q_idx EOp (b1 + i1).toNat rfl rfl Zf rfl Zf rfl rfl rfl (.head _) rfl Zo Za) ?_
  refine rw_qO EOp (e := 49) (X := y1) (b := y1b) (l := data2) Mm (.an (i := 13) (js := [14, 15, 16, 17, 18, 19]) rfl Kr Kr Kr Kr) rfl rfl rfl (q_leA EOp rfl rfl Zf rfl rfl (.head _) Za) ?_
  refine Rb 14 rfl Qp ?_
  refine Rb 15 rfl Qp ?_
  refine Rb 16 rfl Qp ?_
  refine Rb 17 rfl (q_add rfl rfl Zf rfl Zf Zo) ?_
  refine rw_qO EOp (e := 49) (X := y1) (b := y1b) (l := data2) Mm (.ab (i := 18) (js := []) [19, 20, 21, 22, 23] rfl Kr Kr Kr Kr Kr) rfl rfl rfl (q_idx EOp (a1 + i1).toNat rfl rfl Zf rfl Zf rfl rfl rfl (.head _) rfl Zo Za) ?_
  refine rw_qO EOp (e := 49) (X := y1) (b := y1b) (l := data2) Mm (.an (i := 19) (js := []) rfl Kr Kr Kr Kr) rfl rfl rfl (q_leA EOp rfl rfl Zf rfl rfl (.head _) Za) ?_
  refine rw_qO EOp (e := 49) (X := y1) (b := y1b) (l := data2) Mm (.an (i := 20) (js := []) rfl Kr Kr Kr Kr) rfl rfl rfl (q_idx EOp (a1 + i1).toNat rfl rfl Zf rfl Zf rfl rfl rfl (.head _) rfl Zo Za) ?_
  refine ap 21 Kr ?_
  refine kh EOp data2 (a1 + i1).toNat 0 (gt data2 (b1 + i1).toNat) (e := 49) (X := y1) (b := y1b) (.an rfl rfl) (.inr (fun g h => by simp [h])) (ac rfl) rfl rfl rfl rfl rfl rfl rfl rfl rfl rfl rfl Zb rfl Uo ?_
  have hv1 : y1.val data2.length = y1.val (data2.set (a1 + i1).toNat (gt data2 (b1 + i1).toNat)).length := congrArg (SlV.val y1) List.length_set.symm
  try rw [hv1]
  refine rw_qO EOp (e := 49) (X := y1) (b := y1b) (l := (data2.set (a1 + i1).toNat (gt data2 (b1 + i1).toNat))) Mm (.an (i := 22) (js := []) rfl Kr Kr Kr Kr) rfl rfl rfl (q_idx EOp (b1 + i1).toNat rfl rfl Zf rfl Zf rfl rfl rfl (.head _) rfl Zo Za) ?_
  refine ap 23 Kr ?_
  refine kh EOp (data2.set (a1 + i1).toNat (gt data2 (b1 + i1).toNat)) (b1 + i1).toNat 0 (gt data2 (a1 + i1).toNat) (e := 49) (X := y1) (b := y1b) (.an rfl rfl) (.inr (fun g h => by simp [h])) (ac rfl) rfl rfl rfl rfl rfl rfl rfl rfl rfl rfl rfl Zb rfl Uo ?_
  have hv2 : y1.val (data2.set (a1 + i1).toNat (gt data2 (b1 + i1).toNat)).length = y1.val ((data2.set (a1 + i1).toNat (gt data2 (b1 + i1).toNat)).set (b1 + i1).toNat (gt data2 (a1 + i1).toNat)).length := congrArg (SlV.val y1) List.length_set.symm
  try rw [hv2]
  refine bn Kr ?_
  refine Tx ?_
  refine rw_q rfl rfl rfl (q_add rfl rfl Zf rfl Zf Zo) ?_
  refine Tx ?_
  have hnx1 : (n1 - (i1 + 1)).toNat + 1 = (n1 - i1).toNat + 1 - 1 := by omega
  refine ⟨⟨((data2.set (a1 + i1).toNat (gt data2 (b1 + i1).toNat)).set (b1 + i1).toNat (gt data2 (a1 + i1).toNat)), (i1 + 1)⟩, ⟨(by simp only [List.length_append, List.length_cons, List.length_nil, List.length_set]; omega), (by rw [hnx1]; exact (by rw [← hf1]; (conv => lhs; rw [← hlt0_]); simp only [br, hc1, Bool.true_and, Bool.and_true, Cf] : (aC data1 a1 b1 n1 cmp1) = (br a1 b1 n1 ((n1 - i1).toNat + 1 - 1) ((data2.set (a1 + i1).toNat (gt data2 (b1 + i1).toNat)).set (b1 + i1).toNat (gt data2 (a1 + i1).toNat)) (i1 + 1))).symm)⟩, (by simp only []; omega), Le5⟩
 ·have hc1p := of_decide_eq_false hc1
  refine Tx ?_
  have hr1 : (aC data1 a1 b1 n1 cmp1) = data2 := by rw [← hf1]; (conv => lhs; rw [← hlt0_]); simp only [br, hc1, Bool.true_and, Bool.and_true, Cf]
  rw [hr1]
  exact ⟨(), _, .nil, rfl, Sf, .nil _, Sp⟩
theorem mX (a b n : Int) : ∀ (f : Nat) (data : List Op) (i : Int), (n - i).toNat < f → (br a b n f data i).length = data.length
 | 0, _, _, h => by omega
 | f + 1, data, i, h => by
  rw [br]
  cases hc : decide (i < n) with
  | true =>
   have hc := of_decide_eq_true hc
   simp only [cond_true]
   rw [mX a b n f _ _ (by omega)]; simp
  | false => rfl
theorem gN (data : List Op) (a b n : Int) (cmp : Op → Op → Int) : (aC data a b n cmp).length = data.length := mX a b n _ data 0 (by omega)
def bo (m1 : Int) (cmp1 : Op → Op → Int) : Nat → (List Op) → Int → Int → (List Op)
 | 0, data2, i1, j1 => default
 | f_k0 + 1, data2, i1, j1 => (bif (i1 != j1) then (bif decide (i1 > j1) then (bo m1 cmp1 f_k0 (aC data2 (m1 - i1) m1 j1 cmp1) (i1 - j1) j1) else (bo m1 cmp1 f_k0 (aC data2 (m1 - i1) ((m1 + j1) - i1) i1 cmp1) i1 (j1 - i1))) else (aC data2 (m1 - i1) m1 i1 cmp1))
def bq (data1 : List Op) (a1 : Int) (m1 : Int) (b1 : Int) (cmp1 : Op → Op → Int) : List Op :=
 (bo m1 cmp1 ((b1 - a1).toNat + 1) data1 (m1 - a1) (b1 - m1))
theorem ic (y1 : SlV) (y1b : Option Nat) (data1 : List Op) (a1 : Int) (m1 : Int) (b1 : Int) (f1 : Nat) (caps1 : List Value) (pre1 : List Pred) [StabL pre1] (cmp1 : Op → Op → Int) (hfb1 : tab.fnb f1 = true) (hfn1 : ∀ (a0_ : Op) (a1_ : Op), Does Tryz.prog f1 ([.agg ⟨[.int .i64 a0_.time, .int .i64 a0_.who, .int .i64 a0_.node, .int .i64 a0_.parent, .int .i64 a0_.name, .int .i64 a0_.life, .int .i64 a0_.seq]⟩, .agg ⟨[.int .i64 a1_.time, .int .i64 a1_.who, .int .i64 a1_.node, .int .i64 a1_.parent, .int .i64 a1_.name, .int .i64 a1_.life, .int .i64 a1_.seq]⟩] ++ caps1) pre1 (fun (_ : Unit) => .int .i64 (cmp1 a0_ a1_)) (fun _ => [])) (hab : 0 ≤ a1 ∧ a1 < m1 ∧ m1 < b1 ∧ b1 ≤ (data1.length : Int)) : DoesG Tryz.prog 102 [y1.val data1.length, .int .i64 a1, .int .i64 m1, .int .i64 b1, .func (.func f1) #[] ⟨caps1⟩] pre1 ⟨[], [ownL EOp 49 y1 y1b data1]⟩ (fun (_ : Unit) => .tuple #[]) (fun _ => []) (fun _ => ⟨[], [ownL EOp 49 y1 y1b (bq data1 a1 m1 b1 cmp1)]⟩) := by
 refine co aZ Tryz.func102 rfl Tryz.ntmps102 Tryz.results102 rfl inferInstance (fun _ => inferInstance) fun C => ?_
 refine iL EOp (e := 49) (X := y1) (b := y1b) (l := data1) Mm fun hl63y1 hleny1 => ?_
 simp only [show EOp.by_ = 56 from rfl] at hleny1
 refine Tx ?_
 refine rw_q rfl rfl rfl (q_sub rfl rfl Zf rfl Zf Zo) ?_
 refine Tx ?_
 refine rw_q rfl rfl rfl (q_sub rfl rfl Zf rfl Zf Zo) ?_
 refine Tx ?_
 (repeat refine ao ?_); refine Lp [2,4] [] (fun (i_ : List Op × Int × Int × Nat) => match i_ with | ⟨data2, i1, j1, fz1⟩ => (⟨[(0, .v (y1.val data2.length)), (10, .v (.int .i64 i1)), (11, .v (.int .i64 j1))], [], [ownL EOp 49 y1 y1b data2], [], (1 ≤ i1 ∧ i1 ≤ m1 - a1 ∧ 1 ≤ j1 ∧ j1 ≤ b1 - m1 ∧ data2.length = data1.length) ∧ ((i1 + j1).toNat < fz1) ∧ (bo m1 cmp1 fz1 data2 i1 j1) = (bq data1 a1 m1 b1 cmp1), fz1⟩ : Ls)) ⟨data1, (m1 - a1), (b1 - m1), (b1 - a1).toNat + 1⟩ (Sc (Sc Sn)) (.nil) ⟨(by first | exact Nat.le_refl _ | exact Nat.zero_le _ | omega), (by first | exact Nat.le_refl _ | exact Nat.zero_le _ | omega), (by simp only [bq, Bool.true_and, Bool.and_true, Cf] : (bq data1 a1 m1 b1 cmp1) = (bo m1 cmp1 ((b1 - a1).toNat + 1) data1 (m1 - a1) (b1 - m1))).symm⟩ Le5 ?_
 rintro ⟨data2, i1, j1, fz1⟩ ⟨hi, hzfz1, hf1⟩
 simp only [List.cons_append, List.nil_append]
 have hlt0_ : (fz1 - 1) + 1 = fz1 := by omega
 refine Tx ?_
 refine Cd (b := (i1 != j1)) (fun hc1 => ?_) fun hc1 => ?_
 ·have hc1p := bne_iff_ne.1 hc1
  refine Tx ?_
  refine Cd (b := decide (i1 > j1)) (fun hc2 => ?_) fun hc2 => ?_
  ·have hc2p := of_decide_eq_true hc2
   refine Tx ?_
   refine rw_q rfl rfl rfl (q_sub rfl rfl Zf rfl Zf Zo) ?_
   refine Tx ?_
   refine aV (dW y1 y1b data2 (m1 - i1) m1 j1 _ _ _ cmp1 (by assumption) hfn1 (by omega)) .sq (.inl ⟨_, rfl⟩) (ac rfl) rfl rfl rfl Kr rfl rfl Sf (.nil _) Tk ?_
   intro _
   have hv1l : data2.length = (aC data2 (m1 - i1) m1 j1 cmp1).length := (gN data2 (m1 - i1) m1 j1 cmp1).symm
   have hv1 : y1.val data2.length = y1.val (aC data2 (m1 - i1) m1 j1 cmp1).length := congrArg (SlV.val y1) hv1l
   try rw [hv1]
   refine Tx ?_
   refine rw_q rfl rfl rfl (q_sub rfl rfl Zf rfl Zf Zo) ?_
   refine Tx ?_
   refine ⟨⟨(aC data2 (m1 - i1) m1 j1 cmp1), (i1 - j1), j1, (fz1 - 1)⟩, ⟨(by simp only [gN]; omega), (by (try simp only []); first | omega | (simp only [List.length_append, List.length_cons, List.length_nil]; omega)), (by rw [← hf1]; (conv => lhs; rw [← hlt0_]); simp only [bo, hc1, hc2, Bool.true_and, Bool.and_true, Cf] : (bq data1 a1 m1 b1 cmp1) = (bo m1 cmp1 (fz1 - 1) (aC data2 (m1 - i1) m1 j1 cmp1) (i1 - j1) j1)).symm⟩, (by simp only []; omega), Le5⟩
  ·have hc2p := of_decide_eq_false hc2
   refine Tx ?_
   refine rw_q rfl rfl rfl (q_sub rfl rfl Zf rfl Zf Zo) ?_
   refine Tx ?_
   refine rw_q rfl rfl rfl (q_add rfl rfl Zf rfl Zf Zo) ?_
   refine Rp rfl rfl rfl rfl ?_
   refine rw_q rfl rfl rfl (q_sub rfl rfl Zf rfl Zf Zo) ?_
   refine Tx ?_
   refine aV (dW y1 y1b data2 (m1 - i1) ((m1 + j1) - i1) i1 _ _ _ cmp1 (by assumption) hfn1 (by omega)) .sq (.inl ⟨_, rfl⟩) (ac rfl) rfl rfl rfl Kr rfl rfl Sf (.nil _) Tk ?_
   intro _
   have hv2l : data2.length = (aC data2 (m1 - i1) ((m1 + j1) - i1) i1 cmp1).length := (gN data2 (m1 - i1) ((m1 + j1) - i1) i1 cmp1).symm
   have hv2 : y1.val data2.length = y1.val (aC data2 (m1 - i1) ((m1 + j1) - i1) i1 cmp1).length := congrArg (SlV.val y1) hv2l
   try rw [hv2]
   refine Tx ?_
   refine rw_q rfl rfl rfl (q_sub rfl rfl Zf rfl Zf Zo) ?_
   refine Tx ?_
   refine ⟨⟨(aC data2 (m1 - i1) ((m1 + j1) - i1) i1 cmp1), i1, (j1 - i1), (fz1 - 1)⟩, ⟨(by simp only [gN]; omega), (by (try simp only []); first | omega | (simp only [List.length_append, List.length_cons, List.length_nil]; omega)), (by rw [← hf1]; (conv => lhs; rw [← hlt0_]); simp only [bo, hc1, hc2, Bool.true_and, Bool.and_true, Cf] : (bq data1 a1 m1 b1 cmp1) = (bo m1 cmp1 (fz1 - 1) (aC data2 (m1 - i1) ((m1 + j1) - i1) i1 cmp1) i1 (j1 - i1))).symm⟩, (by simp only []; omega), Le5⟩
 ·have hc1p := ae hc1
  refine Tx ?_
  refine rw_q rfl rfl rfl (q_sub rfl rfl Zf rfl Zf Zo) ?_
  refine Tx ?_
  refine aV (dW y1 y1b data2 (m1 - i1) m1 i1 _ _ _ cmp1 (by assumption) hfn1 (by omega)) .sq (.inl ⟨_, rfl⟩) (ac rfl) rfl rfl rfl Kr rfl rfl Sf (.nil _) Tk ?_
  intro _
  have hv3l : data2.length = (aC data2 (m1 - i1) m1 i1 cmp1).length := (gN data2 (m1 - i1) m1 i1 cmp1).symm
  have hv3 : y1.val data2.length = y1.val (aC data2 (m1 - i1) m1 i1 cmp1).length := congrArg (SlV.val y1) hv3l
  try rw [hv3]
  refine dY ?_
  have hr1 : (bq data1 a1 m1 b1 cmp1) = (aC data2 (m1 - i1) m1 i1 cmp1) := by rw [← hf1]; (conv => lhs; rw [← hlt0_]); simp only [bo, hc1, Bool.true_and, Bool.and_true, Cf]
  rw [hr1]
  exact ⟨(), _, .nil, rfl, Sf, .nil _, Sp⟩
theorem kU (m : Int) (cmp : Op → Op → Int) : ∀ (f : Nat) (data : List Op) (i j : Int), 1 ≤ i → 1 ≤ j → (i + j).toNat < f → (bo m cmp f data i j).length = data.length
 | 0, _, _, _, _, _, h => by omega
 | f + 1, data, i, j, hi, hj, h => by
  rw [bo]
  cases hc : (i != j) with
  | true =>
   have hc := bne_iff_ne.1 hc
   simp only [cond_true]
   cases hd : decide (i > j) with
   | true =>
    have hd := of_decide_eq_true hd
    simp only [cond_true]
    rw [kU m cmp f _ _ _ (by omega) hj (by omega), gN]
   | false =>
    have hd := of_decide_eq_false hd
    simp only [cond_false]
    rw [kU m cmp f _ _ _ hi (by omega) (by omega), gN]
  | false => simp only [cond_false]; rw [gN]
theorem mj (data : List Op) (a m b : Int) (cmp : Op → Op → Int) (h : a < m ∧ m < b) : (bq data a m b cmp).length = data.length := kU m cmp _ data _ _ (by omega) (by omega) (by omega)
def ag (data1 : List Op) (a1 : Int) (m1 : Int) (b1 : Int) (cmp1 : Op → Op → Int) : Nat → Int → Int → Int
 | 0, start3, r2 => default
 | f_k4 + 1, start3, r2 => (bif decide (start3 < r2) then (bif (!(decide ((cmp1 (gt data1 (((((a1 + b1) / 2) + m1) - 1) - ((start3 + r2) / 2)).toNat) (gt data1 ((start3 + r2) / 2).toNat)) < 0))) then (ag data1 a1 m1 b1 cmp1 f_k4 (((start3 + r2) / 2) + 1) r2) else (ag data1 a1 m1 b1 cmp1 f_k4 start3 ((start3 + r2) / 2))) else start3)
def aa (a1 : Int) (m1 : Int) (b1 : Int) : Int × Int :=
 (bif decide (m1 > ((a1 + b1) / 2)) then (((((a1 + b1) / 2) + m1) - b1), ((a1 + b1) / 2)) else (a1, m1))
def ak (data1 : List Op) (a1 : Int) (m1 : Int) (b1 : Int) (cmp1 : Op → Op → Int) : List Op :=
 (bif (decide ((ag data1 a1 m1 b1 cmp1 ((b1 - a1).toNat + 1) (aa a1 m1 b1).1 (aa a1 m1 b1).2) < m1) && decide (m1 < ((((a1 + b1) / 2) + m1) - (ag data1 a1 m1 b1 cmp1 ((b1 - a1).toNat + 1) (aa a1 m1 b1).1 (aa a1 m1 b1).2)))) then (bq data1 (ag data1 a1 m1 b1 cmp1 ((b1 - a1).toNat + 1) (aa a1 m1 b1).1 (aa a1 m1 b1).2) m1 ((((a1 + b1) / 2) + m1) - (ag data1 a1 m1 b1 cmp1 ((b1 - a1).toNat + 1) (aa a1 m1 b1).1 (aa a1 m1 b1).2)) cmp1) else data1)
def bk (i2 : Int) : Nat → (List Op) → Int → (List Op)
 | 0, data3, k2 => default
 | f_k3 + 1, data3, k2 => (bif decide (k2 > i2) then (bk i2 f_k3 ((data3.set k2.toNat (gt data3 (k2 - 1).toNat)).set (k2 - 1).toNat (gt data3 k2.toNat)) (k2 - 1)) else data3)
def bc (data1 : List Op) (a1 : Int) (m1 : Int) (cmp1 : Op → Op → Int) : Nat → Int → Int → (List Op)
 | 0, i2, j2 => default
 | f_k2 + 1, i2, j2 => (bif decide (i2 < j2) then (bif (!(decide ((cmp1 (gt data1 m1.toNat) (gt data1 ((i2 + j2) / 2).toNat)) < 0))) then (bc data1 a1 m1 cmp1 f_k2 (((i2 + j2) / 2) + 1) j2) else (bc data1 a1 m1 cmp1 f_k2 i2 ((i2 + j2) / 2))) else (bk i2 ((m1 - a1).toNat + 1) data1 m1))
def bm (i1 : Int) : Nat → (List Op) → Int → (List Op)
 | 0, data2, k1 => default
 | f_k1 + 1, data2, k1 => (bif decide (k1 < (i1 - 1)) then (bm i1 f_k1 ((data2.set k1.toNat (gt data2 (k1 + 1).toNat)).set (k1 + 1).toNat (gt data2 k1.toNat)) (k1 + 1)) else data2)
def bd (data1 : List Op) (a1 : Int) (b1 : Int) (cmp1 : Op → Op → Int) : Nat → Int → Int → (List Op)
 | 0, i1, j1 => default
 | f_k0 + 1, i1, j1 => (bif decide (i1 < j1) then (bif decide ((cmp1 (gt data1 ((i1 + j1) / 2).toNat) (gt data1 a1.toNat)) < 0) then (bd data1 a1 b1 cmp1 f_k0 (((i1 + j1) / 2) + 1) j1) else (bd data1 a1 b1 cmp1 f_k0 i1 ((i1 + j1) / 2))) else (bm i1 ((b1 - a1).toNat + 1) data1 a1))
def ah : Nat → (List Op) → Int → Int → Int → (Op → Op → Int) → (List Op)
 | 0, _, _, _, _, _ => default
 | k_ + 1, data1, a1, m1, b1, cmp1 => (bif ((m1 - a1) == 1) then (bd data1 a1 b1 cmp1 ((b1 - m1).toNat + 1) m1 b1) else (bif ((b1 - m1) == 1) then (bc data1 a1 m1 cmp1 ((m1 - a1).toNat + 1) a1 m1) else (bif (decide (a1 < (ag data1 a1 m1 b1 cmp1 ((b1 - a1).toNat + 1) (aa a1 m1 b1).1 (aa a1 m1 b1).2)) && decide ((ag data1 a1 m1 b1 cmp1 ((b1 - a1).toNat + 1) (aa a1 m1 b1).1 (aa a1 m1 b1).2) < ((a1 + b1) / 2))) then (bif (decide (((a1 + b1) / 2) < ((((a1 + b1) / 2) + m1) - (ag data1 a1 m1 b1 cmp1 ((b1 - a1).toNat + 1) (aa a1 m1 b1).1 (aa a1 m1 b1).2))) && decide (((((a1 + b1) / 2) + m1) - (ag data1 a1 m1 b1 cmp1 ((b1 - a1).toNat + 1) (aa a1 m1 b1).1 (aa a1 m1 b1).2)) < b1)) then (ah k_ (ah k_ (ak data1 a1 m1 b1 cmp1) a1 (ag data1 a1 m1 b1 cmp1 ((b1 - a1).toNat + 1) (aa a1 m1 b1).1 (aa a1 m1 b1).2) ((a1 + b1) / 2) cmp1) ((a1 + b1) / 2) ((((a1 + b1) / 2) + m1) - (ag data1 a1 m1 b1 cmp1 ((b1 - a1).toNat + 1) (aa a1 m1 b1).1 (aa a1 m1 b1).2)) b1 cmp1) else (ah k_ (ak data1 a1 m1 b1 cmp1) a1 (ag data1 a1 m1 b1 cmp1 ((b1 - a1).toNat + 1) (aa a1 m1 b1).1 (aa a1 m1 b1).2) ((a1 + b1) / 2) cmp1)) else (bif (decide (((a1 + b1) / 2) < ((((a1 + b1) / 2) + m1) - (ag data1 a1 m1 b1 cmp1 ((b1 - a1).toNat + 1) (aa a1 m1 b1).1 (aa a1 m1 b1).2))) && decide (((((a1 + b1) / 2) + m1) - (ag data1 a1 m1 b1 cmp1 ((b1 - a1).toNat + 1) (aa a1 m1 b1).1 (aa a1 m1 b1).2)) < b1)) then (ah k_ (ak data1 a1 m1 b1 cmp1) ((a1 + b1) / 2) ((((a1 + b1) / 2) + m1) - (ag data1 a1 m1 b1 cmp1 ((b1 - a1).toNat + 1) (aa a1 m1 b1).1 (aa a1 m1 b1).2)) b1 cmp1) else (ak data1 a1 m1 b1 cmp1)))))
theorem mZ (i : Int) : ∀ (f : Nat) (data : List Op) (k : Int), (i - 1 - k).toNat < f → (bm i f data k).length = data.length
 | 0, _, _, h => by omega
 | f + 1, data, k, h => by
  rw [bm]
  cases hc : decide (k < i - 1) with
  | true => have hc := of_decide_eq_true hc; simp only [cond_true]; rw [mZ i f _ _ (by omega)]; simp
  | false => rfl
theorem mY (i : Int) : ∀ (f : Nat) (data : List Op) (k : Int), (k - i).toNat < f → (bk i f data k).length = data.length
 | 0, _, _, h => by omega
 | f + 1, data, k, h => by
  rw [bk]
  cases hc : decide (k > i) with
  | true => have hc := of_decide_eq_true hc; simp only [cond_true]; rw [mY i f _ _ (by omega)]; simp
  | false => rfl
theorem kT (data : List Op) (a b : Int) (cmp : Op → Op → Int) : ∀ (f : Nat) (i j : Int), a ≤ i → i ≤ j → j ≤ b → (j - i).toNat < f → (bd data a b cmp f i j).length = data.length
 | 0, _, _, _, _, _, h => by omega
 | f + 1, i, j, ha, hi, hj, h => by
  rw [bd]
  cases hc : decide (i < j) with
  | true =>
   have hc := of_decide_eq_true hc
   simp only [cond_true]
   cases decide (cmp (gt data ((i + j) / 2).toNat) (gt data a.toNat) < 0) with
   | true => exact kT data a b cmp f _ _ (by omega) (by omega) hj (by omega)
   | false => exact kT data a b cmp f _ _ ha (by omega) (by omega) (by omega)
  | false => exact mZ i _ data a (by omega)
theorem kS (data : List Op) (a m : Int) (cmp : Op → Op → Int) : ∀ (f : Nat) (i j : Int), a ≤ i → i ≤ j → j ≤ m → (j - i).toNat < f → (bc data a m cmp f i j).length = data.length
 | 0, _, _, _, _, _, h => by omega
 | f + 1, i, j, ha, hi, hj, h => by
  rw [bc]
  cases hc : decide (i < j) with
  | true =>
   have hc := of_decide_eq_true hc
   simp only [cond_true]
   cases (!decide (cmp (gt data m.toNat) (gt data ((i + j) / 2).toNat) < 0)) with
   | true => exact kS data a m cmp f _ _ (by omega) (by omega) hj (by omega)
   | false => exact kS data a m cmp f _ _ ha (by omega) (by omega) (by omega)
  | false => exact mY i _ data m (by omega)
theorem pJ (data : List Op) (a m b : Int) (cmp : Op → Op → Int) : (ak data a m b cmp).length = data.length := by
 unfold ak
 generalize ag data a m b cmp _ _ _ = s
 cases hc : (decide (s < m) && decide (m < (a + b) / 2 + m - s)) with
 | true =>
  rw [Bool.and_eq_true] at hc
  exact mj _ _ _ _ _ ⟨of_decide_eq_true hc.1, of_decide_eq_true hc.2⟩
 | false => rfl
theorem gq : ∀ (k : Nat) (data : List Op) (a m b : Int) (cmp : Op → Op → Int), a < m ∧ m < b → (b - a).toNat < k → (ah k data a m b cmp).length = data.length
 | 0, _, _, _, _, _, _, h => by omega
 | k + 1, data, a, m, b, cmp, h, hk => by
  rw [ah]
  cases h1 : (m - a == 1) with
  | true => exact kT data a b cmp _ m b (by omega) (by omega) (by omega) (by omega)
  | false =>
   simp only [cond_false]
   cases h2 : (b - m == 1) with
   | true => exact kS data a m cmp _ a m (by omega) (by omega) (by omega) (by omega)
   | false =>
    simp only [cond_false]
    generalize ag data a m b cmp _ _ _ = s
    have hV := pJ data a m b cmp
    cases h3 : (decide (a < s) && decide (s < (a + b) / 2)) <;> cases h4 : (decide ((a + b) / 2 < (a + b) / 2 + m - s) && decide ((a + b) / 2 + m - s < b)) <;> simp only [cond_true, cond_false]
    ·exact hV
    ·rw [Bool.and_eq_true] at h4
     have h41 := of_decide_eq_true h4.1
     have h42 := of_decide_eq_true h4.2
     rw [gq k _ _ _ _ cmp ⟨h41, h42⟩ (by omega)]; exact hV
    ·rw [Bool.and_eq_true] at h3
     have h31 := of_decide_eq_true h3.1
     have h32 := of_decide_eq_true h3.2
     rw [gq k _ _ _ _ cmp ⟨h31, h32⟩ (by omega)]; exact hV
    ·rw [Bool.and_eq_true] at h3 h4
     have h31 := of_decide_eq_true h3.1
     have h32 := of_decide_eq_true h3.2
     have h41 := of_decide_eq_true h4.1
     have h42 := of_decide_eq_true h4.2
     rw [gq k _ _ _ _ cmp ⟨h41, h42⟩ (by omega), gq k _ _ _ _ cmp ⟨h31, h32⟩ (by omega)]; exact hV
theorem gH : ∀ (k_ : Nat) (y1 : SlV) (y1b : Option Nat) (data1 : List Op) (a1 : Int) (m1 : Int) (b1 : Int) (f1 : Nat) (caps1 : List Value) (pre1 : List Pred) [StabL pre1] (cmp1 : Op → Op → Int) (hfb1 : tab.fnb f1 = true) (hfn1 : ∀ (a0_ : Op) (a1_ : Op), Does Tryz.prog f1 ([.agg ⟨[.int .i64 a0_.time, .int .i64 a0_.who, .int .i64 a0_.node, .int .i64 a0_.parent, .int .i64 a0_.name, .int .i64 a0_.life, .int .i64 a0_.seq]⟩, .agg ⟨[.int .i64 a1_.time, .int .i64 a1_.who, .int .i64 a1_.node, .int .i64 a1_.parent, .int .i64 a1_.name, .int .i64 a1_.life, .int .i64 a1_.seq]⟩] ++ caps1) pre1 (fun (_ : Unit) => .int .i64 (cmp1 a0_ a1_)) (fun _ => [])) (hab : 0 ≤ a1 ∧ a1 < m1 ∧ m1 < b1 ∧ b1 ≤ (data1.length : Int)) (hk_ : (b1 - a1).toNat < k_), DoesG Tryz.prog 76 [y1.val data1.length, .int .i64 a1, .int .i64 m1, .int .i64 b1, .func (.func f1) #[] ⟨caps1⟩] pre1 ⟨[], [ownL EOp 49 y1 y1b data1]⟩ (fun (_ : Unit) => .tuple #[]) (fun _ => []) (fun _ => ⟨[], [ownL EOp 49 y1 y1b (ah k_ data1 a1 m1 b1 cmp1)]⟩) := by
 intro k_
 induction k_ with
 | zero => intros; omega
 | succ k_ ih_ =>
 intro y1 y1b data1 a1 m1 b1 f1 caps1 pre1 _ cmp1 hfb1 hfn1 hab hk_
 refine co aZ Tryz.func76 rfl Tryz.ntmps76 Tryz.results76 rfl inferInstance (fun _ => inferInstance) fun C => ?_
 refine iL EOp (e := 49) (X := y1) (b := y1b) (l := data1) Mm fun hl63y1 hleny1 => ?_
 simp only [show EOp.by_ = 56 from rfl] at hleny1
 refine Tx ?_
 refine rw_q rfl rfl rfl (q_sub rfl rfl Zf rfl Zf Zo) ?_
 refine Tx ?_
 refine Cd (b := ((m1 - a1) == 1)) (fun hc1 => ?_) fun hc1 => ?_
 ·have hc1p := eq_of_beq hc1
  refine Tx ?_
  (repeat refine ao ?_); refine Lp [0,1,2,3,4] [] (fun (i_ : Int × Int × Nat) => match i_ with | ⟨i1, j1, fz1⟩ => (⟨[(10, .v (.int .i64 i1)), (11, .v (.int .i64 j1))], [], [ownL EOp 49 y1 y1b data1], [], (m1 ≤ i1 ∧ i1 ≤ j1 ∧ j1 ≤ b1) ∧ ((j1 - i1).toNat < fz1) ∧ (bd data1 a1 b1 cmp1 fz1 i1 j1) = (ah (k_ + 1) data1 a1 m1 b1 cmp1), fz1⟩ : Ls)) ⟨m1, b1, (b1 - m1).toNat + 1⟩ (Sc (Sc (Sc (Sc (Sc Sn))))) (.nil) ⟨(by first | exact Nat.le_refl _ | exact Nat.zero_le _ | omega), (by first | exact Nat.le_refl _ | exact Nat.zero_le _ | omega), (by simp only [ah, hc1, Bool.true_and, Bool.and_true, Cf] : (ah (k_ + 1) data1 a1 m1 b1 cmp1) = (bd data1 a1 b1 cmp1 ((b1 - m1).toNat + 1) m1 b1)).symm⟩ Le5 ?_
  rintro ⟨i1, j1, fz1⟩ ⟨hi0, hzfz1, hf1⟩
  simp only [List.cons_append, List.nil_append]
  have hlt0_ : (fz1 - 1) + 1 = fz1 := by omega
  refine Tx ?_
  refine Cd (b := decide (i1 < j1)) (fun hc2 => ?_) fun hc2 => ?_
  ·have hc2p := of_decide_eq_true hc2
   refine Tx ?_
   refine rw_q rfl rfl rfl (q_add rfl rfl Zf rfl Zf Zo) ?_
   refine rw_q rfl rfl rfl (po und_3 kA rfl rfl Zf Zo) ?_
   refine rw_q rfl rfl rfl (rB rfl rfl Zf) ?_
   refine rw_q rfl rfl rfl (pp kA und_3 rfl rfl Zf Zo) ?_
   refine Tx ?_
   (repeat refine ao ?_); refine au (fun _ => some []) ?_
   refine Rb 0 rfl Qp ?_
   refine Rb 1 rfl Qp ?_
   refine Rb 2 rfl Qp ?_
   refine rw_qO EOp (e := 49) (X := y1) (b := y1b) (l := data1) Mm (.ab (i := 3) (js := [5, 6, 7, 8]) [4, 9, 10] rfl Kr Kr Kr Kr Kr) rfl rfl rfl (q_idx EOp ((i1 + j1) / 2).toNat rfl rfl Zf rfl Zf rfl rfl rfl (.head _) rfl Zo Za) ?_
   refine rw_qO EOp (e := 49) (X := y1) (b := y1b) (l := data1) Mm (.ab (i := 4) (js := [5, 6, 7, 8]) [9, 10] rfl Kr Kr Kr Kr Kr) rfl rfl rfl (q_leA EOp rfl rfl Zf rfl rfl (.head _) Za) ?_
   refine Rb 5 rfl Qp ?_
   refine Rb 6 rfl Qp ?_
   refine rw_qO EOp (e := 49) (X := y1) (b := y1b) (l := data1) Mm (.ab (i := 7) (js := []) [8, 9, 10] rfl Kr Kr Kr Kr Kr) rfl rfl rfl (q_idx EOp a1.toNat rfl rfl Zf rfl Zf rfl rfl rfl (.head _) rfl Zo Za) ?_
   refine rw_qO EOp (e := 49) (X := y1) (b := y1b) (l := data1) Mm (.ab (i := 8) (js := []) [9, 10] rfl Kr Kr Kr Kr Kr) rfl rfl rfl (q_leA EOp rfl rfl Zf rfl rfl (.head _) Za) ?_
   refine ap 9 Kr ?_
   refine gg (hfn1 (gt data1 ((i1 + j1) / 2).toNat) (gt data1 a1.toNat)) (.an rfl rfl) (ac rfl) rfl rfl rfl rfl rfl (by assumption) rfl rfl rfl Sf ?_
   intro _
   refine Ra 10 rfl Qp ?_
   refine bn Kr ?_
   (repeat refine ao ?_)
   refine Cd (b := decide ((cmp1 (gt data1 ((i1 + j1) / 2).toNat) (gt data1 a1.toNat)) < 0)) (fun hc3 => ?_) fun hc3 => ?_
   ·have hc3p := of_decide_eq_true hc3
    refine Tx ?_
    refine rw_q rfl rfl rfl (q_add rfl rfl Zf rfl Zf Zo) ?_
    refine Tx ?_
    refine ⟨⟨(((i1 + j1) / 2) + 1), j1, (fz1 - 1)⟩, ⟨(by (try simp only []); omega), (by (try simp only []); first | omega | (simp only [List.length_append, List.length_cons, List.length_nil]; omega)), (by rw [← hf1]; (conv => lhs; rw [← hlt0_]); simp only [bd, hc2, hc3, Bool.true_and, Bool.and_true, Cf] : (ah (k_ + 1) data1 a1 m1 b1 cmp1) = (bd data1 a1 b1 cmp1 (fz1 - 1) (((i1 + j1) / 2) + 1) j1)).symm⟩, (by simp only []; omega), Le5⟩
   ·have hc3p := of_decide_eq_false hc3
    refine Tx ?_
    refine ⟨⟨i1, ((i1 + j1) / 2), (fz1 - 1)⟩, ⟨(by (try simp only []); omega), (by (try simp only []); first | omega | (simp only [List.length_append, List.length_cons, List.length_nil]; omega)), (by rw [← hf1]; (conv => lhs; rw [← hlt0_]); simp only [bd, hc2, hc3, Bool.true_and, Bool.and_true, Cf] : (ah (k_ + 1) data1 a1 m1 b1 cmp1) = (bd data1 a1 b1 cmp1 (fz1 - 1) i1 ((i1 + j1) / 2))).symm⟩, (by simp only []; omega), Le5⟩
  ·have hc2p := of_decide_eq_false hc2
   refine Tx ?_
   (repeat refine ao ?_); refine Lp [1,2,3,4,10] [] (fun (i_ : List Op × Int) => match i_ with | ⟨data2, k1⟩ => (⟨[(0, .v (y1.val data2.length)), (13, .v (.int .i64 k1))], [], [ownL EOp 49 y1 y1b data2], [], (a1 ≤ k1 ∧ k1 < b1 ∧ data2.length = data1.length) ∧ (bm i1 ((b1 - k1).toNat + 1) data2 k1) = (ah (k_ + 1) data1 a1 m1 b1 cmp1), (b1 - k1).toNat + 1⟩ : Ls)) ⟨data1, a1⟩ (Sc (Sc (Sc (Sc (Sc Sn))))) (.nil) ⟨(by first | exact Nat.le_refl _ | exact Nat.zero_le _ | omega), (by rw [← hf1]; (conv => lhs; rw [← hlt0_]); simp only [bd, hc2, Bool.true_and, Bool.and_true, Cf] : (ah (k_ + 1) data1 a1 m1 b1 cmp1) = (bm i1 ((b1 - a1).toNat + 1) data1 a1)).symm⟩ Le5 ?_
   rintro ⟨data2, k1⟩ ⟨hi1, hf2⟩
   simp only [List.cons_append, List.nil_append]
   have hlt1_ : ((b1 - k1).toNat + 1 - 1) + 1 = (b1 - k1).toNat + 1 := by omega
   refine Tx ?_
   refine rw_q rfl rfl rfl (q_sub rfl rfl Zf rfl Zf Zo) ?_
   refine Tx ?_
   refine Cd (b := decide (k1 < (i1 - 1))) (fun hc4 => ?_) fun hc4 => ?_
   ·have hc4p := of_decide_eq_true hc4
    refine Tx ?_
    (repeat refine ao ?_); refine au (fun j => match j with | 15 => some y1b.toList | 17 => some y1b.toList | _ => some []) ?_
    refine Ra 0 rfl Qp ?_
    refine Ra 1 rfl Qp ?_
    refine ra_q (.an (i := 2) (js := [3, 4, 5, 6, 7, 8, 9, 10, 11, 12, 13, 14, 15]) rfl Kr Kr Kr Kr) (bK.all _) (by intro g hg; simp only [List.mem_append, List.mem_singleton, List.not_mem_nil, or_false, false_or, Option.mem_toList, Option.mem_def, List.append_nil] at hg; first | exact .inr ⟨ownL EOp 49 y1 y1b data2, Mm, hg⟩) rfl rfl rfl (q_pev rfl Zf) ?_
    refine ra_q (.an (i := 3) (js := [5, 6, 7, 8, 9, 10, 11, 12, 13, 14, 15]) rfl Kr Kr Kr Kr) (bK.all _) (by intro g hg; simp only [List.mem_append, List.mem_singleton, List.not_mem_nil, or_false, false_or, Option.mem_toList, Option.mem_def, List.append_nil] at hg; first | exact .inr ⟨ownL EOp 49 y1 y1b data2, Mm, hg⟩) rfl rfl rfl (q_pev rfl Zf) ?_
    refine ra_q (.an (i := 4) (js := [5, 6, 7, 8, 9, 10, 11, 12, 13, 14, 15]) rfl Kr Kr Kr Kr) (bK.all _) (by intro g hg; simp only [List.mem_append, List.mem_singleton, List.not_mem_nil, or_false, false_or, Option.mem_toList, Option.mem_def, List.append_nil] at hg; first | exact .inr ⟨ownL EOp 49 y1 y1b data2, Mm, hg⟩) rfl rfl rfl (q_add rfl rfl Zf rfl Zf Zo) ?_
    refine Rb 5 rfl Qp ?_
    refine Rb 6 rfl Qp ?_
    refine Rb 7 rfl (q_add rfl rfl Zf rfl Zf Zo) ?_
    refine rw_qO EOp (e := 49) (X := y1) (b := y1b) (l := data2) Mm (.an (i := 8) (js := [10, 11, 12, 13]) rfl Kr Kr Kr Kr) rfl rfl rfl (q_idx EOp (k1 + 1).toNat rfl rfl Zf rfl Zf rfl rfl rfl (.head _) rfl Zo Za) ?_
    refine rw_qO EOp (e := 49) (X := y1) (b := y1b) (l := data2) Mm (.an (i := 9) (js := [10, 11, 12, 13]) rfl Kr Kr Kr Kr) rfl rfl rfl (q_leA EOp rfl rfl Zf rfl rfl (.head _) Za) ?_
    refine Rb 10 rfl Qp ?_
    refine Rb 11 rfl Qp ?_
    refine rw_qO EOp (e := 49) (X := y1) (b := y1b) (l := data2) Mm (.ab (i := 12) (js := []) [13, 14, 15, 16, 17] rfl Kr Kr Kr Kr Kr) rfl rfl rfl (q_idx EOp k1.toNat rfl rfl Zf rfl Zf rfl rfl rfl (.head _) rfl Zo Za) ?_
    refine rw_qO EOp (e := 49) (X := y1) (b := y1b) (l := data2) Mm (.an (i := 13) (js := []) rfl Kr Kr Kr Kr) rfl rfl rfl (q_leA EOp rfl rfl Zf rfl rfl (.head _) Za) ?_
    refine rw_qO EOp (e := 49) (X := y1) (b := y1b) (l := data2) Mm (.an (i := 14) (js := []) rfl Kr Kr Kr Kr) rfl rfl rfl (q_idx EOp k1.toNat rfl rfl Zf rfl Zf rfl rfl rfl (.head _) rfl Zo Za) ?_
    refine ap 15 Kr ?_
    refine kh EOp data2 k1.toNat 0 (gt data2 (k1 + 1).toNat) (e := 49) (X := y1) (b := y1b) (.an rfl rfl) (.inr (fun g h => by simp [h])) (ac rfl) rfl rfl rfl rfl rfl rfl rfl rfl rfl rfl rfl Zb rfl Uo ?_
    have hv1 : y1.val data2.length = y1.val (data2.set k1.toNat (gt data2 (k1 + 1).toNat)).length := congrArg (SlV.val y1) List.length_set.symm
    try rw [hv1]
    refine rw_qO EOp (e := 49) (X := y1) (b := y1b) (l := (data2.set k1.toNat (gt data2 (k1 + 1).toNat))) Mm (.an (i := 16) (js := []) rfl Kr Kr Kr Kr) rfl rfl rfl (q_idx EOp (k1 + 1).toNat rfl rfl Zf rfl Zf rfl rfl rfl (.head _) rfl Zo Za) ?_
    refine ap 17 Kr ?_
    refine kh EOp (data2.set k1.toNat (gt data2 (k1 + 1).toNat)) (k1 + 1).toNat 0 (gt data2 k1.toNat) (e := 49) (X := y1) (b := y1b) (.an rfl rfl) (.inr (fun g h => by simp [h])) (ac rfl) rfl rfl rfl rfl rfl rfl rfl rfl rfl rfl rfl Zb rfl Uo ?_
    have hv2 : y1.val (data2.set k1.toNat (gt data2 (k1 + 1).toNat)).length = y1.val ((data2.set k1.toNat (gt data2 (k1 + 1).toNat)).set (k1 + 1).toNat (gt data2 k1.toNat)).length := congrArg (SlV.val y1) List.length_set.symm
    try rw [hv2]
    refine bn Kr ?_
    refine Tx ?_
    refine rw_q rfl rfl rfl (q_add rfl rfl Zf rfl Zf Zo) ?_
    refine Tx ?_
    have hnx3 : (b1 - (k1 + 1)).toNat + 1 = (b1 - k1).toNat + 1 - 1 := by omega
    refine ⟨⟨((data2.set k1.toNat (gt data2 (k1 + 1).toNat)).set (k1 + 1).toNat (gt data2 k1.toNat)), (k1 + 1)⟩, ⟨(by simp only [List.length_append, List.length_cons, List.length_nil, List.length_set]; omega), (by rw [hnx3]; exact (by rw [← hf2]; (conv => lhs; rw [← hlt1_]); simp only [bm, hc4, Bool.true_and, Bool.and_true, Cf] : (ah (k_ + 1) data1 a1 m1 b1 cmp1) = (bm i1 ((b1 - k1).toNat + 1 - 1) ((data2.set k1.toNat (gt data2 (k1 + 1).toNat)).set (k1 + 1).toNat (gt data2 k1.toNat)) (k1 + 1))).symm)⟩, (by simp only []; omega), Le5⟩
   ·have hc4p := of_decide_eq_false hc4
    refine Tx ?_
    have hr1 : (ah (k_ + 1) data1 a1 m1 b1 cmp1) = data2 := by rw [← hf2]; (conv => lhs; rw [← hlt1_]); simp only [bm, hc4, Bool.true_and, Bool.and_true, Cf]
    refine ai ?_
    rw [hr1]
    exact ⟨(), _, .nil, rfl, Sf, .nil _, Sp⟩
 ·have hc1p := ne_of_beq_false hc1
  refine Tx ?_
  refine rw_q rfl rfl rfl (q_sub rfl rfl Zf rfl Zf Zo) ?_
  refine Tx ?_
  refine Cd (b := ((b1 - m1) == 1)) (fun hc5 => ?_) fun hc5 => ?_
  ·have hc5p := eq_of_beq hc5
   refine Tx ?_
   (repeat refine ao ?_); refine Lp [0,1,2,3,4] [] (fun (i_ : Int × Int × Nat) => match i_ with | ⟨i2, j2, fz2⟩ => (⟨[(14, .v (.int .i64 i2)), (15, .v (.int .i64 j2))], [], [ownL EOp 49 y1 y1b data1], [], (a1 ≤ i2 ∧ i2 ≤ j2 ∧ j2 ≤ m1) ∧ ((j2 - i2).toNat < fz2) ∧ (bc data1 a1 m1 cmp1 fz2 i2 j2) = (ah (k_ + 1) data1 a1 m1 b1 cmp1), fz2⟩ : Ls)) ⟨a1, m1, (m1 - a1).toNat + 1⟩ (Sc (Sc (Sc (Sc (Sc Sn))))) (.nil) ⟨(by first | exact Nat.le_refl _ | exact Nat.zero_le _ | omega), (by first | exact Nat.le_refl _ | exact Nat.zero_le _ | omega), (by simp only [ah, hc1, hc5, Bool.true_and, Bool.and_true, Cf] : (ah (k_ + 1) data1 a1 m1 b1 cmp1) = (bc data1 a1 m1 cmp1 ((m1 - a1).toNat + 1) a1 m1)).symm⟩ Le5 ?_
   rintro ⟨i2, j2, fz2⟩ ⟨hi2, hzfz2, hf3⟩
   simp only [List.cons_append, List.nil_append]
   have hlt2_ : (fz2 - 1) + 1 = fz2 := by omega
   refine Tx ?_
   refine Cd (b := decide (i2 < j2)) (fun hc6 => ?_) fun hc6 => ?_
   ·have hc6p := of_decide_eq_true hc6
    refine Tx ?_
    refine rw_q rfl rfl rfl (q_add rfl rfl Zf rfl Zf Zo) ?_
    refine rw_q rfl rfl rfl (po und_3 kA rfl rfl Zf Zo) ?_
    refine rw_q rfl rfl rfl (rB rfl rfl Zf) ?_
    refine rw_q rfl rfl rfl (pp kA und_3 rfl rfl Zf Zo) ?_
    refine Tx ?_
    (repeat refine ao ?_); refine au (fun _ => some []) ?_
    refine Rb 0 rfl Qp ?_
    refine Rb 1 rfl Qp ?_
    refine Rb 2 rfl Qp ?_
    refine rw_qO EOp (e := 49) (X := y1) (b := y1b) (l := data1) Mm (.ab (i := 3) (js := [5, 6, 7, 8]) [4, 9, 10, 11] rfl Kr Kr Kr Kr Kr) rfl rfl rfl (q_idx EOp m1.toNat rfl rfl Zf rfl Zf rfl rfl rfl (.head _) rfl Zo Za) ?_
    refine rw_qO EOp (e := 49) (X := y1) (b := y1b) (l := data1) Mm (.ab (i := 4) (js := [5, 6, 7, 8]) [9, 10, 11] rfl Kr Kr Kr Kr Kr) rfl rfl rfl (q_leA EOp rfl rfl Zf rfl rfl (.head _) Za) ?_
    refine Rb 5 rfl Qp ?_
    refine Rb 6 rfl Qp ?_
    refine rw_qO EOp (e := 49) (X := y1) (b := y1b) (l := data1) Mm (.ab (i := 7) (js := []) [8, 9, 10, 11] rfl Kr Kr Kr Kr Kr) rfl rfl rfl (q_idx EOp ((i2 + j2) / 2).toNat rfl rfl Zf rfl Zf rfl rfl rfl (.head _) rfl Zo Za) ?_
    refine rw_qO EOp (e := 49) (X := y1) (b := y1b) (l := data1) Mm (.ab (i := 8) (js := []) [9, 10, 11] rfl Kr Kr Kr Kr Kr) rfl rfl rfl (q_leA EOp rfl rfl Zf rfl rfl (.head _) Za) ?_
    refine ap 9 Kr ?_
    refine gg (hfn1 (gt data1 m1.toNat) (gt data1 ((i2 + j2) / 2).toNat)) (.an rfl rfl) (ac rfl) rfl rfl rfl rfl rfl (by assumption) rfl rfl rfl Sf ?_
    intro _
    refine Ra 10 rfl Qp ?_
    refine Ra 11 rfl Qp ?_
    refine bn Kr ?_
    (repeat refine ao ?_)
    refine Cd (b := (!(decide ((cmp1 (gt data1 m1.toNat) (gt data1 ((i2 + j2) / 2).toNat)) < 0)))) (fun hc7 => ?_) fun hc7 => ?_
    ·refine Tx ?_
     refine rw_q rfl rfl rfl (q_add rfl rfl Zf rfl Zf Zo) ?_
     refine Tx ?_
     refine ⟨⟨(((i2 + j2) / 2) + 1), j2, (fz2 - 1)⟩, ⟨(by (try simp only []); omega), (by (try simp only []); first | omega | (simp only [List.length_append, List.length_cons, List.length_nil]; omega)), (by rw [← hf3]; (conv => lhs; rw [← hlt2_]); simp only [bc, hc6, hc7, Bool.true_and, Bool.and_true, Cf] : (ah (k_ + 1) data1 a1 m1 b1 cmp1) = (bc data1 a1 m1 cmp1 (fz2 - 1) (((i2 + j2) / 2) + 1) j2)).symm⟩, (by simp only []; omega), Le5⟩
    ·refine Tx ?_
     refine ⟨⟨i2, ((i2 + j2) / 2), (fz2 - 1)⟩, ⟨(by (try simp only []); omega), (by (try simp only []); first | omega | (simp only [List.length_append, List.length_cons, List.length_nil]; omega)), (by rw [← hf3]; (conv => lhs; rw [← hlt2_]); simp only [bc, hc6, hc7, Bool.true_and, Bool.and_true, Cf] : (ah (k_ + 1) data1 a1 m1 b1 cmp1) = (bc data1 a1 m1 cmp1 (fz2 - 1) i2 ((i2 + j2) / 2))).symm⟩, (by simp only []; omega), Le5⟩
   ·have hc6p := of_decide_eq_false hc6
    refine Tx ?_
    (repeat refine ao ?_); refine Lp [1,2,3,4,14] [] (fun (i_ : List Op × Int) => match i_ with | ⟨data3, k2⟩ => (⟨[(0, .v (y1.val data3.length)), (17, .v (.int .i64 k2))], [], [ownL EOp 49 y1 y1b data3], [], (a1 ≤ k2 ∧ k2 ≤ m1 ∧ data3.length = data1.length) ∧ (bk i2 ((k2 - a1).toNat + 1) data3 k2) = (ah (k_ + 1) data1 a1 m1 b1 cmp1), (k2 - a1).toNat + 1⟩ : Ls)) ⟨data1, m1⟩ (Sc (Sc (Sc (Sc (Sc Sn))))) (.nil) ⟨(by first | exact Nat.le_refl _ | exact Nat.zero_le _ | omega), (by rw [← hf3]; (conv => lhs; rw [← hlt2_]); simp only [bc, hc6, Bool.true_and, Bool.and_true, Cf] : (ah (k_ + 1) data1 a1 m1 b1 cmp1) = (bk i2 ((m1 - a1).toNat + 1) data1 m1)).symm⟩ Le5 ?_
    rintro ⟨data3, k2⟩ ⟨hi3, hf4⟩
    simp only [List.cons_append, List.nil_append]
    have hlt3_ : ((k2 - a1).toNat + 1 - 1) + 1 = (k2 - a1).toNat + 1 := by omega
    refine Tx ?_
    refine Cd (b := decide (k2 > i2)) (fun hc8 => ?_) fun hc8 => ?_
    ·have hc8p := of_decide_eq_true hc8
     refine Tx ?_
     (repeat refine ao ?_); refine au (fun j => match j with | 15 => some y1b.toList | 17 => some y1b.toList | _ => some []) ?_
     refine Ra 0 rfl Qp ?_
     refine Ra 1 rfl Qp ?_
     refine ra_q (.an (i := 2) (js := [3, 4, 5, 6, 7, 8, 9, 10, 11, 12, 13, 14, 15]) rfl Kr Kr Kr Kr) (bK.all _) (by intro g hg; simp only [List.mem_append, List.mem_singleton, List.not_mem_nil, or_false, false_or, Option.mem_toList, Option.mem_def, List.append_nil] at hg; first | exact .inr ⟨ownL EOp 49 y1 y1b data3, Mm, hg⟩) rfl rfl rfl (q_pev rfl Zf) ?_
     refine ra_q (.an (i := 3) (js := [5, 6, 7, 8, 9, 10, 11, 12, 13, 14, 15]) rfl Kr Kr Kr Kr) (bK.all _) (by intro g hg; simp only [List.mem_append, List.mem_singleton, List.not_mem_nil, or_false, false_or, Option.mem_toList, Option.mem_def, List.append_nil] at hg; first | exact .inr ⟨ownL EOp 49 y1 y1b data3, Mm, hg⟩) rfl rfl rfl (q_pev rfl Zf) ?_
     refine ra_q (.an (i := 4) (js := [5, 6, 7, 8, 9, 10, 11, 12, 13, 14, 15]) rfl Kr Kr Kr Kr) (bK.all _) (by intro g hg; simp only [List.mem_append, List.mem_singleton, List.not_mem_nil, or_false, false_or, Option.mem_toList, Option.mem_def, List.append_nil] at hg; first | exact .inr ⟨ownL EOp 49 y1 y1b data3, Mm, hg⟩) rfl rfl rfl (q_sub rfl rfl Zf rfl Zf Zo) ?_
     refine Rb 5 rfl Qp ?_
     refine Rb 6 rfl Qp ?_
     refine Rb 7 rfl (q_sub rfl rfl Zf rfl Zf Zo) ?_
     refine rw_qO EOp (e := 49) (X := y1) (b := y1b) (l := data3) Mm (.an (i := 8) (js := [10, 11, 12, 13]) rfl Kr Kr Kr Kr) rfl rfl rfl (q_idx EOp (k2 - 1).toNat rfl rfl Zf rfl Zf rfl rfl rfl (.head _) rfl Zo Za) ?_
     refine rw_qO EOp (e := 49) (X := y1) (b := y1b) (l := data3) Mm (.an (i := 9) (js := [10, 11, 12, 13]) rfl Kr Kr Kr Kr) rfl rfl rfl (q_leA EOp rfl rfl Zf rfl rfl (.head _) Za) ?_
     refine Rb 10 rfl Qp ?_
     refine Rb 11 rfl Qp ?_
     refine rw_qO EOp (e := 49) (X := y1) (b := y1b) (l := data3) Mm (.ab (i := 12) (js := []) [13, 14, 15, 16, 17] rfl Kr Kr Kr Kr Kr) rfl rfl rfl (q_idx EOp k2.toNat rfl rfl Zf rfl Zf rfl rfl rfl (.head _) rfl Zo Za) ?_
     refine rw_qO EOp (e := 49) (X := y1) (b := y1b) (l := data3) Mm (.an (i := 13) (js := []) rfl Kr Kr Kr Kr) rfl rfl rfl (q_leA EOp rfl rfl Zf rfl rfl (.head _) Za) ?_
     refine rw_qO EOp (e := 49) (X := y1) (b := y1b) (l := data3) Mm (.an (i := 14) (js := []) rfl Kr Kr Kr Kr) rfl rfl rfl (q_idx EOp k2.toNat rfl rfl Zf rfl Zf rfl rfl rfl (.head _) rfl Zo Za) ?_
     refine ap 15 Kr ?_
     refine kh EOp data3 k2.toNat 0 (gt data3 (k2 - 1).toNat) (e := 49) (X := y1) (b := y1b) (.an rfl rfl) (.inr (fun g h => by simp [h])) (ac rfl) rfl rfl rfl rfl rfl rfl rfl rfl rfl rfl rfl Zb rfl Uo ?_
     have hv3 : y1.val data3.length = y1.val (data3.set k2.toNat (gt data3 (k2 - 1).toNat)).length := congrArg (SlV.val y1) List.length_set.symm
     try rw [hv3]
     refine rw_qO EOp (e := 49) (X := y1) (b := y1b) (l := (data3.set k2.toNat (gt data3 (k2 - 1).toNat))) Mm (.an (i := 16) (js := []) rfl Kr Kr Kr Kr) rfl rfl rfl (q_idx EOp (k2 - 1).toNat rfl rfl Zf rfl Zf rfl rfl rfl (.head _) rfl Zo Za) ?_
     refine ap 17 Kr ?_
     refine kh EOp (data3.set k2.toNat (gt data3 (k2 - 1).toNat)) (k2 - 1).toNat 0 (gt data3 k2.toNat) (e := 49) (X := y1) (b := y1b) (.an rfl rfl) (.inr (fun g h => by simp [h])) (ac rfl) rfl rfl rfl rfl rfl rfl rfl rfl rfl rfl rfl Zb rfl Uo ?_
     have hv4 : y1.val (data3.set k2.toNat (gt data3 (k2 - 1).toNat)).length = y1.val ((data3.set k2.toNat (gt data3 (k2 - 1).toNat)).set (k2 - 1).toNat (gt data3 k2.toNat)).length := congrArg (SlV.val y1) List.length_set.symm
     try rw [hv4]
     refine bn Kr ?_
     refine Tx ?_
     refine rw_q rfl rfl rfl (q_sub rfl rfl Zf rfl Zf Zo) ?_
     refine Tx ?_
     have hnx6 : ((k2 - 1) - a1).toNat + 1 = (k2 - a1).toNat + 1 - 1 := by omega
     refine ⟨⟨((data3.set k2.toNat (gt data3 (k2 - 1).toNat)).set (k2 - 1).toNat (gt data3 k2.toNat)), (k2 - 1)⟩, ⟨(by simp only [List.length_append, List.length_cons, List.length_nil, List.length_set]; omega), (by rw [hnx6]; exact (by rw [← hf4]; (conv => lhs; rw [← hlt3_]); simp only [bk, hc8, Bool.true_and, Bool.and_true, Cf] : (ah (k_ + 1) data1 a1 m1 b1 cmp1) = (bk i2 ((k2 - a1).toNat + 1 - 1) ((data3.set k2.toNat (gt data3 (k2 - 1).toNat)).set (k2 - 1).toNat (gt data3 k2.toNat)) (k2 - 1))).symm)⟩, (by simp only []; omega), Le5⟩
    ·have hc8p := of_decide_eq_false hc8
     refine Tx ?_
     have hr2 : (ah (k_ + 1) data1 a1 m1 b1 cmp1) = data3 := by rw [← hf4]; (conv => lhs; rw [← hlt3_]); simp only [bk, hc8, Bool.true_and, Bool.and_true, Cf]
     refine ai ?_
     rw [hr2]
     exact ⟨(), _, .nil, rfl, Sf, .nil _, Sp⟩
  ·have hc5p := ne_of_beq_false hc5
   refine Tx ?_
   refine rw_q rfl rfl rfl (q_add rfl rfl Zf rfl Zf Zo) ?_
   refine rw_q rfl rfl rfl (po und_3 kA rfl rfl Zf Zo) ?_
   refine rw_q rfl rfl rfl (rB rfl rfl Zf) ?_
   refine rw_q rfl rfl rfl (pp kA und_3 rfl rfl Zf Zo) ?_
   refine Tx ?_
   refine rw_q rfl rfl rfl (q_add rfl rfl Zf rfl Zf Zo) ?_
   refine Ty ?_
   refine mf [0, 1, 2, 3, 4, 18, 19] [] (fun (i_ : Int × Int) => match i_ with | ⟨start1, r1⟩ => [(20, .v (.int .i64 start1)), (21, .v (.int .i64 r1))]) (fun (i_ : Int × Int) => match i_ with | ⟨start1, r1⟩ => []) (fun (i_ : Int × Int) => match i_ with | ⟨start1, r1⟩ => [ownL EOp 49 y1 y1b data1]) (fun (i_ : Int × Int) => match i_ with | ⟨start1, r1⟩ => []) (fun (i_ : Int × Int) => match i_ with | ⟨start1, r1⟩ => (a1 ≤ start1 ∧ start1 ≤ r1 ∧ r1 ≤ m1 ∧ r1 ≤ (a1 + b1) / 2 ∧ (a1 + b1) / 2 + m1 - start1 ≤ b1) ∧ start1 = (aa a1 m1 b1).1 ∧ r1 = (aa a1 m1 b1).2) (.cons rfl (.cons rfl (.cons rfl (.cons rfl (.cons rfl (.cons rfl (.cons rfl (.nil _)))))))) (.nil) ?_ ?_
   ·(repeat refine ao ?_)
    refine Cd (b := decide (m1 > ((a1 + b1) / 2))) (fun hc9 => ?_) fun hc9 => ?_
    ·have hc9p := of_decide_eq_true hc9
     refine Tx ?_
     refine rw_q rfl rfl rfl (q_sub rfl rfl Zf rfl Zf Zo) ?_
     refine Tx ?_
     have hv5 : (aa a1 m1 b1) = (((((a1 + b1) / 2) + m1) - b1), ((a1 + b1) / 2)) := by simp only [aa, hc9, Bool.true_and, Bool.and_true, Cf]
     refine ⟨⟨((((a1 + b1) / 2) + m1) - b1), ((a1 + b1) / 2)⟩, ⟨(by (try simp only []); omega), (by rw [hv5]), (by rw [hv5])⟩, Le5⟩
    ·have hc9p := of_decide_eq_false hc9
     refine Tx ?_
     have hv6 : (aa a1 m1 b1) = (a1, m1) := by simp only [aa, hc9, Bool.true_and, Bool.and_true, Cf]
     refine ⟨⟨a1, m1⟩, ⟨(by (try simp only []); omega), (by rw [hv6]), (by rw [hv6])⟩, Le5⟩
   ·rintro ⟨start1, r1⟩ ⟨hv8, rfl, rfl⟩
    simp only [List.cons_append, List.nil_append]
    refine Tx ?_
    refine rw_q rfl rfl rfl (q_sub rfl rfl Zf rfl Zf Zo) ?_
    refine Ty ?_
    refine mf [0, 1, 2, 3, 4, 18, 19] [] (fun (start2 : Int) => [(20, .v (.int .i64 start2))]) (fun (start2 : Int) => []) (fun (start2 : Int) => [ownL EOp 49 y1 y1b data1]) (fun (start2 : Int) => []) (fun (start2 : Int) => (a1 ≤ start2 ∧ start2 ≤ m1 ∧ start2 ≤ (a1 + b1) / 2 ∧ (a1 + b1) / 2 + m1 - start2 ≤ b1) ∧ start2 = (ag data1 a1 m1 b1 cmp1 ((b1 - a1).toNat + 1) (aa a1 m1 b1).1 (aa a1 m1 b1).2)) (.cons rfl (.cons rfl (.cons rfl (.cons rfl (.cons rfl (.cons rfl (.cons rfl (.nil _)))))))) (.nil) ?_ ?_
    ·refine Tx ?_
     (repeat refine ao ?_); refine Lp [0,1,2,3,4,18,19,22] [] (fun (i_ : Int × Int × Nat) => match i_ with | ⟨start3, r2, fz3⟩ => (⟨[(20, .v (.int .i64 start3)), (21, .v (.int .i64 r2))], [], [ownL EOp 49 y1 y1b data1], [], (start3 ≤ r2 ∧ r2 ≤ m1 ∧ r2 ≤ (a1 + b1) / 2 ∧ a1 ≤ start3 ∧ start3 ≤ m1 ∧ start3 ≤ (a1 + b1) / 2 ∧ (a1 + b1) / 2 + m1 - start3 ≤ b1) ∧ ((r2 - start3).toNat < fz3) ∧ (ag data1 a1 m1 b1 cmp1 fz3 start3 r2) = (ag data1 a1 m1 b1 cmp1 ((b1 - a1).toNat + 1) (aa a1 m1 b1).1 (aa a1 m1 b1).2), fz3⟩ : Ls)) ⟨(aa a1 m1 b1).1, (aa a1 m1 b1).2, (b1 - a1).toNat + 1⟩ (Sc (Sc (Sc (Sc (Sc (Sc (Sc (Sc Sn)))))))) (.nil) ⟨(by first | exact Nat.le_refl _ | exact Nat.zero_le _ | omega), (by first | exact Nat.le_refl _ | exact Nat.zero_le _ | omega), (rfl : (ag data1 a1 m1 b1 cmp1 ((b1 - a1).toNat + 1) (aa a1 m1 b1).1 (aa a1 m1 b1).2) = (ag data1 a1 m1 b1 cmp1 ((b1 - a1).toNat + 1) (aa a1 m1 b1).1 (aa a1 m1 b1).2)).symm⟩ Le5 ?_
     rintro ⟨start3, r2, fz3⟩ ⟨hi4, hzfz3, hf5⟩
     simp only [List.cons_append, List.nil_append]
     have hlt4_ : (fz3 - 1) + 1 = fz3 := by omega
     refine Tx ?_
     refine Cd (b := decide (start3 < r2)) (fun hc10 => ?_) fun hc10 => ?_
     ·have hc10p := of_decide_eq_true hc10
      refine Tx ?_
      refine rw_q rfl rfl rfl (q_add rfl rfl Zf rfl Zf Zo) ?_
      refine rw_q rfl rfl rfl (po und_3 kA rfl rfl Zf Zo) ?_
      refine rw_q rfl rfl rfl (rB rfl rfl Zf) ?_
      refine rw_q rfl rfl rfl (pp kA und_3 rfl rfl Zf Zo) ?_
      refine Tx ?_
      (repeat refine ao ?_); refine au (fun _ => some []) ?_
      refine Rb 0 rfl Qp ?_
      refine Rb 1 rfl Qp ?_
      refine Rb 2 rfl Qp ?_
      refine Rb 3 rfl Qp ?_
      refine Rb 4 rfl (q_sub rfl rfl Zf rfl Zf Zo) ?_
      refine rw_qO EOp (e := 49) (X := y1) (b := y1b) (l := data1) Mm (.ab (i := 5) (js := [7, 8, 9, 10]) [6, 11, 12, 13] rfl Kr Kr Kr Kr Kr) rfl rfl rfl (q_idx EOp (((((a1 + b1) / 2) + m1) - 1) - ((start3 + r2) / 2)).toNat rfl rfl Zf rfl Zf rfl rfl rfl (.head _) rfl Zo Za) ?_
      refine rw_qO EOp (e := 49) (X := y1) (b := y1b) (l := data1) Mm (.ab (i := 6) (js := [7, 8, 9, 10]) [11, 12, 13] rfl Kr Kr Kr Kr Kr) rfl rfl rfl (q_leA EOp rfl rfl Zf rfl rfl (.head _) Za) ?_
      refine Rb 7 rfl Qp ?_
      refine Rb 8 rfl Qp ?_
      refine rw_qO EOp (e := 49) (X := y1) (b := y1b) (l := data1) Mm (.ab (i := 9) (js := []) [10, 11, 12, 13] rfl Kr Kr Kr Kr Kr) rfl rfl rfl (q_idx EOp ((start3 + r2) / 2).toNat rfl rfl Zf rfl Zf rfl rfl rfl (.head _) rfl Zo Za) ?_
      refine rw_qO EOp (e := 49) (X := y1) (b := y1b) (l := data1) Mm (.ab (i := 10) (js := []) [11, 12, 13] rfl Kr Kr Kr Kr Kr) rfl rfl rfl (q_leA EOp rfl rfl Zf rfl rfl (.head _) Za) ?_
      refine ap 11 Kr ?_
      refine gg (hfn1 (gt data1 (((((a1 + b1) / 2) + m1) - 1) - ((start3 + r2) / 2)).toNat) (gt data1 ((start3 + r2) / 2).toNat)) (.an rfl rfl) (ac rfl) rfl rfl rfl rfl rfl (by assumption) rfl rfl rfl Sf ?_
      intro _
      refine Ra 12 rfl Qp ?_
      refine Ra 13 rfl Qp ?_
      refine bn Kr ?_
      (repeat refine ao ?_)
      refine Cd (b := (!(decide ((cmp1 (gt data1 (((((a1 + b1) / 2) + m1) - 1) - ((start3 + r2) / 2)).toNat) (gt data1 ((start3 + r2) / 2).toNat)) < 0)))) (fun hc11 => ?_) fun hc11 => ?_
      ·refine Tx ?_
       refine rw_q rfl rfl rfl (q_add rfl rfl Zf rfl Zf Zo) ?_
       refine Tx ?_
       refine ⟨⟨(((start3 + r2) / 2) + 1), r2, (fz3 - 1)⟩, ⟨(by (try simp only []); omega), (by (try simp only []); first | omega | (simp only [List.length_append, List.length_cons, List.length_nil]; omega)), (by rw [← hf5]; (conv => lhs; rw [← hlt4_]); simp only [ag, hc10, hc11, Bool.true_and, Bool.and_true, Cf] : (ag data1 a1 m1 b1 cmp1 ((b1 - a1).toNat + 1) (aa a1 m1 b1).1 (aa a1 m1 b1).2) = (ag data1 a1 m1 b1 cmp1 (fz3 - 1) (((start3 + r2) / 2) + 1) r2)).symm⟩, (by simp only []; omega), Le5⟩
      ·refine Tx ?_
       refine ⟨⟨start3, ((start3 + r2) / 2), (fz3 - 1)⟩, ⟨(by (try simp only []); omega), (by (try simp only []); first | omega | (simp only [List.length_append, List.length_cons, List.length_nil]; omega)), (by rw [← hf5]; (conv => lhs; rw [← hlt4_]); simp only [ag, hc10, hc11, Bool.true_and, Bool.and_true, Cf] : (ag data1 a1 m1 b1 cmp1 ((b1 - a1).toNat + 1) (aa a1 m1 b1).1 (aa a1 m1 b1).2) = (ag data1 a1 m1 b1 cmp1 (fz3 - 1) start3 ((start3 + r2) / 2))).symm⟩, (by simp only []; omega), Le5⟩
     ·have hc10p := of_decide_eq_false hc10
      refine Tx ?_
      have hv7 : (ag data1 a1 m1 b1 cmp1 ((b1 - a1).toNat + 1) (aa a1 m1 b1).1 (aa a1 m1 b1).2) = start3 := by rw [← hf5]; (conv => lhs; rw [← hlt4_]); simp only [ag, hc10, Bool.true_and, Bool.and_true, Cf]
      refine ⟨start3, ⟨(by (try simp only []); omega), hv7.symm⟩, Le5⟩
    ·rintro start2 ⟨hv4, rfl⟩
     simp only [List.cons_append, List.nil_append]
     refine Tx ?_
     refine rw_q rfl rfl rfl (q_sub rfl rfl Zf rfl Zf Zo) ?_
     refine Ty ?_
     refine mf [1, 3, 4, 18, 20, 24] [] (fun (data4 : List Op) => [(0, .v (y1.val data4.length))]) (fun (data4 : List Op) => []) (fun (data4 : List Op) => [ownL EOp 49 y1 y1b data4]) (fun (data4 : List Op) => []) (fun (data4 : List Op) => (data4.length = data1.length) ∧ data4 = (ak data1 a1 m1 b1 cmp1)) (.cons rfl (.cons rfl (.cons rfl (.cons rfl (.cons rfl (.cons rfl (.nil _))))))) (.nil) ?_ ?_
     ·(repeat refine ao ?_)
      refine Cd (b := (decide ((ag data1 a1 m1 b1 cmp1 ((b1 - a1).toNat + 1) (aa a1 m1 b1).1 (aa a1 m1 b1).2) < m1) && decide (m1 < ((((a1 + b1) / 2) + m1) - (ag data1 a1 m1 b1 cmp1 ((b1 - a1).toNat + 1) (aa a1 m1 b1).1 (aa a1 m1 b1).2))))) (fun hc12 => ?_) fun hc12 => ?_
      ·have hz11 := hc12
       simp only [Bool.and_eq_true, decide_eq_true_eq] at hz11
       refine Tx ?_
       refine aV (ic y1 y1b data1 (ag data1 a1 m1 b1 cmp1 ((b1 - a1).toNat + 1) (aa a1 m1 b1).1 (aa a1 m1 b1).2) m1 ((((a1 + b1) / 2) + m1) - (ag data1 a1 m1 b1 cmp1 ((b1 - a1).toNat + 1) (aa a1 m1 b1).1 (aa a1 m1 b1).2)) _ _ _ cmp1 (by assumption) hfn1 (by omega)) .sq (.inl ⟨_, rfl⟩) (ac rfl) rfl rfl rfl Kr rfl rfl Sf (.nil _) Tk ?_
       intro _
       have hv8l : data1.length = (bq data1 (ag data1 a1 m1 b1 cmp1 ((b1 - a1).toNat + 1) (aa a1 m1 b1).1 (aa a1 m1 b1).2) m1 ((((a1 + b1) / 2) + m1) - (ag data1 a1 m1 b1 cmp1 ((b1 - a1).toNat + 1) (aa a1 m1 b1).1 (aa a1 m1 b1).2)) cmp1).length := (mj data1 (ag data1 a1 m1 b1 cmp1 ((b1 - a1).toNat + 1) (aa a1 m1 b1).1 (aa a1 m1 b1).2) m1 ((((a1 + b1) / 2) + m1) - (ag data1 a1 m1 b1 cmp1 ((b1 - a1).toNat + 1) (aa a1 m1 b1).1 (aa a1 m1 b1).2)) cmp1 (by omega)).symm
       have hv8 : y1.val data1.length = y1.val (bq data1 (ag data1 a1 m1 b1 cmp1 ((b1 - a1).toNat + 1) (aa a1 m1 b1).1 (aa a1 m1 b1).2) m1 ((((a1 + b1) / 2) + m1) - (ag data1 a1 m1 b1 cmp1 ((b1 - a1).toNat + 1) (aa a1 m1 b1).1 (aa a1 m1 b1).2)) cmp1).length := congrArg (SlV.val y1) hv8l
       try rw [hv8]
       refine dY ?_
       have hv9 : (ak data1 a1 m1 b1 cmp1) = (bq data1 (ag data1 a1 m1 b1 cmp1 ((b1 - a1).toNat + 1) (aa a1 m1 b1).1 (aa a1 m1 b1).2) m1 ((((a1 + b1) / 2) + m1) - (ag data1 a1 m1 b1 cmp1 ((b1 - a1).toNat + 1) (aa a1 m1 b1).1 (aa a1 m1 b1).2)) cmp1) := by simp only [ak, hc12, Bool.true_and, Bool.and_true, Cf]
       refine ⟨(bq data1 (ag data1 a1 m1 b1 cmp1 ((b1 - a1).toNat + 1) (aa a1 m1 b1).1 (aa a1 m1 b1).2) m1 ((((a1 + b1) / 2) + m1) - (ag data1 a1 m1 b1 cmp1 ((b1 - a1).toNat + 1) (aa a1 m1 b1).1 (aa a1 m1 b1).2)) cmp1), ⟨(by first | rfl | exact mj _ _ _ _ _ (by omega)), hv9.symm⟩, Le5⟩
      ·refine Tx ?_
       have hv10 : (ak data1 a1 m1 b1 cmp1) = data1 := by simp only [ak, hc12, Bool.true_and, Bool.and_true, Cf]
       refine ⟨data1, ⟨(by first | rfl | exact mj _ _ _ _ _ (by omega)), hv10.symm⟩, Le5⟩
     ·rintro data4 ⟨hv11, rfl⟩
      simp only [List.cons_append, List.nil_append]
      refine Tx ?_
      refine Cd (b := (decide (a1 < (ag data1 a1 m1 b1 cmp1 ((b1 - a1).toNat + 1) (aa a1 m1 b1).1 (aa a1 m1 b1).2)) && decide ((ag data1 a1 m1 b1 cmp1 ((b1 - a1).toNat + 1) (aa a1 m1 b1).1 (aa a1 m1 b1).2) < ((a1 + b1) / 2)))) (fun hc13 => ?_) fun hc13 => ?_
      ·have hz12 := hc13
       simp only [Bool.and_eq_true, decide_eq_true_eq] at hz12
       refine Tx ?_
       refine aV (ih_ y1 y1b (ak data1 a1 m1 b1 cmp1) a1 (ag data1 a1 m1 b1 cmp1 ((b1 - a1).toNat + 1) (aa a1 m1 b1).1 (aa a1 m1 b1).2) ((a1 + b1) / 2) _ _ _ cmp1 (by assumption) hfn1 (by omega) (by omega)) .sq (.inl ⟨_, rfl⟩) (ac rfl) rfl rfl rfl Kr rfl rfl Sf (.nil _) Tk ?_
       intro _
       have hv11l : (ak data1 a1 m1 b1 cmp1).length = (ah k_ (ak data1 a1 m1 b1 cmp1) a1 (ag data1 a1 m1 b1 cmp1 ((b1 - a1).toNat + 1) (aa a1 m1 b1).1 (aa a1 m1 b1).2) ((a1 + b1) / 2) cmp1).length := (gq k_ (ak data1 a1 m1 b1 cmp1) a1 (ag data1 a1 m1 b1 cmp1 ((b1 - a1).toNat + 1) (aa a1 m1 b1).1 (aa a1 m1 b1).2) ((a1 + b1) / 2) cmp1 (by omega) (by omega)).symm
       have hv11 : y1.val (ak data1 a1 m1 b1 cmp1).length = y1.val (ah k_ (ak data1 a1 m1 b1 cmp1) a1 (ag data1 a1 m1 b1 cmp1 ((b1 - a1).toNat + 1) (aa a1 m1 b1).1 (aa a1 m1 b1).2) ((a1 + b1) / 2) cmp1).length := congrArg (SlV.val y1) hv11l
       try rw [hv11]
       refine Tx ?_
       refine Cd (b := (decide (((a1 + b1) / 2) < ((((a1 + b1) / 2) + m1) - (ag data1 a1 m1 b1 cmp1 ((b1 - a1).toNat + 1) (aa a1 m1 b1).1 (aa a1 m1 b1).2))) && decide (((((a1 + b1) / 2) + m1) - (ag data1 a1 m1 b1 cmp1 ((b1 - a1).toNat + 1) (aa a1 m1 b1).1 (aa a1 m1 b1).2)) < b1))) (fun hc14 => ?_) fun hc14 => ?_
       ·have hz13 := hc14
        simp only [Bool.and_eq_true, decide_eq_true_eq] at hz13
        refine Tx ?_
        refine aV (ih_ y1 y1b (ah k_ (ak data1 a1 m1 b1 cmp1) a1 (ag data1 a1 m1 b1 cmp1 ((b1 - a1).toNat + 1) (aa a1 m1 b1).1 (aa a1 m1 b1).2) ((a1 + b1) / 2) cmp1) ((a1 + b1) / 2) ((((a1 + b1) / 2) + m1) - (ag data1 a1 m1 b1 cmp1 ((b1 - a1).toNat + 1) (aa a1 m1 b1).1 (aa a1 m1 b1).2)) b1 _ _ _ cmp1 (by assumption) hfn1 (by omega) (by omega)) .sq (.inl ⟨_, rfl⟩) (ac rfl) rfl rfl rfl Kr rfl rfl Sf (.nil _) Tk ?_
        intro _
        have hv12l : (ah k_ (ak data1 a1 m1 b1 cmp1) a1 (ag data1 a1 m1 b1 cmp1 ((b1 - a1).toNat + 1) (aa a1 m1 b1).1 (aa a1 m1 b1).2) ((a1 + b1) / 2) cmp1).length = (ah k_ (ah k_ (ak data1 a1 m1 b1 cmp1) a1 (ag data1 a1 m1 b1 cmp1 ((b1 - a1).toNat + 1) (aa a1 m1 b1).1 (aa a1 m1 b1).2) ((a1 + b1) / 2) cmp1) ((a1 + b1) / 2) ((((a1 + b1) / 2) + m1) - (ag data1 a1 m1 b1 cmp1 ((b1 - a1).toNat + 1) (aa a1 m1 b1).1 (aa a1 m1 b1).2)) b1 cmp1).length := (gq k_ (ah k_ (ak data1 a1 m1 b1 cmp1) a1 (ag data1 a1 m1 b1 cmp1 ((b1 - a1).toNat + 1) (aa a1 m1 b1).1 (aa a1 m1 b1).2) ((a1 + b1) / 2) cmp1) ((a1 + b1) / 2) ((((a1 + b1) / 2) + m1) - (ag data1 a1 m1 b1 cmp1 ((b1 - a1).toNat + 1) (aa a1 m1 b1).1 (aa a1 m1 b1).2)) b1 cmp1 (by omega) (by omega)).symm
        have hv12 : y1.val (ah k_ (ak data1 a1 m1 b1 cmp1) a1 (ag data1 a1 m1 b1 cmp1 ((b1 - a1).toNat + 1) (aa a1 m1 b1).1 (aa a1 m1 b1).2) ((a1 + b1) / 2) cmp1).length = y1.val (ah k_ (ah k_ (ak data1 a1 m1 b1 cmp1) a1 (ag data1 a1 m1 b1 cmp1 ((b1 - a1).toNat + 1) (aa a1 m1 b1).1 (aa a1 m1 b1).2) ((a1 + b1) / 2) cmp1) ((a1 + b1) / 2) ((((a1 + b1) / 2) + m1) - (ag data1 a1 m1 b1 cmp1 ((b1 - a1).toNat + 1) (aa a1 m1 b1).1 (aa a1 m1 b1).2)) b1 cmp1).length := congrArg (SlV.val y1) hv12l
        try rw [hv12]
        refine dY ?_
        have hr3 : (ah (k_ + 1) data1 a1 m1 b1 cmp1) = (ah k_ (ah k_ (ak data1 a1 m1 b1 cmp1) a1 (ag data1 a1 m1 b1 cmp1 ((b1 - a1).toNat + 1) (aa a1 m1 b1).1 (aa a1 m1 b1).2) ((a1 + b1) / 2) cmp1) ((a1 + b1) / 2) ((((a1 + b1) / 2) + m1) - (ag data1 a1 m1 b1 cmp1 ((b1 - a1).toNat + 1) (aa a1 m1 b1).1 (aa a1 m1 b1).2)) b1 cmp1) := by simp only [ah, hc1, hc5, hc13, hc14, Bool.true_and, Bool.and_true, Cf]
        rw [hr3]
        exact ⟨(), _, .nil, rfl, Sf, .nil _, Sp⟩
       ·refine Tx ?_
        have hr4 : (ah (k_ + 1) data1 a1 m1 b1 cmp1) = (ah k_ (ak data1 a1 m1 b1 cmp1) a1 (ag data1 a1 m1 b1 cmp1 ((b1 - a1).toNat + 1) (aa a1 m1 b1).1 (aa a1 m1 b1).2) ((a1 + b1) / 2) cmp1) := by simp only [ah, hc1, hc5, hc13, hc14, Bool.true_and, Bool.and_true, Cf]
        rw [hr4]
        exact ⟨(), _, .nil, rfl, Sf, .nil _, Sp⟩
      ·refine Tx ?_
       refine Cd (b := (decide (((a1 + b1) / 2) < ((((a1 + b1) / 2) + m1) - (ag data1 a1 m1 b1 cmp1 ((b1 - a1).toNat + 1) (aa a1 m1 b1).1 (aa a1 m1 b1).2))) && decide (((((a1 + b1) / 2) + m1) - (ag data1 a1 m1 b1 cmp1 ((b1 - a1).toNat + 1) (aa a1 m1 b1).1 (aa a1 m1 b1).2)) < b1))) (fun hc15 => ?_) fun hc15 => ?_
       ·have hz13 := hc15
        simp only [Bool.and_eq_true, decide_eq_true_eq] at hz13
        refine Tx ?_
        refine aV (ih_ y1 y1b (ak data1 a1 m1 b1 cmp1) ((a1 + b1) / 2) ((((a1 + b1) / 2) + m1) - (ag data1 a1 m1 b1 cmp1 ((b1 - a1).toNat + 1) (aa a1 m1 b1).1 (aa a1 m1 b1).2)) b1 _ _ _ cmp1 (by assumption) hfn1 (by omega) (by omega)) .sq (.inl ⟨_, rfl⟩) (ac rfl) rfl rfl rfl Kr rfl rfl Sf (.nil _) Tk ?_
        intro _
        have hv13l : (ak data1 a1 m1 b1 cmp1).length = (ah k_ (ak data1 a1 m1 b1 cmp1) ((a1 + b1) / 2) ((((a1 + b1) / 2) + m1) - (ag data1 a1 m1 b1 cmp1 ((b1 - a1).toNat + 1) (aa a1 m1 b1).1 (aa a1 m1 b1).2)) b1 cmp1).length := (gq k_ (ak data1 a1 m1 b1 cmp1) ((a1 + b1) / 2) ((((a1 + b1) / 2) + m1) - (ag data1 a1 m1 b1 cmp1 ((b1 - a1).toNat + 1) (aa a1 m1 b1).1 (aa a1 m1 b1).2)) b1 cmp1 (by omega) (by omega)).symm
        have hv13 : y1.val (ak data1 a1 m1 b1 cmp1).length = y1.val (ah k_ (ak data1 a1 m1 b1 cmp1) ((a1 + b1) / 2) ((((a1 + b1) / 2) + m1) - (ag data1 a1 m1 b1 cmp1 ((b1 - a1).toNat + 1) (aa a1 m1 b1).1 (aa a1 m1 b1).2)) b1 cmp1).length := congrArg (SlV.val y1) hv13l
        try rw [hv13]
        refine dY ?_
        have hr5 : (ah (k_ + 1) data1 a1 m1 b1 cmp1) = (ah k_ (ak data1 a1 m1 b1 cmp1) ((a1 + b1) / 2) ((((a1 + b1) / 2) + m1) - (ag data1 a1 m1 b1 cmp1 ((b1 - a1).toNat + 1) (aa a1 m1 b1).1 (aa a1 m1 b1).2)) b1 cmp1) := by simp only [ah, hc1, hc5, hc13, hc15, Bool.true_and, Bool.and_true, Cf]
        rw [hr5]
        exact ⟨(), _, .nil, rfl, Sf, .nil _, Sp⟩
       ·refine Tx ?_
        have hr6 : (ah (k_ + 1) data1 a1 m1 b1 cmp1) = (ak data1 a1 m1 b1 cmp1) := by simp only [ah, hc1, hc5, hc13, hc15, Bool.true_and, Bool.and_true, Cf]
        rw [hr6]
        exact ⟨(), _, .nil, rfl, Sf, .nil _, Sp⟩
end Go.Proofs.YtpkaloknohpleaaGreatDoor

set_option maxHeartbeats 2000000
namespace Go.Proofs.YtpkaloknohpleaaGreatDoor
open Go Go.Proofs.YtpkaloknohpleaaGreatDoor.Fw Go.Proofs
attribute [local irreducible] RW CW
def bsearch (p : Int → Bool) : Nat → Int → Int → Int
 | 0, _, _ => default
 | f + 1, i, j => bif decide (i < j) then (bif p ((i + j) / 2) then bsearch p f ((i + j) / 2 + 1) j else bsearch p f i ((i + j) / 2)) else i
theorem gM (p : Int → Bool) : ∀ (f : Nat) (i j : Int), i ≤ j → (j - i).toNat < f → (∀ x y, i ≤ x → x ≤ y → y < j → p y = true → p x = true) →
  i ≤ bsearch p f i j ∧ bsearch p f i j ≤ j ∧ (∀ x, i ≤ x → x < bsearch p f i j → p x = true) ∧ (∀ x, bsearch p f i j ≤ x → x < j → p x = false)
 | 0, _, _, _, h, _ => by omega
 | f + 1, i, j, hij, h, hm => by
  rw [bsearch]
  cases hc : decide (i < j) with
  | false =>
   have := of_decide_eq_false hc
   simp only [cond_false]
   exact ⟨Int.le_refl _, hij, fun x h1 h2 => by omega, fun x h1 h2 => by omega⟩
  | true =>
   have hc := of_decide_eq_true hc
   simp only [cond_true]
   cases hp : p ((i + j) / 2) with
   | true =>
    simp only [cond_true]
    obtain ⟨h1, h2, h3, h4⟩ := gM p f ((i + j) / 2 + 1) j (by omega) (by omega) (fun x y hx hxy hy => hm x y (by omega) hxy hy)
    refine ⟨by omega, h2, fun x hx hxr => ?_, h4⟩
    by_cases hh : x ≤ (i + j) / 2
    ·exact hm x _ hx hh (by omega) hp
    ·exact h3 x (by omega) hxr
   | false =>
    simp only [cond_false]
    obtain ⟨h1, h2, h3, h4⟩ := gM p f i ((i + j) / 2) (by omega) (by omega) (fun x y hx hxy hy => hm x y hx hxy (by omega))
    refine ⟨h1, by omega, h3, fun x hx hxj => ?_⟩
    by_cases hh : x < (i + j) / 2
    ·exact h4 x hx hh
    ·cases hpx : p x with
     | false => rfl
     | true => have := hm ((i + j) / 2) x (by omega) (by omega) hxj hpx; rw [hp] at this; cases this
theorem r0 (n : Int) (a b : Int) : ∀ (X2 Y2 P X1 Y1 M S : List Op) (f : Nat), X1.length = Y1.length → X2.length = Y2.length → a = (P.length : Int) → b = ((P.length + Y1.length + X2.length + M.length : Nat) : Int) → n = ((Y1.length + X2.length : Nat) : Int) → X2.length < f →
  br a b n f (P ++ (Y1 ++ (X2 ++ (M ++ (X1 ++ (Y2 ++ S)))))) (Y1.length : Int) = P ++ (Y1 ++ (Y2 ++ (M ++ (X1 ++ (X2 ++ S)))))
 | [], [], P, X1, Y1, M, S, f + 1, h1, h2, ha, hb, hn, hf => by
  rw [br]
  have : decide ((Y1.length : Int) < n) = false := by rw [hn]; simp
  rw [this]; rfl
 | x :: X2, y :: Y2, P, X1, Y1, M, S, f + 1, h1, h2, ha, hb, hn, hf => by
  simp only [List.length_cons] at h2 hb hn hf
  rw [br]
  have hc : decide ((Y1.length : Int) < n) = true := by rw [hn]; simp; omega
  have ea : (a + (Y1.length : Int)).toNat = (P ++ Y1).length := by rw [ha]; simp; omega
  have eb : (b + (Y1.length : Int)).toNat = (P ++ (Y1 ++ (x :: X2 ++ (M ++ X1)))).length := by rw [hb]; simp; omega
  have eb' : (b + (Y1.length : Int)).toNat = (P ++ (Y1 ++ (y :: X2 ++ (M ++ X1)))).length := by rw [hb]; simp; omega
  have d1 : P ++ (Y1 ++ (x :: X2 ++ (M ++ (X1 ++ (y :: Y2 ++ S))))) = (P ++ Y1) ++ x :: (X2 ++ (M ++ (X1 ++ (y :: Y2 ++ S)))) := by simp
  have d2 : P ++ (Y1 ++ (x :: X2 ++ (M ++ (X1 ++ (y :: Y2 ++ S))))) = (P ++ (Y1 ++ (x :: X2 ++ (M ++ X1)))) ++ y :: (Y2 ++ S) := by simp
  have d3 : (P ++ Y1) ++ y :: (X2 ++ (M ++ (X1 ++ (y :: Y2 ++ S)))) = (P ++ (Y1 ++ (y :: X2 ++ (M ++ X1)))) ++ y :: (Y2 ++ S) := by simp
  have g1 : gt (P ++ (Y1 ++ (x :: X2 ++ (M ++ (X1 ++ (y :: Y2 ++ S)))))) (a + (Y1.length : Int)).toNat = x := by rw [d1]; exact jA _ _ _ _ ea
  have g2 : gt (P ++ (Y1 ++ (x :: X2 ++ (M ++ (X1 ++ (y :: Y2 ++ S)))))) (b + (Y1.length : Int)).toNat = y := by rw [d2]; exact jA _ _ _ _ eb
  have s1 : (P ++ (Y1 ++ (x :: X2 ++ (M ++ (X1 ++ (y :: Y2 ++ S)))))).set (a + (Y1.length : Int)).toNat y = (P ++ Y1) ++ y :: (X2 ++ (M ++ (X1 ++ (y :: Y2 ++ S)))) := by rw [d1]; exact iy _ _ _ _ _ ea
  rw [hc, cond_true, g1, g2, s1, d3, iy _ _ _ _ _ eb']
  have ih := r0 n a b X2 Y2 P (X1 ++ [x]) (Y1 ++ [y]) M S f (by simp [h1]) (by omega) ha (by rw [hb]; simp; omega) (by rw [hn]; simp; omega) (by omega)
  simp only [List.length_append, List.length_cons, List.length_nil, List.append_assoc, List.cons_append, List.nil_append] at ih ⊢
  rw [show (Y1.length : Int) + 1 = ((Y1.length + (0 + 1) : Nat) : Int) by simp]
  exact ih
theorem SR_Op (P X M Y S : List Op) (a b n : Int) (cmp : Op → Op → Int) (h : X.length = Y.length) (ha : a = (P.length : Int)) (hb : b = ((P.length + X.length + M.length : Nat) : Int)) (hn : n = (X.length : Int)) :
  aC (P ++ (X ++ (M ++ (Y ++ S)))) a b n cmp = P ++ (Y ++ (M ++ (X ++ S))) := by
 have := r0 n a b X Y P [] [] M S ((n - 0).toNat + 1) rfl h ha (by rw [hb]; simp) (by rw [hn]; simp) (by rw [hn]; simp)
 exact this
theorem pO (m : Int) (cmp : Op → Op → Int) : ∀ (f : Nat) (P X Y S : List Op), 1 ≤ X.length → 1 ≤ Y.length → m = ((P.length + X.length : Nat) : Int) → X.length + Y.length < f →
  bo m cmp f (P ++ (X ++ (Y ++ S))) (X.length : Int) (Y.length : Int) = P ++ (Y ++ (X ++ S))
 | 0, _, _, _, _, _, _, _, h => by omega
 | f + 1, P, X, Y, S, hx, hy, hm, hf => by
  rw [bo]
  cases hc : ((X.length : Int) != (Y.length : Int)) with
  | false =>
   have hc := ae hc
   simp only [cond_false]
   exact SR_Op P X [] Y S _ _ _ cmp (by omega) (by rw [hm]; simp) (by rw [hm]; simp) rfl
  | true =>
   have hc := bne_iff_ne.1 hc
   simp only [cond_true]
   cases hd : decide ((X.length : Int) > (Y.length : Int)) with
   | true =>
    have hd := of_decide_eq_true hd
    simp only [cond_true]
    have hX : X = X.take Y.length ++ X.drop Y.length := (List.take_append_drop _ _).symm
    have hl : (X.take Y.length).length = Y.length := by simp; omega
    have e := SR_Op P (X.take Y.length) (X.drop Y.length) Y S (m - (X.length : Int)) m (Y.length : Int) cmp hl (by rw [hm]; simp) (by rw [hm]; simp; omega) (by rw [hl])
    rw [← List.append_assoc (X.take Y.length), List.take_append_drop] at e
    rw [e]
    have ih := pO m cmp f (P ++ Y) (X.drop Y.length) (X.take Y.length) S (by simp; omega) (by rw [hl]; exact hy) (by rw [hm]; simp; omega) (by rw [hl]; simp; omega)
    rw [hl] at ih
    have hdl : ((X.drop Y.length).length : Int) = (X.length : Int) - (Y.length : Int) := by simp; omega
    rw [hdl] at ih
    simp only [List.append_assoc] at ih
    rw [ih, ← List.append_assoc (X.take Y.length), List.take_append_drop]
   | false =>
    have hd := of_decide_eq_false hd
    simp only [cond_false]
    have hl2 : (Y.drop (Y.length - X.length)).length = X.length := by simp; omega
    have hl1 : (Y.take (Y.length - X.length)).length = Y.length - X.length := by simp
    have e := SR_Op P X (Y.take (Y.length - X.length)) (Y.drop (Y.length - X.length)) S (m - (X.length : Int)) (m + (Y.length : Int) - (X.length : Int)) (X.length : Int) cmp hl2.symm (by rw [hm]; simp) (by rw [hm, hl1]; simp; omega) rfl
    rw [← List.append_assoc (Y.take _), List.take_append_drop] at e
    rw [e]
    have ih := pO m cmp f P (Y.drop (Y.length - X.length)) (Y.take (Y.length - X.length)) (X ++ S) (by rw [hl2]; exact hx) (by rw [hl1]; omega) (by rw [hl2]; exact hm) (by rw [hl1, hl2]; omega)
    rw [hl2, hl1] at ih
    have hdl : ((Y.length - X.length : Nat) : Int) = (Y.length : Int) - (X.length : Int) := by omega
    rw [hdl] at ih
    rw [ih, ← List.append_assoc (Y.take _), List.take_append_drop]
theorem RT_Op (P X Y S : List Op) (a m b : Int) (cmp : Op → Op → Int) (hx : 1 ≤ X.length) (hy : 1 ≤ Y.length) (ha : a = (P.length : Int)) (hm : m = ((P.length + X.length : Nat) : Int)) (hb : b = ((P.length + X.length + Y.length : Nat) : Int)) :
  bq (P ++ (X ++ (Y ++ S))) a m b cmp = P ++ (Y ++ (X ++ S)) := by
 unfold bq
 have h := pO m cmp ((b - a).toNat + 1) P X Y S hx hy hm (by rw [ha, hb]; omega)
 rw [show m - a = (X.length : Int) by rw [ha, hm]; omega, show b - m = (Y.length : Int) by rw [hm, hb]; omega]
 exact h
theorem vd {α : Type} [Inhabited α] (A B C : List α) (i : Nat) (h1 : A.length ≤ i) (h2 : i < A.length + B.length) : gt (A ++ (B ++ C)) i = gt B (i - A.length) := by
 unfold gt
 rw [List.getD_eq_getElem?_getD, List.getD_eq_getElem?_getD, List.getElem?_append_right h1, List.getElem?_append_left (by omega)]
theorem jY {α : Type} [Inhabited α] {l : List α} {n : Nat} {x : α} (h : x ∈ l.take n) : ∃ i, i < n ∧ i < l.length ∧ x = gt l i := by
 obtain ⟨i, hi, rfl⟩ := List.getElem_of_mem h
 simp only [List.length_take] at hi
 refine ⟨i, by omega, by omega, ?_⟩
 rw [gt_eq (by omega), List.getElem_take]
theorem jZ {α : Type} [Inhabited α] {l : List α} {n : Nat} {x : α} (h : x ∈ l.drop n) : ∃ i, n ≤ i ∧ i < l.length ∧ x = gt l i := by
 obtain ⟨i, hi, rfl⟩ := List.getElem_of_mem h
 simp only [List.length_drop] at hi
 refine ⟨n + i, by omega, by omega, ?_⟩
 rw [gt_eq (by omega), List.getElem_drop]
theorem gG {α : Type} [Inhabited α] {lt : α → α → Bool} (has : ∀ a b, lt a b = true → lt b a = false) {l : List α} (h : Sorted lt l) {i j : Nat} (hij : i ≤ j) (hj : j < l.length) : lt (gt l j) (gt l i) = false := by
 rcases Nat.eq_or_lt_of_le hij with rfl | hij
 ·cases hh : lt (gt l i) (gt l i) with
  | false => rfl
  | true => have := has _ _ hh; rw [hh] at this; exact this
 ·rw [gt_eq hj, gt_eq (by omega)]
  exact List.pairwise_iff_getElem.1 h i j (by omega) hj hij
theorem sa (i : Int) : ∀ (V P R : List Op) (x : Op) (f : Nat), i - 1 = ((P.length + V.length : Nat) : Int) → V.length < f →
  bm i f (P ++ x :: (V ++ R)) (P.length : Int) = P ++ (V ++ x :: R)
 | [], P, R, x, f + 1, hi, hf => by
  rw [bm]
  have : decide ((P.length : Int) < i - 1) = false := by rw [hi]; simp
  rw [this]; rfl
 | v :: V, P, R, x, f + 1, hi, hf => by
  simp only [List.length_cons] at hi hf
  rw [bm]
  have hc : decide ((P.length : Int) < i - 1) = true := by rw [hi]; simp; omega
  have e0 : (P.length : Int).toNat = P.length := by simp
  have e1 : ((P.length : Int) + 1).toNat = (P ++ [x]).length := by simp only [List.length_append, List.length_cons, List.length_nil]; omega
  have e2 : ((P.length : Int) + 1).toNat = (P ++ [v]).length := by simp only [List.length_append, List.length_cons, List.length_nil]; omega
  have d1 : P ++ x :: (v :: V ++ R) = (P ++ [x]) ++ v :: (V ++ R) := by simp
  have g0 : gt (P ++ x :: (v :: V ++ R)) (P.length : Int).toNat = x := jA _ _ _ _ e0
  have g1 : gt (P ++ x :: (v :: V ++ R)) ((P.length : Int) + 1).toNat = v := by rw [d1]; exact jA _ _ _ _ e1
  rw [hc, cond_true, g0, g1, iy _ _ _ _ _ e0, show P ++ v :: (v :: V ++ R) = (P ++ [v]) ++ v :: (V ++ R) by simp, iy _ _ _ _ _ e2]
  have ih := sa i V (P ++ [v]) R x f (by rw [hi]; simp; omega) (by omega)
  simp only [List.length_append, List.length_cons, List.length_nil, List.append_assoc, List.cons_append, List.nil_append] at ih ⊢
  rw [show (P.length : Int) + 1 = ((P.length + (0 + 1) : Nat) : Int) by simp]
  exact ih
theorem r9 (i : Int) (P : List Op) (hi : i = (P.length : Int)) : ∀ (r R : List Op) (y : Op) (f : Nat), r.length < f →
  bk i f (P ++ (r.reverse ++ y :: R)) ((P.length + r.length : Nat) : Int) = P ++ (y :: (r.reverse ++ R))
 | [], R, y, f + 1, hf => by
  rw [bk]
  have : decide (((P.length + ([] : List Op).length : Nat) : Int) > i) = false := by rw [hi]; simp
  rw [this]; rfl
 | u :: r, R, y, f + 1, hf => by
  simp only [List.length_cons] at hf
  rw [bk]
  have hc : decide (((P.length + (u :: r).length : Nat) : Int) > i) = true := by rw [hi]; simp; omega
  have e0 : ((P.length + (u :: r).length : Nat) : Int).toNat = (P ++ (r.reverse ++ [u])).length := by simp; omega
  have e1 : (((P.length + (u :: r).length : Nat) : Int) - 1).toNat = (P ++ r.reverse).length := by simp; omega
  have d0 : P ++ ((u :: r).reverse ++ y :: R) = (P ++ (r.reverse ++ [u])) ++ y :: R := by simp
  have d1 : (P ++ (r.reverse ++ [u])) ++ y :: R = (P ++ r.reverse) ++ u :: (y :: R) := by simp
  have g0 : gt (P ++ ((u :: r).reverse ++ y :: R)) ((P.length + (u :: r).length : Nat) : Int).toNat = y := by rw [d0]; exact jA _ _ _ _ e0
  have g1 : gt (P ++ ((u :: r).reverse ++ y :: R)) (((P.length + (u :: r).length : Nat) : Int) - 1).toNat = u := by rw [d0, d1]; exact jA _ _ _ _ e1
  rw [hc, cond_true, g0, g1, d0, iy _ _ _ _ _ e0, show (P ++ (r.reverse ++ [u])) ++ u :: R = (P ++ r.reverse) ++ u :: (u :: R) by simp, iy _ _ _ _ _ e1]
  have ih := r9 i P hi r (u :: R) y f (by omega)
  rw [show ((P.length + (u :: r).length : Nat) : Int) - 1 = ((P.length + r.length : Nat) : Int) by simp; omega, List.append_assoc, ih]
  simp
theorem pM (data : List Op) (a b : Int) (cmp : Op → Op → Int) : ∀ (f : Nat) (i j : Int), (j - i).toNat < f →
  bd data a b cmp f i j = bm (bsearch (fun h => decide (cmp (gt data h.toNat) (gt data a.toNat) < 0)) f i j) ((b - a).toNat + 1) data a
 | 0, _, _, h => by omega
 | f + 1, i, j, h => by
  rw [bd, bsearch]
  cases hc : decide (i < j) with
  | false => rfl
  | true =>
   have hc := of_decide_eq_true hc
   simp only [cond_true]
   cases decide (cmp (gt data ((i + j) / 2).toNat) (gt data a.toNat) < 0) with
   | true => simp only [cond_true]; exact pM data a b cmp f _ _ (by omega)
   | false => simp only [cond_false]; exact pM data a b cmp f _ _ (by omega)
theorem pL (data : List Op) (a m : Int) (cmp : Op → Op → Int) : ∀ (f : Nat) (i j : Int), (j - i).toNat < f →
  bc data a m cmp f i j = bk (bsearch (fun h => !decide (cmp (gt data m.toNat) (gt data h.toNat) < 0)) f i j) ((m - a).toNat + 1) data m
 | 0, _, _, h => by omega
 | f + 1, i, j, h => by
  rw [bc, bsearch]
  cases hc : decide (i < j) with
  | false => rfl
  | true =>
   have hc := of_decide_eq_true hc
   simp only [cond_true]
   cases decide (cmp (gt data m.toNat) (gt data ((i + j) / 2).toNat) < 0) with
   | true => simp only [Bool.not_true, cond_false]; exact pL data a m cmp f _ _ (by omega)
   | false => simp only [Bool.not_false, cond_true]; exact pL data a m cmp f _ _ (by omega)
theorem pK (data : List Op) (a m b : Int) (cmp : Op → Op → Int) : ∀ (f : Nat) (i j : Int),
  ag data a m b cmp f i j = bsearch (fun c => !decide (cmp (gt data ((a + b) / 2 + m - 1 - c).toNat) (gt data c.toNat) < 0)) f i j
 | 0, _, _ => rfl
 | f + 1, i, j => by
  rw [ag, bsearch, pK data a m b cmp f, pK data a m b cmp f]
theorem SM_Op (cmp : Op → Op → Int) (lt : Op → Op → Bool) (hlt : ∀ a b, decide (cmp a b < 0) = lt a b) (htr : ∀ a b c, lt c b = false → lt b a = false → lt c a = false) (has : ∀ a b, lt a b = true → lt b a = false) : ∀ (k : Nat) (P U V S : List Op) (a m b : Int),
  1 ≤ U.length → 1 ≤ V.length → a = (P.length : Int) → m = ((P.length + U.length : Nat) : Int) → b = ((P.length + U.length + V.length : Nat) : Int) → U.length + V.length < k → Sorted lt U → Sorted lt V →
  ∃ W, ah k (P ++ (U ++ (V ++ S))) a m b cmp = P ++ (W ++ S) ∧ W.Perm (U ++ V) ∧ Sorted lt W
 | 0, _, _, _, _, _, _, _, _, _, _, _, _, h, _, _ => by omega
 | k + 1, P, U, V, S, a, m, b, hu, hv, ha, hm, hb, hk, sU, sV => by
  have gU : ∀ i : Int, a ≤ i → i < m → gt (P ++ (U ++ (V ++ S))) i.toNat = gt U (i - a).toNat := fun i h1 h2 => by
   rw [vd P U (V ++ S) i.toNat (by omega) (by omega)]; congr 1; omega
  have gV : ∀ i : Int, m ≤ i → i < b → gt (P ++ (U ++ (V ++ S))) i.toNat = gt V (i - m).toNat := fun i h1 h2 => by
   rw [← List.append_assoc P, vd (P ++ U) V S i.toNat (by simp; omega) (by simp; omega)]; congr 1; simp; omega
  rw [ah]
  cases h1 : (m - a == 1) with
  | true =>
   have h1 := eq_of_beq h1
   simp only [cond_true]
   obtain ⟨x, rfl⟩ : ∃ x, U = [x] := List.length_eq_one_iff.1 (by omega)
   rw [pM _ a b cmp _ _ _ (by omega)]
   have ga : gt (P ++ ([x] ++ (V ++ S))) a.toNat = x := by rw [gU a (by omega) (by omega)]; simp [gt]
   rw [ga]
   obtain ⟨q1, q2, q3, q4⟩ := gM (fun h => decide (cmp (gt (P ++ ([x] ++ (V ++ S))) h.toNat) x < 0)) ((b - m).toNat + 1) m b (by omega) (by omega) (fun z w hz hzw hw hp => by
    try simp only at hp ⊢
    rw [gV z hz (by omega)]
    rw [gV w (by omega) hw] at hp
    rw [hlt] at hp ⊢
    cases hh : lt (gt V (z - m).toNat) x with
    | true => rfl
    | false => rw [htr _ _ _ (gG has sV (i := (z - m).toNat) (j := (w - m).toNat) (by omega) (by omega)) hh] at hp; cases hp)
   generalize bsearch (fun h => decide (cmp (gt (P ++ ([x] ++ (V ++ S))) h.toNat) x < 0)) ((b - m).toNat + 1) m b = r at *
   have hV : V = V.take (r - m).toNat ++ V.drop (r - m).toNat := (List.take_append_drop _ _).symm
   refine ⟨V.take (r - m).toNat ++ x :: V.drop (r - m).toNat, ?_, ?_, ?_⟩
   ·have := sa r (V.take (r - m).toNat) P (V.drop (r - m).toNat ++ S) x ((b - a).toNat + 1) (by simp; omega) (by simp; omega)
    rw [← List.append_assoc (V.take _), List.take_append_drop] at this
    rw [ha]
    simp only [List.cons_append, List.nil_append]
    rw [ha] at this
    rw [this]; simp
   ·refine List.perm_middle.trans ?_
    rw [List.take_append_drop]; exact .refl _
   ·have sV' := sV
    unfold Sorted at sV'
    rw [hV] at sV'
    obtain ⟨p1, p2, p3⟩ := List.pairwise_append.1 sV'
    refine List.pairwise_append.2 ⟨p1, List.pairwise_cons.2 ⟨fun v hv9 => ?_, p2⟩, fun v hv9 w hw => ?_⟩
    ·obtain ⟨i, hi1, hi2, rfl⟩ := jZ hv9
     have := q4 (m + i) (by omega) (by omega)
     rw [gV (m + i) (by omega) (by omega), hlt] at this
     rw [show (m + (i : Int) - m).toNat = i by omega] at this
     exact this
    ·rcases List.mem_cons.1 hw with rfl | hw
     ·obtain ⟨i, hi1, hi2, rfl⟩ := jY hv9
      have := q3 (m + i) (by omega) (by omega)
      rw [gV (m + i) (by omega) (by omega), hlt] at this
      rw [show (m + (i : Int) - m).toNat = i by omega] at this
      exact has _ _ this
     ·exact p3 v hv9 w hw
  | false =>
   simp only [cond_false]
   have h1 : ¬ m - a = 1 := by simpa using h1
   cases h2 : (b - m == 1) with
   | true =>
    have h2 := eq_of_beq h2
    simp only [cond_true]
    obtain ⟨y, rfl⟩ : ∃ y, V = [y] := List.length_eq_one_iff.1 (by omega)
    rw [pL _ a m cmp _ _ _ (by omega)]
    have gm : gt (P ++ (U ++ ([y] ++ S))) m.toNat = y := by rw [gV m (by omega) (by omega)]; simp [gt]
    rw [gm]
    obtain ⟨q1, q2, q3, q4⟩ := gM (fun h => !decide (cmp y (gt (P ++ (U ++ ([y] ++ S))) h.toNat) < 0)) ((m - a).toNat + 1) a m (by omega) (by omega) (fun z w hz hzw hw hp => by
     try simp only at hp ⊢
     rw [gU z hz (by omega)]
     rw [gU w (by omega) hw] at hp
     rw [hlt] at hp ⊢
     have hp : lt y (gt U (w - a).toNat) = false := by simpa using hp
     rw [htr _ _ _ hp (gG has sU (i := (z - a).toNat) (j := (w - a).toNat) (by omega) (by omega))]; rfl)
    generalize bsearch (fun h => !decide (cmp y (gt (P ++ (U ++ ([y] ++ S))) h.toNat) < 0)) ((m - a).toNat + 1) a m = r at *
    have hU : U = U.take (r - a).toNat ++ U.drop (r - a).toNat := (List.take_append_drop _ _).symm
    refine ⟨U.take (r - a).toNat ++ y :: U.drop (r - a).toNat, ?_, ?_, ?_⟩
    ·have := r9 r (P ++ U.take (r - a).toNat) (by simp; omega) (U.drop (r - a).toNat).reverse S y ((m - a).toNat + 1) (by simp; omega)
     rw [List.reverse_reverse] at this
     have e1 : P ++ U.take (r - a).toNat ++ (U.drop (r - a).toNat ++ y :: S) = P ++ (U ++ ([y] ++ S)) := by
      rw [List.append_assoc P, ← List.append_assoc (U.take _), List.take_append_drop]; rfl
     have e2 : (((P ++ U.take (r - a).toNat).length + (U.drop (r - a).toNat).reverse.length : Nat) : Int) = m := by simp; omega
     rw [e1, e2] at this
     rw [this]; simp
    ·refine List.perm_middle.trans ?_
     rw [List.take_append_drop]
     exact (List.perm_append_comm (l₁ := [y]) (l₂ := U))
    ·have sU' := sU
     unfold Sorted at sU'
     rw [hU] at sU'
     obtain ⟨p1, p2, p3⟩ := List.pairwise_append.1 sU'
     refine List.pairwise_append.2 ⟨p1, List.pairwise_cons.2 ⟨fun v hv9 => ?_, p2⟩, fun v hv9 w hw => ?_⟩
     ·obtain ⟨i, hi1, hi2, rfl⟩ := jZ hv9
      have := q4 (a + i) (by omega) (by omega)
      rw [gU (a + i) (by omega) (by omega), hlt] at this
      rw [show (a + (i : Int) - a).toNat = i by omega] at this
      exact has _ _ (by simpa using this)
     ·rcases List.mem_cons.1 hw with rfl | hw
      ·obtain ⟨i, hi1, hi2, rfl⟩ := jY hv9
       have := q3 (a + i) (by omega) (by omega)
       rw [gU (a + i) (by omega) (by omega), hlt] at this
       rw [show (a + (i : Int) - a).toNat = i by omega] at this
       simpa using this
      ·exact p3 v hv9 w hw
   | false =>
    simp only [cond_false]
    have h2 : ¬ b - m = 1 := by simpa using h2
    have hV8 : a ≤ (aa a m b).1 ∧ (aa a m b).1 ≤ (aa a m b).2 ∧ (aa a m b).2 ≤ m ∧ (aa a m b).2 ≤ (a + b) / 2 ∧ (a + b) / 2 + m - (aa a m b).1 ≤ b ∧
      ((aa a m b).1 = a ∨ (aa a m b).1 = (a + b) / 2 + m - b) ∧ ((aa a m b).2 = m ∨ (aa a m b).2 = (a + b) / 2) := by
     unfold aa
     cases hc : decide (m > (a + b) / 2) with
     | true => have hc := of_decide_eq_true hc; exact ⟨by simp only [cond_true]; omega, by simp only [cond_true]; omega, by simp only [cond_true]; omega, by simp only [cond_true]; omega, by simp only [cond_true]; omega, .inr rfl, .inr rfl⟩
     | false => have hc := of_decide_eq_false hc; exact ⟨by simp only [cond_false]; omega, by simp only [cond_false]; omega, by simp only [cond_false]; omega, by simp only [cond_false]; omega, by simp only [cond_false]; omega, .inl rfl, .inl rfl⟩
    unfold ak
    rw [pK]
    generalize (aa a m b).1 = lo at *
    generalize (aa a m b).2 = hi at *
    obtain ⟨w1, w2, w3, w4, w5, w6, w7⟩ := hV8
    obtain ⟨q1, q2, q3, q4⟩ := gM (fun c => !decide (cmp (gt (P ++ (U ++ (V ++ S))) ((a + b) / 2 + m - 1 - c).toNat) (gt (P ++ (U ++ (V ++ S))) c.toNat) < 0)) ((b - a).toNat + 1) lo hi w2 (by omega) (fun z w hz hzw hw hp => by
     try simp only at hp ⊢
     rw [gU z (by omega) (by omega), gV _ (by omega) (by omega)]
     rw [gU w (by omega) (by omega), gV _ (by omega) (by omega)] at hp
     rw [hlt] at hp ⊢
     have hp : lt (gt V ((a + b) / 2 + m - 1 - w - m).toNat) (gt U (w - a).toNat) = false := by simpa using hp
     have hp2 := htr _ _ _ (gG has sV (i := ((a + b) / 2 + m - 1 - w - m).toNat) (j := ((a + b) / 2 + m - 1 - z - m).toNat) (by omega) (by omega)) hp
     rw [htr _ _ _ hp2 (gG has sU (i := (z - a).toNat) (j := (w - a).toNat) (by omega) (by omega))]; rfl)
    generalize bsearch (fun c => !decide (cmp (gt (P ++ (U ++ (V ++ S))) ((a + b) / 2 + m - 1 - c).toNat) (gt (P ++ (U ++ (V ++ S))) c.toNat) < 0)) ((b - a).toNat + 1) lo hi = s at *
    have hU : U = U.take (s - a).toNat ++ U.drop (s - a).toNat := (List.take_append_drop _ _).symm
    have hV : V = V.take ((a + b) / 2 - s).toNat ++ V.drop ((a + b) / 2 - s).toNat := (List.take_append_drop _ _).symm
    have lU1 : (U.take (s - a).toNat).length = (s - a).toNat := by simp; omega
    have lU2 : (U.drop (s - a).toNat).length = (m - s).toNat := by simp; omega
    have lV1 : (V.take ((a + b) / 2 - s).toNat).length = ((a + b) / 2 - s).toNat := by simp; omega
    have lV2 : (V.drop ((a + b) / 2 - s).toNat).length = (b - ((a + b) / 2 + m - s)).toNat := by simp; omega
    have c1 : ∀ u ∈ U.take (s - a).toNat, ∀ v ∈ V.drop ((a + b) / 2 - s).toNat, lt v u = false := fun u hu' v hv' => by
     obtain ⟨i, hi1, hi2, rfl⟩ := jY hu'
     obtain ⟨j, hj1, hj2, rfl⟩ := jZ hv'
     have hs : lo < s := by rcases w6 with w6 | w6 <;> omega
     have := q3 (s - 1) (by omega) (by omega)
     rw [gU (s - 1) (by omega) (by omega), gV _ (by omega) (by omega), hlt] at this
     have this : lt (gt V ((a + b) / 2 + m - 1 - (s - 1) - m).toNat) (gt U (s - 1 - a).toNat) = false := by simpa using this
     exact htr _ _ _ (htr _ _ _ (gG has sV (i := ((a + b) / 2 + m - 1 - (s - 1) - m).toNat) (j := j) (by omega) hj2) this) (gG has sU (i := i) (j := (s - 1 - a).toNat) (by omega) (by omega))
    have c2 : ∀ v ∈ V.take ((a + b) / 2 - s).toNat, ∀ u ∈ U.drop (s - a).toNat, lt u v = false := fun v hv' u hu' => by
     obtain ⟨j, hj1, hj2, rfl⟩ := jY hv'
     obtain ⟨i, hi1, hi2, rfl⟩ := jZ hu'
     have hs : s < hi := by rcases w7 with w7 | w7 <;> omega
     have := q4 s (by omega) hs
     rw [gU s (by omega) (by omega), gV _ (by omega) (by omega), hlt] at this
     have this : lt (gt V ((a + b) / 2 + m - 1 - s - m).toNat) (gt U (s - a).toNat) = true := by simpa using this
     exact htr _ _ _ (htr _ _ _ (gG has sU (i := (s - a).toNat) (j := i) (by omega) hi2) (has _ _ this)) (gG has sV (i := j) (j := ((a + b) / 2 + m - 1 - s - m).toNat) (by omega) (by omega))
    have sU' := sU
    have sV' := sV
    unfold Sorted at sU' sV'
    rw [hU] at sU'
    rw [hV] at sV'
    obtain ⟨u1, u2, u3⟩ := List.pairwise_append.1 sU'
    obtain ⟨v1, v2, v3⟩ := List.pairwise_append.1 sV'
    have hrot : (bif (decide (s < m) && decide (m < (a + b) / 2 + m - s)) then bq (P ++ (U ++ (V ++ S))) s m ((a + b) / 2 + m - s) cmp else P ++ (U ++ (V ++ S))) = P ++ (U.take (s - a).toNat ++ (V.take ((a + b) / 2 - s).toNat ++ (U.drop (s - a).toNat ++ (V.drop ((a + b) / 2 - s).toNat ++ S)))) := by
     cases hc : (decide (s < m) && decide (m < (a + b) / 2 + m - s)) with
     | true =>
      simp only [Bool.and_eq_true, decide_eq_true_eq] at hc
      have := RT_Op (P ++ U.take (s - a).toNat) (U.drop (s - a).toNat) (V.take ((a + b) / 2 - s).toNat) (V.drop ((a + b) / 2 - s).toNat ++ S) s m ((a + b) / 2 + m - s) cmp (by omega) (by omega) (by simp; omega) (by simp; omega) (by simp; omega)
      have e1 : P ++ U.take (s - a).toNat ++ (U.drop (s - a).toNat ++ (V.take ((a + b) / 2 - s).toNat ++ (V.drop ((a + b) / 2 - s).toNat ++ S))) = P ++ (U ++ (V ++ S)) := by
       rw [List.append_assoc P, ← List.append_assoc (U.take _), List.take_append_drop, ← List.append_assoc (V.take _), List.take_append_drop]
      rw [e1] at this
      rw [cond_true, this]; simp
     | false =>
      simp only [Bool.and_eq_false_iff, decide_eq_false_iff_not] at hc
      rw [cond_false]
      rcases hc with hc | hc
      ·have e : U.drop (s - a).toNat = [] := List.length_eq_zero_iff.1 (by omega)
       have e' : U.take (s - a).toNat = U := List.take_of_length_le (by omega)
       rw [e, e', List.nil_append, ← List.append_assoc (V.take _), List.take_append_drop]
      ·have e : V.take ((a + b) / 2 - s).toNat = [] := List.length_eq_zero_iff.1 (by omega)
       have e' : V.drop ((a + b) / 2 - s).toNat = V := by rw [show ((a + b) / 2 - s).toNat = 0 by omega]; rfl
       rw [e, e', List.nil_append, ← List.append_assoc (U.take _), List.take_append_drop]
    rw [hrot]
    obtain ⟨W1, hW1, pW1, sW1⟩ : ∃ W1, (bif (decide (a < s) && decide (s < (a + b) / 2)) then ah k (P ++ (U.take (s - a).toNat ++ (V.take ((a + b) / 2 - s).toNat ++ (U.drop (s - a).toNat ++ (V.drop ((a + b) / 2 - s).toNat ++ S))))) a s ((a + b) / 2) cmp else P ++ (U.take (s - a).toNat ++ (V.take ((a + b) / 2 - s).toNat ++ (U.drop (s - a).toNat ++ (V.drop ((a + b) / 2 - s).toNat ++ S))))) = P ++ (W1 ++ (U.drop (s - a).toNat ++ (V.drop ((a + b) / 2 - s).toNat ++ S))) ∧ W1.Perm (U.take (s - a).toNat ++ V.take ((a + b) / 2 - s).toNat) ∧ Sorted lt W1 := by
     cases hc : (decide (a < s) && decide (s < (a + b) / 2)) with
     | true =>
      simp only [Bool.and_eq_true, decide_eq_true_eq] at hc
      rw [cond_true]
      exact SM_Op cmp lt hlt htr has k P (U.take (s - a).toNat) (V.take ((a + b) / 2 - s).toNat) _ a s ((a + b) / 2) (by omega) (by omega) ha (by omega) (by omega) (by omega) u1 v1
     | false =>
      simp only [Bool.and_eq_false_iff, decide_eq_false_iff_not] at hc
      refine ⟨U.take (s - a).toNat ++ V.take ((a + b) / 2 - s).toNat, by rw [cond_false]; simp, .refl _, ?_⟩
      rcases hc with hc | hc
      ·have e : U.take (s - a).toNat = [] := List.length_eq_zero_iff.1 (by omega)
       rw [e]; exact v1
      ·have e : V.take ((a + b) / 2 - s).toNat = [] := List.length_eq_zero_iff.1 (by omega)
       rw [e, List.append_nil]; exact u1
    have lW1 : W1.length = ((a + b) / 2 - a).toNat := by rw [pW1.length_eq]; simp only [List.length_append]; omega
    obtain ⟨W2, hW2, pW2, sW2⟩ : ∃ W2, (bif (decide ((a + b) / 2 < (a + b) / 2 + m - s) && decide ((a + b) / 2 + m - s < b)) then ah k (P ++ (W1 ++ (U.drop (s - a).toNat ++ (V.drop ((a + b) / 2 - s).toNat ++ S)))) ((a + b) / 2) ((a + b) / 2 + m - s) b cmp else P ++ (W1 ++ (U.drop (s - a).toNat ++ (V.drop ((a + b) / 2 - s).toNat ++ S)))) = P ++ (W1 ++ (W2 ++ S)) ∧ W2.Perm (U.drop (s - a).toNat ++ V.drop ((a + b) / 2 - s).toNat) ∧ Sorted lt W2 := by
     cases hc : (decide ((a + b) / 2 < (a + b) / 2 + m - s) && decide ((a + b) / 2 + m - s < b)) with
     | true =>
      simp only [Bool.and_eq_true, decide_eq_true_eq] at hc
      rw [cond_true]
      obtain ⟨W2, g1, g2, g3⟩ := SM_Op cmp lt hlt htr has k (P ++ W1) (U.drop (s - a).toNat) (V.drop ((a + b) / 2 - s).toNat) S ((a + b) / 2) ((a + b) / 2 + m - s) b (by omega) (by omega) (by simp; omega) (by simp; omega) (by simp; omega) (by omega) u2 v2
      exact ⟨W2, by rw [List.append_assoc, List.append_assoc] at g1; exact g1, g2, g3⟩
     | false =>
      simp only [Bool.and_eq_false_iff, decide_eq_false_iff_not] at hc
      refine ⟨U.drop (s - a).toNat ++ V.drop ((a + b) / 2 - s).toNat, by rw [cond_false]; simp, .refl _, ?_⟩
      rcases hc with hc | hc
      ·have e : U.drop (s - a).toNat = [] := List.length_eq_zero_iff.1 (by omega)
       rw [e]; exact v2
      ·have e : V.drop ((a + b) / 2 - s).toNat = [] := List.length_eq_zero_iff.1 (by omega)
       rw [e, List.append_nil]; exact u2
    refine ⟨W1 ++ W2, ?_, ?_, ?_⟩
    ·rw [List.append_assoc, ← hW2, ← hW1]
     cases (decide (a < s) && decide (s < (a + b) / 2)) <;> cases (decide ((a + b) / 2 < (a + b) / 2 + m - s) && decide ((a + b) / 2 + m - s < b)) <;> rfl
    ·refine (pW1.append pW2).trans ?_
     conv => rhs; rw [hU, hV]
     simp only [List.append_assoc]
     refine List.Perm.append_left _ ?_
     rw [← List.append_assoc, ← List.append_assoc]
     exact List.Perm.append_right _ List.perm_append_comm
    ·refine List.pairwise_append.2 ⟨sW1, sW2, fun x hx y hy => ?_⟩
     have hx := pW1.mem_iff.1 hx
     have hy := pW2.mem_iff.1 hy
     rcases List.mem_append.1 hx with hx | hx <;> rcases List.mem_append.1 hy with hy | hy
     ·exact u3 x hx y hy
     ·exact c1 x hx y hy
     ·exact c2 x hx y hy
     ·exact v3 x hx y hy
end Go.Proofs.YtpkaloknohpleaaGreatDoor
