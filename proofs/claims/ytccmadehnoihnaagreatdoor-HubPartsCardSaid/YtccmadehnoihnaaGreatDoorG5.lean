/- Part of this claim. No condition. -/
import Derived.Test.YtccmadehnoihnaaGreatDoorG4
set_option linter.unusedVariables false
set_option linter.unusedSimpArgs false
set_option maxHeartbeats 2000000
namespace Go.Proofs.YtccmadehnoihnaaGreatDoor
open Go Go.Proofs.YtccmadehnoihnaaGreatDoor.Fw Go.Proofs
attribute [local irreducible] RdL RdN VarP RW CW
def slices_insertionSortCmpFunc_Op_L1 (a1 : Int) (cmp1 : Op → Op → Int) : Nat → (List Op) → Int → (List Op)
  | 0, data4, j1 => default
  | f_k1 + 1, data4, j1 => (bif decide (j1 > a1) then (bif (decide (j1 > a1) && decide ((cmp1 (gt data4 j1.toNat) (gt data4 ((j1 - 1).toNat))) < 0)) then (slices_insertionSortCmpFunc_Op_L1 a1 cmp1 f_k1 ((data4.set j1.toNat (gt data4 ((j1 - 1).toNat))).set ((j1 - 1).toNat) (gt data4 j1.toNat)) (j1 - 1)) else data4) else data4)
def slices_insertionSortCmpFunc_Op_L0 (a1 : Int) (b1 : Int) (cmp1 : Op → Op → Int) : Nat → (List Op) → Int → (List Op)
  | 0, data2, i1 => default
  | f_k0 + 1, data2, i1 => (bif decide (i1 < b1) then (slices_insertionSortCmpFunc_Op_L0 a1 b1 cmp1 f_k0 ((slices_insertionSortCmpFunc_Op_L1 a1 cmp1 ((i1 - a1).toNat + 1) data2 i1)) (i1 + 1)) else data2)
def slices_insertionSortCmpFunc_Op (data1 : List Op) (a1 : Int) (b1 : Int) (cmp1 : Op → Op → Int) : List Op :=
  (slices_insertionSortCmpFunc_Op_L0 a1 b1 cmp1 ((b1 - (a1 + 1)).toNat + 1) data1 (a1 + 1))
theorem slices_insertionSortCmpFunc_Op_spec (y1 : SlV) (y1b : Option Nat) (data1 : List Op) (a1 : Int) (b1 : Int) (f1 : Nat) (caps1 : List Value) (pre1 : List Pred) [StabL pre1] (cmp1 : Op → Op → Int) (hfb1 : tab.fnb f1 = true) (hfn1 : ∀ (a0_ : Op) (a1_ : Op), Does Tryz.prog f1 ([.agg ⟨[.int .i64 a0_.time, .int .i64 a0_.who, .int .i64 a0_.node, .int .i64 a0_.parent, .int .i64 a0_.name, .int .i64 a0_.life, .int .i64 a0_.seq]⟩, .agg ⟨[.int .i64 a1_.time, .int .i64 a1_.who, .int .i64 a1_.node, .int .i64 a1_.parent, .int .i64 a1_.name, .int .i64 a1_.life, .int .i64 a1_.seq]⟩] ++ caps1) pre1 (fun (_ : Unit) => .int .i64 (cmp1 a0_ a1_)) (fun (_ : Unit) => [])) (hab : 0 ≤ a1 ∧ a1 ≤ b1 ∧ b1 ≤ (data1.length : Int)) : DoesG Tryz.prog 99 [y1.val data1.length, .int .i64 a1, .int .i64 b1, .func (.func f1) #[] ⟨caps1⟩] (pre1) ⟨[], [ownL EOp 41 y1 y1b data1]⟩ (fun (_ : Unit) => .tuple #[]) (fun (_ : Unit) => []) (fun (_ : Unit) => ⟨[], [ownL EOp 41 y1 y1b (slices_insertionSortCmpFunc_Op data1 a1 b1 cmp1)]⟩) := by
  refine does_ofG tab_ok Tryz.func99 rfl Tryz.ntmps99 Tryz.results99 rfl inferInstance (fun _ => inferInstance) fun C => ?_
  refine cw_lenO EOp (e := 41) (X := y1) (b := y1b) (l := data1) Mm fun hl63y1 hleny1 => ?_
  simp only [show EOp.by_ = 56 from rfl] at hleny1
  refine Tx ?_
  refine rw_q rfl rfl rfl (q_add rfl rfl (fun _ => rfl) rfl (fun _ => rfl) (fun _ => by omega)) ?_
  refine Tx ?_
  (repeat refine cw_seq ?_); refine Lp [1,2,3] [] (fun (i_ : List Op × Int) => match i_ with | ⟨data2, i1⟩ => (⟨[(0, .v (y1.val data2.length)), (8, .v (.int .i64 i1))], [], [ownL EOp 41 y1 y1b data2], [], (a1 + 1 ≤ i1 ∧ data2.length = data1.length) ∧ (slices_insertionSortCmpFunc_Op_L0 a1 b1 cmp1 ((b1 - i1).toNat + 1) data2 i1) = (slices_insertionSortCmpFunc_Op data1 a1 b1 cmp1), (b1 - i1).toNat + 1⟩ : Ls)) ⟨data1, (a1 + 1)⟩ (Sc (Sc (Sc Sn))) (.nil) ⟨(by first | exact Nat.le_refl _ | exact Nat.zero_le _ | omega), (by simp only [slices_insertionSortCmpFunc_Op, Bool.true_and, Bool.and_true, cond_true, cond_false] : (slices_insertionSortCmpFunc_Op data1 a1 b1 cmp1) = (slices_insertionSortCmpFunc_Op_L0 a1 b1 cmp1 ((b1 - (a1 + 1)).toNat + 1) data1 (a1 + 1))).symm⟩ Le5 ?_
  rintro ⟨data2, i1⟩ ⟨hi, hf1⟩
  simp only [List.cons_append, List.nil_append]
  have hlt0_ : ((b1 - i1).toNat + 1 - 1) + 1 = (b1 - i1).toNat + 1 := by omega
  refine Tx ?_
  refine Cd (b := decide (i1 < b1)) (fun hc1 => ?_) fun hc1 => ?_
  · have hc1p := of_decide_eq_true hc1
    (repeat refine cw_seq ?_); refine cw_skip ?_
    (repeat refine cw_seq ?_); refine cw_block ?_
    refine Ty ?_
    refine cw_joinB [1, 2, 3, 8, 12, 13, 14, 17] [] (fun (data3 : List Op) => [(0, .v (y1.val data3.length))]) (fun (data3 : List Op) => []) (fun (data3 : List Op) => [ownL EOp 41 y1 y1b data3]) (fun (data3 : List Op) => []) (fun (data3 : List Op) => (data3.length = data1.length) ∧ data3 = (slices_insertionSortCmpFunc_Op_L1 a1 cmp1 ((i1 - a1).toNat + 1) data2 i1)) (.cons rfl (.cons rfl (.cons rfl (.cons rfl (.cons rfl (.cons rfl (.cons rfl (.cons rfl (.nil _))))))))) (.nil) ?_ ?_
    · refine Tx ?_
      (repeat refine cw_seq ?_); refine Lp [1,2,3,8,12,13,14,17] [] (fun (i_ : List Op × Int) => match i_ with | ⟨data4, j1⟩ => (⟨[(0, .v (y1.val data4.length)), (9, .v (.int .i64 j1))], [], [ownL EOp 41 y1 y1b data4], [], (a1 ≤ j1 ∧ j1 < b1 ∧ data4.length = data1.length) ∧ (slices_insertionSortCmpFunc_Op_L1 a1 cmp1 ((j1 - a1).toNat + 1) data4 j1) = (slices_insertionSortCmpFunc_Op_L1 a1 cmp1 ((i1 - a1).toNat + 1) data2 i1), (j1 - a1).toNat + 1⟩ : Ls)) ⟨data2, i1⟩ (Sc (Sc (Sc (Sc (Sc (Sc (Sc (Sc Sn)))))))) (.nil) ⟨(by first | exact Nat.le_refl _ | exact Nat.zero_le _ | omega), (rfl : (slices_insertionSortCmpFunc_Op_L1 a1 cmp1 ((i1 - a1).toNat + 1) data2 i1) = (slices_insertionSortCmpFunc_Op_L1 a1 cmp1 ((i1 - a1).toNat + 1) data2 i1)).symm⟩ Le5 ?_
      rintro ⟨data4, j1⟩ ⟨hj, hf2⟩
      simp only [List.cons_append, List.nil_append]
      have hlt1_ : ((j1 - a1).toNat + 1 - 1) + 1 = (j1 - a1).toNat + 1 := by omega
      (repeat refine cw_seq ?_); refine cw_regionA (fun _ => some []) ?_
      refine Rb 0 [1] [2,3,4,5,6,7,8,9,10,11,12,13,14,15,16] rfl Qp ?_
      refine Rb 1 [] [2,3,4,5,6,7,8,9,10,11,12,13,14,15,16] rfl Qp ?_
      refine Rb 2 [] [3,4,5,6,7,8,9,10,11,12,13,14,15,16] rfl Qp ?_
      refine Ra 3 [] rfl Qp ?_
      refine Gb 4 [5,6,7,8,9,10,11,12,13] [14,15,16] rfl (guard_vt rfl rfl rfl) (q_pev rfl Bt) ?_
      refine Gb 5 [6,9,10,11,12,13] [7,8,14,15,16] rfl (guard_vt rfl rfl rfl) (q_pev rfl Bt) ?_
      refine Gb 6 [9,10,11,12,13] [7,8,14,15,16] rfl (guard_vt rfl rfl rfl) (q_pev rfl Bt) ?_
      refine rw_qgO EOp (e := 41) (X := y1) (b := y1b) (l := data4) Mm (.ab (i := 7) (js := [9, 10, 11, 12, 13]) [8, 14, 15, 16] rfl Kr Kr Kr Kr Kr) (guard_vt rfl rfl rfl) rfl rfl (q_idx EOp j1.toNat rfl rfl Bt rfl Bt rfl rfl rfl (.head _) rfl (by intro h; first | omega | rfl | (simp at h; omega)) (by first | (intro _; first | assumption | omega | (simp only [List.length_set]; omega)) | (intro h; simp at h; omega))) ?_
      refine rw_qgO EOp (e := 41) (X := y1) (b := y1b) (l := data4) Mm (.ab (i := 8) (js := [9, 10, 11, 12, 13]) [14, 15, 16] rfl Kr Kr Kr Kr Kr) (guard_vt rfl rfl rfl) rfl rfl (q_leA EOp rfl rfl Bt rfl rfl (.head _) (by first | (intro _; first | assumption | omega | (simp only [List.length_set]; omega)) | (intro h; simp at h; omega))) ?_
      refine Gb 9 [10,11] [12,13,14,15,16] rfl (guard_vt rfl rfl rfl) (q_pev rfl Bt) ?_
      refine Gb 10 [] [11,12,13,14,15,16] rfl (guard_vt rfl rfl rfl) (q_pev rfl Bt) ?_
      refine Gb 11 [] [12,13,14,15,16] rfl (guard_vt rfl rfl rfl) (q_sub rfl rfl Bt rfl Bt (by intro h; first | omega | (simp at h; omega))) ?_
      refine rw_qgO EOp (e := 41) (X := y1) (b := y1b) (l := data4) Mm (.ab (i := 12) (js := []) [13, 14, 15, 16] rfl Kr Kr Kr Kr Kr) (guard_vt rfl rfl rfl) rfl rfl (q_idx EOp ((j1 - 1).toNat) rfl rfl Bt rfl Bt rfl rfl rfl (.head _) rfl (by intro h; first | omega | rfl | (simp at h; omega)) (by first | (intro _; first | assumption | omega | (simp only [List.length_set]; omega)) | (intro h; simp at h; omega))) ?_
      refine rw_qgO EOp (e := 41) (X := y1) (b := y1b) (l := data4) Mm (.ab (i := 13) (js := []) [14, 15, 16] rfl Kr Kr Kr Kr Kr) (guard_vt rfl rfl rfl) rfl rfl (q_leA EOp rfl rfl Bt rfl rfl (.head _) (by first | (intro _; first | assumption | omega | (simp only [List.length_set]; omega)) | (intro h; simp at h; omega))) ?_
      refine ra_one 14 Kr ?_
      refine rw_split (.an rfl rfl) (guard_vt rfl rfl rfl) (fun hg1 => ?_) (fun hg1 => ?_)
      · have hg1p := of_decide_eq_true hg1
        refine rw_callv (hfn1 (gt data4 j1.toNat) (gt data4 ((j1 - 1).toNat))) (.an rfl rfl) (guard_is (guard_vt rfl rfl rfl) hg1) rfl rfl rfl rfl (by first | rfl | assumption | (simp only [hc1, hg1, Bool.and_true, Bool.true_and, Bool.and_self, Bool.not_false, Bool.not_true]; done) | simp_all) (by assumption) rfl (by first | rfl | assumption | (simp only [hc1, hg1, Bool.and_true, Bool.true_and, Bool.and_self, Bool.not_false, Bool.not_true]; done) | simp_all) rfl Sf ?_
        intro _
        refine Ga 15 [] rfl (guard_vt rfl rfl rfl) (q_pev rfl Bt) ?_
        refine Ra 16 [] rfl (q_pev rfl Bt) ?_
        refine ra_nil Kr ?_
        (repeat refine cw_seq ?_)
        refine Cd (b := (decide (j1 > a1) && decide ((cmp1 (gt data4 j1.toNat) (gt data4 ((j1 - 1).toNat))) < 0))) (fun hc2 => ?_) fun hc2 => ?_
        · try simp only [hg1, Bool.true_and, Bool.and_true] at hc2
          refine Tx ?_
          (repeat refine cw_seq ?_); refine cw_regionA (fun j => match j with | 15 => some y1b.toList | 17 => some y1b.toList | _ => some []) ?_
          refine Ra 0 [1,2,3,4,5,6,7,8,9,10,11,12,13] rfl Qp ?_
          refine Ra 1 [2,3,4,5,6,7,8,9,10,11,12,13] rfl Qp ?_
          refine ra_q (.an (i := 2) (js := [3, 4, 5, 6, 7, 8, 9, 10, 11, 12, 13, 14, 15]) rfl Kr Kr Kr Kr) (SplitB.all _) (by intro g hg; simp only [List.mem_append, List.mem_singleton, List.not_mem_nil, or_false, false_or, Option.mem_toList, Option.mem_def, List.append_nil] at hg; first | exact .inr ⟨ownL EOp 41 y1 y1b data4, Mm, hg⟩) rfl rfl rfl (q_pev rfl (fun _ => rfl)) ?_
          refine ra_q (.an (i := 3) (js := [5, 6, 7, 8, 9, 10, 11, 12, 13, 14, 15]) rfl Kr Kr Kr Kr) (SplitB.all _) (by intro g hg; simp only [List.mem_append, List.mem_singleton, List.not_mem_nil, or_false, false_or, Option.mem_toList, Option.mem_def, List.append_nil] at hg; first | exact .inr ⟨ownL EOp 41 y1 y1b data4, Mm, hg⟩) rfl rfl rfl (q_pev rfl (fun _ => rfl)) ?_
          refine ra_q (.an (i := 4) (js := [5, 6, 7, 8, 9, 10, 11, 12, 13, 14, 15]) rfl Kr Kr Kr Kr) (SplitB.all _) (by intro g hg; simp only [List.mem_append, List.mem_singleton, List.not_mem_nil, or_false, false_or, Option.mem_toList, Option.mem_def, List.append_nil] at hg; first | exact .inr ⟨ownL EOp 41 y1 y1b data4, Mm, hg⟩) rfl rfl rfl (q_sub rfl rfl (fun _ => rfl) rfl (fun _ => rfl) (fun _ => by omega)) ?_
          refine Rb 5 [6,7,10,11,12,13] [8,9,14,15,16,17] rfl Qp ?_
          refine Rb 6 [10,11,12,13] [7,8,9,14,15,16,17] rfl Qp ?_
          refine Rb 7 [10,11,12,13] [8,9,14,15,16,17] rfl (q_sub rfl rfl (fun _ => rfl) rfl (fun _ => rfl) (fun _ => by omega)) ?_
          refine rw_qO EOp (e := 41) (X := y1) (b := y1b) (l := data4) Mm (.an (i := 8) (js := [10, 11, 12, 13]) rfl Kr Kr Kr Kr) rfl rfl rfl (q_idx EOp ((j1 - 1).toNat) rfl rfl (fun _ => rfl) rfl (fun _ => rfl) rfl rfl rfl (.head _) rfl (fun _ => by omega) (fun _ => by first | assumption | omega | (simp only [List.length_set]; omega))) ?_
          refine rw_qO EOp (e := 41) (X := y1) (b := y1b) (l := data4) Mm (.an (i := 9) (js := [10, 11, 12, 13]) rfl Kr Kr Kr Kr) rfl rfl rfl (q_leA EOp rfl rfl (fun _ => rfl) rfl rfl (.head _) (fun _ => by first | assumption | omega | (simp only [List.length_set]; omega))) ?_
          refine Rb 10 [11] [12,13,14,15,16,17] rfl Qp ?_
          refine Rb 11 [] [12,13,14,15,16,17] rfl Qp ?_
          refine rw_qO EOp (e := 41) (X := y1) (b := y1b) (l := data4) Mm (.ab (i := 12) (js := []) [13, 14, 15, 16, 17] rfl Kr Kr Kr Kr Kr) rfl rfl rfl (q_idx EOp j1.toNat rfl rfl (fun _ => rfl) rfl (fun _ => rfl) rfl rfl rfl (.head _) rfl (fun _ => by omega) (fun _ => by first | assumption | omega | (simp only [List.length_set]; omega))) ?_
          refine rw_qO EOp (e := 41) (X := y1) (b := y1b) (l := data4) Mm (.an (i := 13) (js := []) rfl Kr Kr Kr Kr) rfl rfl rfl (q_leA EOp rfl rfl (fun _ => rfl) rfl rfl (.head _) (fun _ => by first | assumption | omega | (simp only [List.length_set]; omega))) ?_
          refine rw_qO EOp (e := 41) (X := y1) (b := y1b) (l := data4) Mm (.an (i := 14) (js := []) rfl Kr Kr Kr Kr) rfl rfl rfl (q_idx EOp j1.toNat rfl rfl (fun _ => rfl) rfl (fun _ => rfl) rfl rfl rfl (.head _) rfl (fun _ => by omega) (fun _ => by first | assumption | omega | (simp only [List.length_set]; omega))) ?_
          refine ra_one 15 Kr ?_
          refine rw_stO EOp data4 j1.toNat 0 (gt data4 ((j1 - 1).toNat)) (e := 41) (X := y1) (b := y1b) (.an rfl rfl) (.inr (fun g h => by simp [h])) (guard_none rfl) rfl rfl rfl rfl rfl rfl rfl rfl rfl rfl rfl (by first | assumption | omega | (simp only [List.length_set]; omega)) rfl Uo ?_
          have hv1 : y1.val data4.length = y1.val (data4.set j1.toNat (gt data4 ((j1 - 1).toNat))).length := congrArg (SlV.val y1) List.length_set.symm
          try rw [hv1]
          refine rw_qO EOp (e := 41) (X := y1) (b := y1b) (l := (data4.set j1.toNat (gt data4 ((j1 - 1).toNat)))) Mm (.an (i := 16) (js := []) rfl Kr Kr Kr Kr) rfl rfl rfl (q_idx EOp ((j1 - 1).toNat) rfl rfl (fun _ => rfl) rfl (fun _ => rfl) rfl rfl rfl (.head _) rfl (fun _ => by omega) (fun _ => by first | assumption | omega | (simp only [List.length_set]; omega))) ?_
          refine ra_one 17 Kr ?_
          refine rw_stO EOp (data4.set j1.toNat (gt data4 ((j1 - 1).toNat))) ((j1 - 1).toNat) 0 (gt data4 j1.toNat) (e := 41) (X := y1) (b := y1b) (.an rfl rfl) (.inr (fun g h => by simp [h])) (guard_none rfl) rfl rfl rfl rfl rfl rfl rfl rfl rfl rfl rfl (by first | assumption | omega | (simp only [List.length_set]; omega)) rfl Uo ?_
          have hv2 : y1.val (data4.set j1.toNat (gt data4 ((j1 - 1).toNat))).length = y1.val ((data4.set j1.toNat (gt data4 ((j1 - 1).toNat))).set ((j1 - 1).toNat) (gt data4 j1.toNat)).length := congrArg (SlV.val y1) List.length_set.symm
          try rw [hv2]
          refine ra_nil Kr ?_
          refine Tx ?_
          refine rw_q rfl rfl rfl (q_sub rfl rfl (fun _ => rfl) rfl (fun _ => rfl) (fun _ => by omega)) ?_
          refine Tx ?_
          have hnx1 : ((j1 - 1) - a1).toNat + 1 = (j1 - a1).toNat + 1 - 1 := by omega
          refine ⟨⟨((data4.set j1.toNat (gt data4 ((j1 - 1).toNat))).set ((j1 - 1).toNat) (gt data4 j1.toNat)), (j1 - 1)⟩, ⟨(by simp only [List.length_append, List.length_cons, List.length_nil, List.length_set]; omega), (by rw [hnx1]; exact (by rw [← hf2]; (conv => lhs; rw [← hlt1_]); simp only [slices_insertionSortCmpFunc_Op_L1, hg1, hc2, Bool.true_and, Bool.and_true, cond_true, cond_false] : (slices_insertionSortCmpFunc_Op_L1 a1 cmp1 ((i1 - a1).toNat + 1) data2 i1) = (slices_insertionSortCmpFunc_Op_L1 a1 cmp1 ((j1 - a1).toNat + 1 - 1) ((data4.set j1.toNat (gt data4 ((j1 - 1).toNat))).set ((j1 - 1).toNat) (gt data4 j1.toNat)) (j1 - 1))).symm)⟩, (by simp only []; omega), Le5⟩
        · try simp only [hg1, Bool.true_and, Bool.and_true] at hc2
          refine Tx ?_
          have hv3 : (slices_insertionSortCmpFunc_Op_L1 a1 cmp1 ((i1 - a1).toNat + 1) data2 i1) = data4 := by rw [← hf2]; (conv => lhs; rw [← hlt1_]); simp only [slices_insertionSortCmpFunc_Op_L1, hg1, hc2, Bool.true_and, Bool.and_true, cond_true, cond_false]
          refine ⟨data4, ⟨(by omega), hv3.symm⟩, Le5⟩
      · have hg1p := of_decide_eq_false hg1
        refine rw_dead (.an rfl rfl) (guard_vt rfl rfl rfl) hg1 rfl rfl ?_
        refine Ga 15 [] rfl (guard_vt rfl rfl rfl) (q_dead (v := .bool false) hg1) ?_
        refine Ra 16 [] rfl (q_pev rfl Bt) ?_
        refine ra_nil Kr ?_
        (repeat refine cw_seq ?_)
        refine Cd (b := (decide (j1 > a1) && false)) (fun hc3 => ?_) fun hc3 => ?_
        · exact Bool.noConfusion (hc3.symm.trans ((by simp only [hg1, Bool.and_false, Bool.false_and, Bool.or_true, Bool.true_or, Bool.or_false, Bool.false_or, Bool.and_true, Bool.true_and, Bool.not_true, Bool.not_false]) : (decide (j1 > a1) && false) = false))
        · refine Tx ?_
          have hv4 : (slices_insertionSortCmpFunc_Op_L1 a1 cmp1 ((i1 - a1).toNat + 1) data2 i1) = data4 := by rw [← hf2]; (conv => lhs; rw [← hlt1_]); simp only [slices_insertionSortCmpFunc_Op_L1, hg1, Bool.true_and, Bool.and_true, cond_true, cond_false]
          refine ⟨data4, ⟨(by omega), hv4.symm⟩, Le5⟩
    · rintro data3 ⟨hjl, rfl⟩
      simp only [List.cons_append, List.nil_append]
      refine Tx ?_
      refine rw_q rfl rfl rfl (q_add rfl rfl (fun _ => rfl) rfl (fun _ => rfl) (fun _ => by omega)) ?_
      refine Tx ?_
      have hnx2 : (b1 - (i1 + 1)).toNat + 1 = (b1 - i1).toNat + 1 - 1 := by omega
      refine ⟨⟨((slices_insertionSortCmpFunc_Op_L1 a1 cmp1 ((i1 - a1).toNat + 1) data2 i1)), (i1 + 1)⟩, ⟨(by simp only [List.length_append, List.length_cons, List.length_nil, List.length_set]; omega), (by rw [hnx2]; exact (by rw [← hf1]; (conv => lhs; rw [← hlt0_]); simp only [slices_insertionSortCmpFunc_Op_L0, hc1, Bool.true_and, Bool.and_true, cond_true, cond_false] : (slices_insertionSortCmpFunc_Op data1 a1 b1 cmp1) = (slices_insertionSortCmpFunc_Op_L0 a1 b1 cmp1 ((b1 - i1).toNat + 1 - 1) ((slices_insertionSortCmpFunc_Op_L1 a1 cmp1 ((i1 - a1).toNat + 1) data2 i1)) (i1 + 1))).symm)⟩, (by simp only []; omega), Le5⟩
  · have hc1p := of_decide_eq_false hc1
    refine Tx ?_
    have hr1 : (slices_insertionSortCmpFunc_Op data1 a1 b1 cmp1) = data2 := by rw [← hf1]; (conv => lhs; rw [← hlt0_]); simp only [slices_insertionSortCmpFunc_Op_L0, hc1, Bool.true_and, Bool.and_true, cond_true, cond_false]
    rw [hr1]
    exact ⟨(), _, .nil, rfl, Sf, .nil _, Sp⟩

theorem IS_Op_L1 (cmp : Op → Op → Int) (P : List Op) : ∀ (r : List Op) (x : Op) (s : List Op) (f : Nat), r.length < f →
    slices_insertionSortCmpFunc_Op_L1 (P.length : Int) cmp f (P ++ (r.reverse ++ x :: s)) ((P.length + r.length : Nat) : Int) = P ++ insR (fun a b => decide (cmp a b < 0)) x r s
  | [], x, s, f + 1, _ => by
    rw [slices_insertionSortCmpFunc_Op_L1]
    simp [insR]
  | y :: r, x, s, f + 1, hf => by
    simp only [List.length_cons] at hf
    rw [slices_insertionSortCmpFunc_Op_L1]
    have h1 : decide (((P.length + (y :: r).length : Nat) : Int) > (P.length : Int)) = true := by simp; omega
    have e0 : (((P.length + (y :: r).length : Nat) : Int)).toNat = (P ++ (r.reverse ++ [y])).length := by simp; omega
    have e1 : (((P.length + (y :: r).length : Nat) : Int) - 1).toNat = (P ++ r.reverse).length := by simp; omega
    have d0 : P ++ ((y :: r).reverse ++ x :: s) = (P ++ (r.reverse ++ [y])) ++ x :: s := by simp
    have d1 : (P ++ (r.reverse ++ [y])) ++ x :: s = (P ++ r.reverse) ++ y :: (x :: s) := by simp
    have g0 : gt (P ++ ((y :: r).reverse ++ x :: s)) (((P.length + (y :: r).length : Nat) : Int)).toNat = x := by rw [d0]; exact gt_mid _ _ _ _ e0
    have g1 : gt (P ++ ((y :: r).reverse ++ x :: s)) (((P.length + (y :: r).length : Nat) : Int) - 1).toNat = y := by rw [d0, d1]; exact gt_mid _ _ _ _ e1
    rw [h1, g0, g1, cond_true, Bool.true_and, insR]
    cases hc : decide (cmp x y < 0) with
    | false => simp
    | true =>
      simp only [cond_true]
      rw [d0, set_mid _ _ _ _ _ e0, show (P ++ (r.reverse ++ [y])) ++ y :: s = (P ++ r.reverse) ++ y :: (y :: s) by simp, set_mid _ _ _ _ _ e1]
      have ih := IS_Op_L1 cmp P r x (y :: s) f (by omega)
      rw [show ((P.length + (y :: r).length : Nat) : Int) - 1 = ((P.length + r.length : Nat) : Int) by simp; omega, List.append_assoc]
      exact ih
theorem IS_Op_L0 (cmp : Op → Op → Int) (P S : List Op) (b : Int) : ∀ (rest acc : List Op) (f : Nat), b = ((P.length + acc.length + rest.length : Nat) : Int) → rest.length < f →
    slices_insertionSortCmpFunc_Op_L0 (P.length : Int) b cmp f (P ++ (acc ++ (rest ++ S))) ((P.length + acc.length : Nat) : Int) = P ++ (isort (fun a b => decide (cmp a b < 0)) acc rest ++ S)
  | [], acc, f + 1, hb, _ => by
    rw [slices_insertionSortCmpFunc_Op_L0]
    have : decide (((P.length + acc.length : Nat) : Int) < b) = false := by rw [hb]; simp
    rw [this, cond_false, isort]; simp
  | x :: rest, acc, f + 1, hb, hf => by
    simp only [List.length_cons] at hf hb
    rw [slices_insertionSortCmpFunc_Op_L0]
    have : decide (((P.length + acc.length : Nat) : Int) < b) = true := by rw [hb]; simp; omega
    have h1 := IS_Op_L1 cmp P acc.reverse x (rest ++ S) (((((P.length + acc.length : Nat) : Int) - (P.length : Int)).toNat) + 1) (by simp; omega)
    rw [List.reverse_reverse, List.length_reverse] at h1
    rw [this, cond_true, List.cons_append, h1, isort, insR_app]
    have hl : (insR (fun a b => decide (cmp a b < 0)) x acc.reverse []).length = acc.length + 1 := by rw [insR_len]; simp
    have ih := IS_Op_L0 cmp P S b rest (insR (fun a b => decide (cmp a b < 0)) x acc.reverse []) f (by rw [hb, hl]; simp; omega) (by omega)
    rw [hl] at ih
    rw [show ((P.length + acc.length : Nat) : Int) + 1 = ((P.length + (acc.length + 1) : Nat) : Int) by simp; omega]
    exact ih
theorem IS_Op (cmp : Op → Op → Int) (P M S : List Op) (a b : Int) (ha : a = (P.length : Int)) (hb : b = ((P.length + M.length : Nat) : Int)) :
    slices_insertionSortCmpFunc_Op (P ++ (M ++ S)) a b cmp = P ++ (isort (fun a b => decide (cmp a b < 0)) [] M ++ S) := by
  subst ha
  unfold slices_insertionSortCmpFunc_Op
  cases M with
  | nil =>
    rw [slices_insertionSortCmpFunc_Op_L0]
    have : decide ((P.length : Int) + 1 < b) = false := by rw [hb]; simp; omega
    rw [this, cond_false, isort]
  | cons x r =>
    have h1 := IS_Op_L0 cmp P S b r [x] ((b - ((P.length : Int) + 1)).toNat + 1) (by rw [hb]; simp; omega) (by rw [hb]; simp; omega)
    have e : isort (fun a b => decide (cmp a b < 0)) [] (x :: r) = isort (fun a b => decide (cmp a b < 0)) [x] r := rfl
    rw [e, ← h1]
    rfl

def slices_swapRangeCmpFunc_Op_L0 (a1 : Int) (b1 : Int) (n1 : Int) : Nat → (List Op) → Int → (List Op)
  | 0, data2, i1 => default
  | f_k0 + 1, data2, i1 => (bif decide (i1 < n1) then (slices_swapRangeCmpFunc_Op_L0 a1 b1 n1 f_k0 ((data2.set ((a1 + i1).toNat) (gt data2 ((b1 + i1).toNat))).set ((b1 + i1).toNat) (gt data2 ((a1 + i1).toNat))) (i1 + 1)) else data2)
def slices_swapRangeCmpFunc_Op (data1 : List Op) (a1 : Int) (b1 : Int) (n1 : Int) (cmp1 : Op → Op → Int) : List Op :=
  (slices_swapRangeCmpFunc_Op_L0 a1 b1 n1 ((n1 - 0).toNat + 1) data1 0)
theorem slices_swapRangeCmpFunc_Op_spec (y1 : SlV) (y1b : Option Nat) (data1 : List Op) (a1 : Int) (b1 : Int) (n1 : Int) (f1 : Nat) (caps1 : List Value) (pre1 : List Pred) [StabL pre1] (cmp1 : Op → Op → Int) (hfb1 : tab.fnb f1 = true) (hfn1 : ∀ (a0_ : Op) (a1_ : Op), Does Tryz.prog f1 ([.agg ⟨[.int .i64 a0_.time, .int .i64 a0_.who, .int .i64 a0_.node, .int .i64 a0_.parent, .int .i64 a0_.name, .int .i64 a0_.life, .int .i64 a0_.seq]⟩, .agg ⟨[.int .i64 a1_.time, .int .i64 a1_.who, .int .i64 a1_.node, .int .i64 a1_.parent, .int .i64 a1_.name, .int .i64 a1_.life, .int .i64 a1_.seq]⟩] ++ caps1) pre1 (fun (_ : Unit) => .int .i64 (cmp1 a0_ a1_)) (fun (_ : Unit) => [])) (hab : 0 ≤ a1 ∧ 0 ≤ b1 ∧ 0 ≤ n1 ∧ a1 + n1 ≤ (data1.length : Int) ∧ b1 + n1 ≤ (data1.length : Int)) : DoesG Tryz.prog 120 [y1.val data1.length, .int .i64 a1, .int .i64 b1, .int .i64 n1, .func (.func f1) #[] ⟨caps1⟩] (pre1) ⟨[], [ownL EOp 41 y1 y1b data1]⟩ (fun (_ : Unit) => .tuple #[]) (fun (_ : Unit) => []) (fun (_ : Unit) => ⟨[], [ownL EOp 41 y1 y1b (slices_swapRangeCmpFunc_Op data1 a1 b1 n1 cmp1)]⟩) := by
  refine does_ofG tab_ok Tryz.func120 rfl Tryz.ntmps120 Tryz.results120 rfl inferInstance (fun _ => inferInstance) fun C => ?_
  refine cw_lenO EOp (e := 41) (X := y1) (b := y1b) (l := data1) Mm fun hl63y1 hleny1 => ?_
  simp only [show EOp.by_ = 56 from rfl] at hleny1
  refine Tx ?_
  (repeat refine cw_seq ?_); refine Lp [1,2,3] [] (fun (i_ : List Op × Int) => match i_ with | ⟨data2, i1⟩ => (⟨[(0, .v (y1.val data2.length)), (10, .v (.int .i64 i1))], [], [ownL EOp 41 y1 y1b data2], [], (0 ≤ i1 ∧ i1 ≤ n1 ∧ data2.length = data1.length) ∧ (slices_swapRangeCmpFunc_Op_L0 a1 b1 n1 ((n1 - i1).toNat + 1) data2 i1) = (slices_swapRangeCmpFunc_Op data1 a1 b1 n1 cmp1), (n1 - i1).toNat + 1⟩ : Ls)) ⟨data1, 0⟩ (Sc (Sc (Sc Sn))) (.nil) ⟨(by first | exact Nat.le_refl _ | exact Nat.zero_le _ | omega), (by simp only [slices_swapRangeCmpFunc_Op, Bool.true_and, Bool.and_true, cond_true, cond_false] : (slices_swapRangeCmpFunc_Op data1 a1 b1 n1 cmp1) = (slices_swapRangeCmpFunc_Op_L0 a1 b1 n1 ((n1 - 0).toNat + 1) data1 0)).symm⟩ Le5 ?_
  rintro ⟨data2, i1⟩ ⟨hi, hf1⟩
  simp only [List.cons_append, List.nil_append]
  have hlt0_ : ((n1 - i1).toNat + 1 - 1) + 1 = (n1 - i1).toNat + 1 := by omega
  refine Tx ?_
  refine Cd (b := decide (i1 < n1)) (fun hc1 => ?_) fun hc1 => ?_
  · have hc1p := of_decide_eq_true hc1
    refine Tx ?_
    (repeat refine cw_seq ?_); refine cw_regionA (fun j => match j with | 21 => some y1b.toList | 23 => some y1b.toList | _ => some []) ?_
    refine Ra 0 [1,2,3,4,5,6,7,8,9,10,11,12,13,14,15,16,17,18,19] rfl Qp ?_
    refine Ra 1 [2,4,5,6,7,8,9,10,11,12,13,14,15,16,17,18,19] rfl Qp ?_
    refine Ra 2 [4,5,6,7,8,9,10,11,12,13,14,15,16,17,18,19] rfl Qp ?_
    refine Ra 3 [4,5,6,7,8,9,10,11,12,13,14,15,16,17,18,19] rfl (q_add rfl rfl (fun _ => rfl) rfl (fun _ => rfl) (fun _ => by omega)) ?_
    refine ra_q (.an (i := 4) (js := [5, 6, 7, 8, 9, 10, 11, 12, 13, 14, 15, 16, 17, 18, 19, 20, 21]) rfl Kr Kr Kr Kr) (SplitB.all _) (by intro g hg; simp only [List.mem_append, List.mem_singleton, List.not_mem_nil, or_false, false_or, Option.mem_toList, Option.mem_def, List.append_nil] at hg; first | exact .inr ⟨ownL EOp 41 y1 y1b data2, Mm, hg⟩) rfl rfl rfl (q_pev rfl (fun _ => rfl)) ?_
    refine ra_q (.an (i := 5) (js := [6, 8, 9, 10, 11, 12, 13, 14, 15, 16, 17, 18, 19, 20, 21]) rfl Kr Kr Kr Kr) (SplitB.all _) (by intro g hg; simp only [List.mem_append, List.mem_singleton, List.not_mem_nil, or_false, false_or, Option.mem_toList, Option.mem_def, List.append_nil] at hg; first | exact .inr ⟨ownL EOp 41 y1 y1b data2, Mm, hg⟩) rfl rfl rfl (q_pev rfl (fun _ => rfl)) ?_
    refine ra_q (.an (i := 6) (js := [8, 9, 10, 11, 12, 13, 14, 15, 16, 17, 18, 19, 20, 21]) rfl Kr Kr Kr Kr) (SplitB.all _) (by intro g hg; simp only [List.mem_append, List.mem_singleton, List.not_mem_nil, or_false, false_or, Option.mem_toList, Option.mem_def, List.append_nil] at hg; first | exact .inr ⟨ownL EOp 41 y1 y1b data2, Mm, hg⟩) rfl rfl rfl (q_pev rfl (fun _ => rfl)) ?_
    refine ra_q (.an (i := 7) (js := [8, 9, 10, 11, 12, 13, 14, 15, 16, 17, 18, 19, 20, 21]) rfl Kr Kr Kr Kr) (SplitB.all _) (by intro g hg; simp only [List.mem_append, List.mem_singleton, List.not_mem_nil, or_false, false_or, Option.mem_toList, Option.mem_def, List.append_nil] at hg; first | exact .inr ⟨ownL EOp 41 y1 y1b data2, Mm, hg⟩) rfl rfl rfl (q_add rfl rfl (fun _ => rfl) rfl (fun _ => rfl) (fun _ => by omega)) ?_
    refine Rb 8 [9,10,11,14,15,16,17,18,19] [12,13,20,21,22,23] rfl Qp ?_
    refine Rb 9 [10,14,15,16,17,18,19] [11,12,13,20,21,22,23] rfl Qp ?_
    refine Rb 10 [14,15,16,17,18,19] [11,12,13,20,21,22,23] rfl Qp ?_
    refine Rb 11 [14,15,16,17,18,19] [12,13,20,21,22,23] rfl (q_add rfl rfl (fun _ => rfl) rfl (fun _ => rfl) (fun _ => by omega)) ?_
    refine rw_qO EOp (e := 41) (X := y1) (b := y1b) (l := data2) Mm (.an (i := 12) (js := [14, 15, 16, 17, 18, 19]) rfl Kr Kr Kr Kr) rfl rfl rfl (q_idx EOp ((b1 + i1).toNat) rfl rfl (fun _ => rfl) rfl (fun _ => rfl) rfl rfl rfl (.head _) rfl (fun _ => by omega) (fun _ => by first | assumption | omega | (simp only [List.length_set]; omega))) ?_
    refine rw_qO EOp (e := 41) (X := y1) (b := y1b) (l := data2) Mm (.an (i := 13) (js := [14, 15, 16, 17, 18, 19]) rfl Kr Kr Kr Kr) rfl rfl rfl (q_leA EOp rfl rfl (fun _ => rfl) rfl rfl (.head _) (fun _ => by first | assumption | omega | (simp only [List.length_set]; omega))) ?_
    refine Rb 14 [15,16,17] [18,19,20,21,22,23] rfl Qp ?_
    refine Rb 15 [16] [17,18,19,20,21,22,23] rfl Qp ?_
    refine Rb 16 [] [17,18,19,20,21,22,23] rfl Qp ?_
    refine Rb 17 [] [18,19,20,21,22,23] rfl (q_add rfl rfl (fun _ => rfl) rfl (fun _ => rfl) (fun _ => by omega)) ?_
    refine rw_qO EOp (e := 41) (X := y1) (b := y1b) (l := data2) Mm (.ab (i := 18) (js := []) [19, 20, 21, 22, 23] rfl Kr Kr Kr Kr Kr) rfl rfl rfl (q_idx EOp ((a1 + i1).toNat) rfl rfl (fun _ => rfl) rfl (fun _ => rfl) rfl rfl rfl (.head _) rfl (fun _ => by omega) (fun _ => by first | assumption | omega | (simp only [List.length_set]; omega))) ?_
    refine rw_qO EOp (e := 41) (X := y1) (b := y1b) (l := data2) Mm (.an (i := 19) (js := []) rfl Kr Kr Kr Kr) rfl rfl rfl (q_leA EOp rfl rfl (fun _ => rfl) rfl rfl (.head _) (fun _ => by first | assumption | omega | (simp only [List.length_set]; omega))) ?_
    refine rw_qO EOp (e := 41) (X := y1) (b := y1b) (l := data2) Mm (.an (i := 20) (js := []) rfl Kr Kr Kr Kr) rfl rfl rfl (q_idx EOp ((a1 + i1).toNat) rfl rfl (fun _ => rfl) rfl (fun _ => rfl) rfl rfl rfl (.head _) rfl (fun _ => by omega) (fun _ => by first | assumption | omega | (simp only [List.length_set]; omega))) ?_
    refine ra_one 21 Kr ?_
    refine rw_stO EOp data2 ((a1 + i1).toNat) 0 (gt data2 ((b1 + i1).toNat)) (e := 41) (X := y1) (b := y1b) (.an rfl rfl) (.inr (fun g h => by simp [h])) (guard_none rfl) rfl rfl rfl rfl rfl rfl rfl rfl rfl rfl rfl (by first | assumption | omega | (simp only [List.length_set]; omega)) rfl Uo ?_
    have hv1 : y1.val data2.length = y1.val (data2.set ((a1 + i1).toNat) (gt data2 ((b1 + i1).toNat))).length := congrArg (SlV.val y1) List.length_set.symm
    try rw [hv1]
    refine rw_qO EOp (e := 41) (X := y1) (b := y1b) (l := (data2.set ((a1 + i1).toNat) (gt data2 ((b1 + i1).toNat)))) Mm (.an (i := 22) (js := []) rfl Kr Kr Kr Kr) rfl rfl rfl (q_idx EOp ((b1 + i1).toNat) rfl rfl (fun _ => rfl) rfl (fun _ => rfl) rfl rfl rfl (.head _) rfl (fun _ => by omega) (fun _ => by first | assumption | omega | (simp only [List.length_set]; omega))) ?_
    refine ra_one 23 Kr ?_
    refine rw_stO EOp (data2.set ((a1 + i1).toNat) (gt data2 ((b1 + i1).toNat))) ((b1 + i1).toNat) 0 (gt data2 ((a1 + i1).toNat)) (e := 41) (X := y1) (b := y1b) (.an rfl rfl) (.inr (fun g h => by simp [h])) (guard_none rfl) rfl rfl rfl rfl rfl rfl rfl rfl rfl rfl rfl (by first | assumption | omega | (simp only [List.length_set]; omega)) rfl Uo ?_
    have hv2 : y1.val (data2.set ((a1 + i1).toNat) (gt data2 ((b1 + i1).toNat))).length = y1.val ((data2.set ((a1 + i1).toNat) (gt data2 ((b1 + i1).toNat))).set ((b1 + i1).toNat) (gt data2 ((a1 + i1).toNat))).length := congrArg (SlV.val y1) List.length_set.symm
    try rw [hv2]
    refine ra_nil Kr ?_
    refine Tx ?_
    refine rw_q rfl rfl rfl (q_add rfl rfl (fun _ => rfl) rfl (fun _ => rfl) (fun _ => by omega)) ?_
    refine Tx ?_
    have hnx1 : (n1 - (i1 + 1)).toNat + 1 = (n1 - i1).toNat + 1 - 1 := by omega
    refine ⟨⟨((data2.set ((a1 + i1).toNat) (gt data2 ((b1 + i1).toNat))).set ((b1 + i1).toNat) (gt data2 ((a1 + i1).toNat))), (i1 + 1)⟩, ⟨(by simp only [List.length_append, List.length_cons, List.length_nil, List.length_set]; omega), (by rw [hnx1]; exact (by rw [← hf1]; (conv => lhs; rw [← hlt0_]); simp only [slices_swapRangeCmpFunc_Op_L0, hc1, Bool.true_and, Bool.and_true, cond_true, cond_false] : (slices_swapRangeCmpFunc_Op data1 a1 b1 n1 cmp1) = (slices_swapRangeCmpFunc_Op_L0 a1 b1 n1 ((n1 - i1).toNat + 1 - 1) ((data2.set ((a1 + i1).toNat) (gt data2 ((b1 + i1).toNat))).set ((b1 + i1).toNat) (gt data2 ((a1 + i1).toNat))) (i1 + 1))).symm)⟩, (by simp only []; omega), Le5⟩
  · have hc1p := of_decide_eq_false hc1
    refine Tx ?_
    have hr1 : (slices_swapRangeCmpFunc_Op data1 a1 b1 n1 cmp1) = data2 := by rw [← hf1]; (conv => lhs; rw [← hlt0_]); simp only [slices_swapRangeCmpFunc_Op_L0, hc1, Bool.true_and, Bool.and_true, cond_true, cond_false]
    rw [hr1]
    exact ⟨(), _, .nil, rfl, Sf, .nil _, Sp⟩

theorem SR_Op_L0_len (a b n : Int) : ∀ (f : Nat) (data : List Op) (i : Int), (n - i).toNat < f → (slices_swapRangeCmpFunc_Op_L0 a b n f data i).length = data.length
  | 0, _, _, h => by omega
  | f + 1, data, i, h => by
    rw [slices_swapRangeCmpFunc_Op_L0]
    cases hc : decide (i < n) with
    | true =>
      have hc := of_decide_eq_true hc
      simp only [cond_true]
      rw [SR_Op_L0_len a b n f _ _ (by omega)]; simp
    | false => rfl
theorem SR_Op_len (data : List Op) (a b n : Int) (cmp : Op → Op → Int) : (slices_swapRangeCmpFunc_Op data a b n cmp).length = data.length := SR_Op_L0_len a b n _ data 0 (by omega)

def slices_rotateCmpFunc_Op_L0 (m1 : Int) (cmp1 : Op → Op → Int) : Nat → (List Op) → Int → Int → (List Op)
  | 0, data2, i1, j1 => default
  | f_k0 + 1, data2, i1, j1 => (bif (i1 != j1) then (bif decide (i1 > j1) then (slices_rotateCmpFunc_Op_L0 m1 cmp1 f_k0 (slices_swapRangeCmpFunc_Op data2 (m1 - i1) m1 j1 cmp1) (i1 - j1) j1) else (slices_rotateCmpFunc_Op_L0 m1 cmp1 f_k0 (slices_swapRangeCmpFunc_Op data2 (m1 - i1) ((m1 + j1) - i1) i1 cmp1) i1 (j1 - i1))) else (slices_swapRangeCmpFunc_Op data2 (m1 - i1) m1 i1 cmp1))
def slices_rotateCmpFunc_Op (data1 : List Op) (a1 : Int) (m1 : Int) (b1 : Int) (cmp1 : Op → Op → Int) : List Op :=
  (slices_rotateCmpFunc_Op_L0 m1 cmp1 ((b1 - a1).toNat + 1) data1 (m1 - a1) (b1 - m1))
theorem slices_rotateCmpFunc_Op_spec (y1 : SlV) (y1b : Option Nat) (data1 : List Op) (a1 : Int) (m1 : Int) (b1 : Int) (f1 : Nat) (caps1 : List Value) (pre1 : List Pred) [StabL pre1] (cmp1 : Op → Op → Int) (hfb1 : tab.fnb f1 = true) (hfn1 : ∀ (a0_ : Op) (a1_ : Op), Does Tryz.prog f1 ([.agg ⟨[.int .i64 a0_.time, .int .i64 a0_.who, .int .i64 a0_.node, .int .i64 a0_.parent, .int .i64 a0_.name, .int .i64 a0_.life, .int .i64 a0_.seq]⟩, .agg ⟨[.int .i64 a1_.time, .int .i64 a1_.who, .int .i64 a1_.node, .int .i64 a1_.parent, .int .i64 a1_.name, .int .i64 a1_.life, .int .i64 a1_.seq]⟩] ++ caps1) pre1 (fun (_ : Unit) => .int .i64 (cmp1 a0_ a1_)) (fun (_ : Unit) => [])) (hab : 0 ≤ a1 ∧ a1 < m1 ∧ m1 < b1 ∧ b1 ≤ (data1.length : Int)) : DoesG Tryz.prog 114 [y1.val data1.length, .int .i64 a1, .int .i64 m1, .int .i64 b1, .func (.func f1) #[] ⟨caps1⟩] (pre1) ⟨[], [ownL EOp 41 y1 y1b data1]⟩ (fun (_ : Unit) => .tuple #[]) (fun (_ : Unit) => []) (fun (_ : Unit) => ⟨[], [ownL EOp 41 y1 y1b (slices_rotateCmpFunc_Op data1 a1 m1 b1 cmp1)]⟩) := by
  refine does_ofG tab_ok Tryz.func114 rfl Tryz.ntmps114 Tryz.results114 rfl inferInstance (fun _ => inferInstance) fun C => ?_
  refine cw_lenO EOp (e := 41) (X := y1) (b := y1b) (l := data1) Mm fun hl63y1 hleny1 => ?_
  simp only [show EOp.by_ = 56 from rfl] at hleny1
  refine Tx ?_
  refine rw_q rfl rfl rfl (q_sub rfl rfl (fun _ => rfl) rfl (fun _ => rfl) (fun _ => by omega)) ?_
  refine Tx ?_
  refine rw_q rfl rfl rfl (q_sub rfl rfl (fun _ => rfl) rfl (fun _ => rfl) (fun _ => by omega)) ?_
  refine Tx ?_
  (repeat refine cw_seq ?_); refine Lp [2,4] [] (fun (i_ : List Op × Int × Int × Nat) => match i_ with | ⟨data2, i1, j1, fz1⟩ => (⟨[(0, .v (y1.val data2.length)), (10, .v (.int .i64 i1)), (11, .v (.int .i64 j1))], [], [ownL EOp 41 y1 y1b data2], [], (1 ≤ i1 ∧ i1 ≤ m1 - a1 ∧ 1 ≤ j1 ∧ j1 ≤ b1 - m1 ∧ data2.length = data1.length) ∧ ((i1 + j1).toNat < fz1) ∧ (slices_rotateCmpFunc_Op_L0 m1 cmp1 (fz1) data2 i1 j1) = (slices_rotateCmpFunc_Op data1 a1 m1 b1 cmp1), fz1⟩ : Ls)) ⟨data1, (m1 - a1), (b1 - m1), (b1 - a1).toNat + 1⟩ (Sc (Sc Sn)) (.nil) ⟨(by first | exact Nat.le_refl _ | exact Nat.zero_le _ | omega), (by first | exact Nat.le_refl _ | exact Nat.zero_le _ | omega), (by simp only [slices_rotateCmpFunc_Op, Bool.true_and, Bool.and_true, cond_true, cond_false] : (slices_rotateCmpFunc_Op data1 a1 m1 b1 cmp1) = (slices_rotateCmpFunc_Op_L0 m1 cmp1 ((b1 - a1).toNat + 1) data1 (m1 - a1) (b1 - m1))).symm⟩ Le5 ?_
  rintro ⟨data2, i1, j1, fz1⟩ ⟨hi, hzfz1, hf1⟩
  simp only [List.cons_append, List.nil_append]
  have hlt0_ : (fz1 - 1) + 1 = fz1 := by omega
  refine Tx ?_
  refine Cd (b := (i1 != j1)) (fun hc1 => ?_) fun hc1 => ?_
  · have hc1p := bne_iff_ne.1 hc1
    refine Tx ?_
    refine Cd (b := decide (i1 > j1)) (fun hc2 => ?_) fun hc2 => ?_
    · have hc2p := of_decide_eq_true hc2
      refine Tx ?_
      refine rw_q rfl rfl rfl (q_sub rfl rfl (fun _ => rfl) rfl (fun _ => rfl) (fun _ => by omega)) ?_
      refine Tx ?_
      refine rw_callG (slices_swapRangeCmpFunc_Op_spec y1 y1b data2 (m1 - i1) m1 j1 _ _ _ cmp1 (by assumption) hfn1 (by omega)) .sq (.inl ⟨_, rfl⟩) (guard_none rfl) rfl rfl rfl Kr rfl rfl Sf (.nil _) (by first | exact .cons (.here _ _) (.nil _) | exact .cons (.there _ (.here _ _)) (.nil _) | exact .cons (.there _ (.there _ (.here _ _))) (.nil _) | exact .cons (.there _ (.there _ (.there _ (.here _ _)))) (.nil _)) ?_
      intro _
      have hv1l : data2.length = (slices_swapRangeCmpFunc_Op data2 (m1 - i1) m1 j1 cmp1).length := (SR_Op_len data2 (m1 - i1) m1 j1 cmp1).symm
      have hv1 : y1.val data2.length = y1.val (slices_swapRangeCmpFunc_Op data2 (m1 - i1) m1 j1 cmp1).length := congrArg (SlV.val y1) hv1l
      try rw [hv1]
      refine Tx ?_
      refine rw_q rfl rfl rfl (q_sub rfl rfl (fun _ => rfl) rfl (fun _ => rfl) (fun _ => by omega)) ?_
      refine Tx ?_
      refine ⟨⟨(slices_swapRangeCmpFunc_Op data2 (m1 - i1) m1 j1 cmp1), (i1 - j1), j1, (fz1 - 1)⟩, ⟨(by simp only [SR_Op_len]; omega), (by (try simp only []); first | omega | (simp only [List.length_append, List.length_cons, List.length_nil]; omega)), (by rw [← hf1]; (conv => lhs; rw [← hlt0_]); simp only [slices_rotateCmpFunc_Op_L0, hc1, hc2, Bool.true_and, Bool.and_true, cond_true, cond_false] : (slices_rotateCmpFunc_Op data1 a1 m1 b1 cmp1) = (slices_rotateCmpFunc_Op_L0 m1 cmp1 (fz1 - 1) (slices_swapRangeCmpFunc_Op data2 (m1 - i1) m1 j1 cmp1) (i1 - j1) j1)).symm⟩, (by simp only []; omega), Le5⟩
    · have hc2p := of_decide_eq_false hc2
      refine Tx ?_
      refine rw_q rfl rfl rfl (q_sub rfl rfl (fun _ => rfl) rfl (fun _ => rfl) (fun _ => by omega)) ?_
      refine Tx ?_
      refine rw_q rfl rfl rfl (q_add rfl rfl (fun _ => rfl) rfl (fun _ => rfl) (fun _ => by omega)) ?_
      refine Rp rfl rfl rfl rfl ?_
      refine rw_q rfl rfl rfl (q_sub rfl rfl (fun _ => rfl) rfl (fun _ => rfl) (fun _ => by omega)) ?_
      refine Tx ?_
      refine rw_callG (slices_swapRangeCmpFunc_Op_spec y1 y1b data2 (m1 - i1) ((m1 + j1) - i1) i1 _ _ _ cmp1 (by assumption) hfn1 (by omega)) .sq (.inl ⟨_, rfl⟩) (guard_none rfl) rfl rfl rfl Kr rfl rfl Sf (.nil _) (by first | exact .cons (.here _ _) (.nil _) | exact .cons (.there _ (.here _ _)) (.nil _) | exact .cons (.there _ (.there _ (.here _ _))) (.nil _) | exact .cons (.there _ (.there _ (.there _ (.here _ _)))) (.nil _)) ?_
      intro _
      have hv2l : data2.length = (slices_swapRangeCmpFunc_Op data2 (m1 - i1) ((m1 + j1) - i1) i1 cmp1).length := (SR_Op_len data2 (m1 - i1) ((m1 + j1) - i1) i1 cmp1).symm
      have hv2 : y1.val data2.length = y1.val (slices_swapRangeCmpFunc_Op data2 (m1 - i1) ((m1 + j1) - i1) i1 cmp1).length := congrArg (SlV.val y1) hv2l
      try rw [hv2]
      refine Tx ?_
      refine rw_q rfl rfl rfl (q_sub rfl rfl (fun _ => rfl) rfl (fun _ => rfl) (fun _ => by omega)) ?_
      refine Tx ?_
      refine ⟨⟨(slices_swapRangeCmpFunc_Op data2 (m1 - i1) ((m1 + j1) - i1) i1 cmp1), i1, (j1 - i1), (fz1 - 1)⟩, ⟨(by simp only [SR_Op_len]; omega), (by (try simp only []); first | omega | (simp only [List.length_append, List.length_cons, List.length_nil]; omega)), (by rw [← hf1]; (conv => lhs; rw [← hlt0_]); simp only [slices_rotateCmpFunc_Op_L0, hc1, hc2, Bool.true_and, Bool.and_true, cond_true, cond_false] : (slices_rotateCmpFunc_Op data1 a1 m1 b1 cmp1) = (slices_rotateCmpFunc_Op_L0 m1 cmp1 (fz1 - 1) (slices_swapRangeCmpFunc_Op data2 (m1 - i1) ((m1 + j1) - i1) i1 cmp1) i1 (j1 - i1))).symm⟩, (by simp only []; omega), Le5⟩
  · have hc1p := eq_of_bne_false hc1
    refine Tx ?_
    refine rw_q rfl rfl rfl (q_sub rfl rfl (fun _ => rfl) rfl (fun _ => rfl) (fun _ => by omega)) ?_
    refine Tx ?_
    refine rw_callG (slices_swapRangeCmpFunc_Op_spec y1 y1b data2 (m1 - i1) m1 i1 _ _ _ cmp1 (by assumption) hfn1 (by omega)) .sq (.inl ⟨_, rfl⟩) (guard_none rfl) rfl rfl rfl Kr rfl rfl Sf (.nil _) (by first | exact .cons (.here _ _) (.nil _) | exact .cons (.there _ (.here _ _)) (.nil _) | exact .cons (.there _ (.there _ (.here _ _))) (.nil _) | exact .cons (.there _ (.there _ (.there _ (.here _ _)))) (.nil _)) ?_
    intro _
    have hv3l : data2.length = (slices_swapRangeCmpFunc_Op data2 (m1 - i1) m1 i1 cmp1).length := (SR_Op_len data2 (m1 - i1) m1 i1 cmp1).symm
    have hv3 : y1.val data2.length = y1.val (slices_swapRangeCmpFunc_Op data2 (m1 - i1) m1 i1 cmp1).length := congrArg (SlV.val y1) hv3l
    try rw [hv3]
    refine rw_nil ?_
    have hr1 : (slices_rotateCmpFunc_Op data1 a1 m1 b1 cmp1) = (slices_swapRangeCmpFunc_Op data2 (m1 - i1) m1 i1 cmp1) := by rw [← hf1]; (conv => lhs; rw [← hlt0_]); simp only [slices_rotateCmpFunc_Op_L0, hc1, Bool.true_and, Bool.and_true, cond_true, cond_false]
    rw [hr1]
    exact ⟨(), _, .nil, rfl, Sf, .nil _, Sp⟩

theorem RT_Op_L0_len (m : Int) (cmp : Op → Op → Int) : ∀ (f : Nat) (data : List Op) (i j : Int), 1 ≤ i → 1 ≤ j → (i + j).toNat < f → (slices_rotateCmpFunc_Op_L0 m cmp f data i j).length = data.length
  | 0, _, _, _, _, _, h => by omega
  | f + 1, data, i, j, hi, hj, h => by
    rw [slices_rotateCmpFunc_Op_L0]
    cases hc : (i != j) with
    | true =>
      have hc := bne_iff_ne.1 hc
      simp only [cond_true]
      cases hd : decide (i > j) with
      | true =>
        have hd := of_decide_eq_true hd
        simp only [cond_true]
        rw [RT_Op_L0_len m cmp f _ _ _ (by omega) hj (by omega), SR_Op_len]
      | false =>
        have hd := of_decide_eq_false hd
        simp only [cond_false]
        rw [RT_Op_L0_len m cmp f _ _ _ hi (by omega) (by omega), SR_Op_len]
    | false => simp only [cond_false]; rw [SR_Op_len]
theorem RT_Op_len (data : List Op) (a m b : Int) (cmp : Op → Op → Int) (h : a < m ∧ m < b) : (slices_rotateCmpFunc_Op data a m b cmp).length = data.length := RT_Op_L0_len m cmp _ data _ _ (by omega) (by omega) (by omega)

def slices_symMergeCmpFunc_Op_L4 (data1 : List Op) (a1 : Int) (m1 : Int) (b1 : Int) (cmp1 : Op → Op → Int) : Nat → Int → Int → Int
  | 0, start3, r2 => default
  | f_k4 + 1, start3, r2 => (bif decide (start3 < r2) then (bif (!(decide ((cmp1 (gt data1 ((((((a1 + b1) / 2) + m1) - 1) - ((start3 + r2) / 2)).toNat)) (gt data1 (((start3 + r2) / 2).toNat))) < 0))) then (slices_symMergeCmpFunc_Op_L4 data1 a1 m1 b1 cmp1 f_k4 (((start3 + r2) / 2) + 1) r2) else (slices_symMergeCmpFunc_Op_L4 data1 a1 m1 b1 cmp1 f_k4 start3 ((start3 + r2) / 2))) else start3)
def slices_symMergeCmpFunc_Op_V8 (a1 : Int) (m1 : Int) (b1 : Int) : Int × Int :=
  (bif decide (m1 > ((a1 + b1) / 2)) then (((((a1 + b1) / 2) + m1) - b1), ((a1 + b1) / 2)) else (a1, m1))
def slices_symMergeCmpFunc_Op_V11 (data1 : List Op) (a1 : Int) (m1 : Int) (b1 : Int) (cmp1 : Op → Op → Int) : List Op :=
  (bif (decide (((slices_symMergeCmpFunc_Op_L4 data1 a1 m1 b1 cmp1 ((b1 - a1).toNat + 1) (((slices_symMergeCmpFunc_Op_V8 a1 m1 b1)).1) (((slices_symMergeCmpFunc_Op_V8 a1 m1 b1)).2))) < m1) && decide (m1 < ((((a1 + b1) / 2) + m1) - ((slices_symMergeCmpFunc_Op_L4 data1 a1 m1 b1 cmp1 ((b1 - a1).toNat + 1) (((slices_symMergeCmpFunc_Op_V8 a1 m1 b1)).1) (((slices_symMergeCmpFunc_Op_V8 a1 m1 b1)).2)))))) then (slices_rotateCmpFunc_Op data1 ((slices_symMergeCmpFunc_Op_L4 data1 a1 m1 b1 cmp1 ((b1 - a1).toNat + 1) (((slices_symMergeCmpFunc_Op_V8 a1 m1 b1)).1) (((slices_symMergeCmpFunc_Op_V8 a1 m1 b1)).2))) m1 ((((a1 + b1) / 2) + m1) - ((slices_symMergeCmpFunc_Op_L4 data1 a1 m1 b1 cmp1 ((b1 - a1).toNat + 1) (((slices_symMergeCmpFunc_Op_V8 a1 m1 b1)).1) (((slices_symMergeCmpFunc_Op_V8 a1 m1 b1)).2)))) cmp1) else data1)
def slices_symMergeCmpFunc_Op_L3 (i2 : Int) : Nat → (List Op) → Int → (List Op)
  | 0, data3, k2 => default
  | f_k3 + 1, data3, k2 => (bif decide (k2 > i2) then (slices_symMergeCmpFunc_Op_L3 i2 f_k3 ((data3.set k2.toNat (gt data3 ((k2 - 1).toNat))).set ((k2 - 1).toNat) (gt data3 k2.toNat)) (k2 - 1)) else data3)
def slices_symMergeCmpFunc_Op_L2 (data1 : List Op) (a1 : Int) (m1 : Int) (cmp1 : Op → Op → Int) : Nat → Int → Int → (List Op)
  | 0, i2, j2 => default
  | f_k2 + 1, i2, j2 => (bif decide (i2 < j2) then (bif (!(decide ((cmp1 (gt data1 m1.toNat) (gt data1 (((i2 + j2) / 2).toNat))) < 0))) then (slices_symMergeCmpFunc_Op_L2 data1 a1 m1 cmp1 f_k2 (((i2 + j2) / 2) + 1) j2) else (slices_symMergeCmpFunc_Op_L2 data1 a1 m1 cmp1 f_k2 i2 ((i2 + j2) / 2))) else (slices_symMergeCmpFunc_Op_L3 i2 ((m1 - a1).toNat + 1) data1 m1))
def slices_symMergeCmpFunc_Op_L1 (i1 : Int) : Nat → (List Op) → Int → (List Op)
  | 0, data2, k1 => default
  | f_k1 + 1, data2, k1 => (bif decide (k1 < (i1 - 1)) then (slices_symMergeCmpFunc_Op_L1 i1 f_k1 ((data2.set k1.toNat (gt data2 ((k1 + 1).toNat))).set ((k1 + 1).toNat) (gt data2 k1.toNat)) (k1 + 1)) else data2)
def slices_symMergeCmpFunc_Op_L0 (data1 : List Op) (a1 : Int) (b1 : Int) (cmp1 : Op → Op → Int) : Nat → Int → Int → (List Op)
  | 0, i1, j1 => default
  | f_k0 + 1, i1, j1 => (bif decide (i1 < j1) then (bif decide ((cmp1 (gt data1 (((i1 + j1) / 2).toNat)) (gt data1 a1.toNat)) < 0) then (slices_symMergeCmpFunc_Op_L0 data1 a1 b1 cmp1 f_k0 (((i1 + j1) / 2) + 1) j1) else (slices_symMergeCmpFunc_Op_L0 data1 a1 b1 cmp1 f_k0 i1 ((i1 + j1) / 2))) else (slices_symMergeCmpFunc_Op_L1 i1 ((b1 - a1).toNat + 1) data1 a1))
def slices_symMergeCmpFunc_Op : Nat → (List Op) → Int → Int → Int → (Op → Op → Int) → (List Op)
  | 0, _, _, _, _, _ => default
  | k_ + 1, data1, a1, m1, b1, cmp1 => (bif ((m1 - a1) == 1) then (slices_symMergeCmpFunc_Op_L0 data1 a1 b1 cmp1 ((b1 - m1).toNat + 1) m1 b1) else (bif ((b1 - m1) == 1) then (slices_symMergeCmpFunc_Op_L2 data1 a1 m1 cmp1 ((m1 - a1).toNat + 1) a1 m1) else (bif (decide (a1 < ((slices_symMergeCmpFunc_Op_L4 data1 a1 m1 b1 cmp1 ((b1 - a1).toNat + 1) (((slices_symMergeCmpFunc_Op_V8 a1 m1 b1)).1) (((slices_symMergeCmpFunc_Op_V8 a1 m1 b1)).2)))) && decide (((slices_symMergeCmpFunc_Op_L4 data1 a1 m1 b1 cmp1 ((b1 - a1).toNat + 1) (((slices_symMergeCmpFunc_Op_V8 a1 m1 b1)).1) (((slices_symMergeCmpFunc_Op_V8 a1 m1 b1)).2))) < ((a1 + b1) / 2))) then (bif (decide (((a1 + b1) / 2) < ((((a1 + b1) / 2) + m1) - ((slices_symMergeCmpFunc_Op_L4 data1 a1 m1 b1 cmp1 ((b1 - a1).toNat + 1) (((slices_symMergeCmpFunc_Op_V8 a1 m1 b1)).1) (((slices_symMergeCmpFunc_Op_V8 a1 m1 b1)).2))))) && decide (((((a1 + b1) / 2) + m1) - ((slices_symMergeCmpFunc_Op_L4 data1 a1 m1 b1 cmp1 ((b1 - a1).toNat + 1) (((slices_symMergeCmpFunc_Op_V8 a1 m1 b1)).1) (((slices_symMergeCmpFunc_Op_V8 a1 m1 b1)).2)))) < b1)) then (slices_symMergeCmpFunc_Op k_ (slices_symMergeCmpFunc_Op k_ ((slices_symMergeCmpFunc_Op_V11 data1 a1 m1 b1 cmp1)) a1 ((slices_symMergeCmpFunc_Op_L4 data1 a1 m1 b1 cmp1 ((b1 - a1).toNat + 1) (((slices_symMergeCmpFunc_Op_V8 a1 m1 b1)).1) (((slices_symMergeCmpFunc_Op_V8 a1 m1 b1)).2))) ((a1 + b1) / 2) cmp1) ((a1 + b1) / 2) ((((a1 + b1) / 2) + m1) - ((slices_symMergeCmpFunc_Op_L4 data1 a1 m1 b1 cmp1 ((b1 - a1).toNat + 1) (((slices_symMergeCmpFunc_Op_V8 a1 m1 b1)).1) (((slices_symMergeCmpFunc_Op_V8 a1 m1 b1)).2)))) b1 cmp1) else (slices_symMergeCmpFunc_Op k_ ((slices_symMergeCmpFunc_Op_V11 data1 a1 m1 b1 cmp1)) a1 ((slices_symMergeCmpFunc_Op_L4 data1 a1 m1 b1 cmp1 ((b1 - a1).toNat + 1) (((slices_symMergeCmpFunc_Op_V8 a1 m1 b1)).1) (((slices_symMergeCmpFunc_Op_V8 a1 m1 b1)).2))) ((a1 + b1) / 2) cmp1)) else (bif (decide (((a1 + b1) / 2) < ((((a1 + b1) / 2) + m1) - ((slices_symMergeCmpFunc_Op_L4 data1 a1 m1 b1 cmp1 ((b1 - a1).toNat + 1) (((slices_symMergeCmpFunc_Op_V8 a1 m1 b1)).1) (((slices_symMergeCmpFunc_Op_V8 a1 m1 b1)).2))))) && decide (((((a1 + b1) / 2) + m1) - ((slices_symMergeCmpFunc_Op_L4 data1 a1 m1 b1 cmp1 ((b1 - a1).toNat + 1) (((slices_symMergeCmpFunc_Op_V8 a1 m1 b1)).1) (((slices_symMergeCmpFunc_Op_V8 a1 m1 b1)).2)))) < b1)) then (slices_symMergeCmpFunc_Op k_ ((slices_symMergeCmpFunc_Op_V11 data1 a1 m1 b1 cmp1)) ((a1 + b1) / 2) ((((a1 + b1) / 2) + m1) - ((slices_symMergeCmpFunc_Op_L4 data1 a1 m1 b1 cmp1 ((b1 - a1).toNat + 1) (((slices_symMergeCmpFunc_Op_V8 a1 m1 b1)).1) (((slices_symMergeCmpFunc_Op_V8 a1 m1 b1)).2)))) b1 cmp1) else ((slices_symMergeCmpFunc_Op_V11 data1 a1 m1 b1 cmp1))))))
theorem SM_Op_L1_len (i : Int) : ∀ (f : Nat) (data : List Op) (k : Int), (i - 1 - k).toNat < f → (slices_symMergeCmpFunc_Op_L1 i f data k).length = data.length
  | 0, _, _, h => by omega
  | f + 1, data, k, h => by
    rw [slices_symMergeCmpFunc_Op_L1]
    cases hc : decide (k < i - 1) with
    | true => have hc := of_decide_eq_true hc; simp only [cond_true]; rw [SM_Op_L1_len i f _ _ (by omega)]; simp
    | false => rfl
theorem SM_Op_L3_len (i : Int) : ∀ (f : Nat) (data : List Op) (k : Int), (k - i).toNat < f → (slices_symMergeCmpFunc_Op_L3 i f data k).length = data.length
  | 0, _, _, h => by omega
  | f + 1, data, k, h => by
    rw [slices_symMergeCmpFunc_Op_L3]
    cases hc : decide (k > i) with
    | true => have hc := of_decide_eq_true hc; simp only [cond_true]; rw [SM_Op_L3_len i f _ _ (by omega)]; simp
    | false => rfl
theorem SM_Op_L0_len (data : List Op) (a b : Int) (cmp : Op → Op → Int) : ∀ (f : Nat) (i j : Int), a ≤ i → i ≤ j → j ≤ b → (j - i).toNat < f → (slices_symMergeCmpFunc_Op_L0 data a b cmp f i j).length = data.length
  | 0, _, _, _, _, _, h => by omega
  | f + 1, i, j, ha, hi, hj, h => by
    rw [slices_symMergeCmpFunc_Op_L0]
    cases hc : decide (i < j) with
    | true =>
      have hc := of_decide_eq_true hc
      simp only [cond_true]
      cases decide (cmp (gt data ((i + j) / 2).toNat) (gt data a.toNat) < 0) with
      | true => exact SM_Op_L0_len data a b cmp f _ _ (by omega) (by omega) hj (by omega)
      | false => exact SM_Op_L0_len data a b cmp f _ _ ha (by omega) (by omega) (by omega)
    | false => exact SM_Op_L1_len i _ data a (by omega)
theorem SM_Op_L2_len (data : List Op) (a m : Int) (cmp : Op → Op → Int) : ∀ (f : Nat) (i j : Int), a ≤ i → i ≤ j → j ≤ m → (j - i).toNat < f → (slices_symMergeCmpFunc_Op_L2 data a m cmp f i j).length = data.length
  | 0, _, _, _, _, _, h => by omega
  | f + 1, i, j, ha, hi, hj, h => by
    rw [slices_symMergeCmpFunc_Op_L2]
    cases hc : decide (i < j) with
    | true =>
      have hc := of_decide_eq_true hc
      simp only [cond_true]
      cases (!decide (cmp (gt data m.toNat) (gt data ((i + j) / 2).toNat) < 0)) with
      | true => exact SM_Op_L2_len data a m cmp f _ _ (by omega) (by omega) hj (by omega)
      | false => exact SM_Op_L2_len data a m cmp f _ _ ha (by omega) (by omega) (by omega)
    | false => exact SM_Op_L3_len i _ data m (by omega)
theorem SM_Op_V11_len (data : List Op) (a m b : Int) (cmp : Op → Op → Int) : (slices_symMergeCmpFunc_Op_V11 data a m b cmp).length = data.length := by
  unfold slices_symMergeCmpFunc_Op_V11
  generalize slices_symMergeCmpFunc_Op_L4 data a m b cmp _ _ _ = s
  cases hc : (decide (s < m) && decide (m < (a + b) / 2 + m - s)) with
  | true =>
    rw [Bool.and_eq_true] at hc
    exact RT_Op_len _ _ _ _ _ ⟨of_decide_eq_true hc.1, of_decide_eq_true hc.2⟩
  | false => rfl
theorem SM_Op_len : ∀ (k : Nat) (data : List Op) (a m b : Int) (cmp : Op → Op → Int), a < m ∧ m < b → (b - a).toNat < k → (slices_symMergeCmpFunc_Op k data a m b cmp).length = data.length
  | 0, _, _, _, _, _, _, h => by omega
  | k + 1, data, a, m, b, cmp, h, hk => by
    rw [slices_symMergeCmpFunc_Op]
    cases h1 : (m - a == 1) with
    | true => exact SM_Op_L0_len data a b cmp _ m b (by omega) (by omega) (by omega) (by omega)
    | false =>
      simp only [cond_false]
      cases h2 : (b - m == 1) with
      | true => exact SM_Op_L2_len data a m cmp _ a m (by omega) (by omega) (by omega) (by omega)
      | false =>
        simp only [cond_false]
        generalize slices_symMergeCmpFunc_Op_L4 data a m b cmp _ _ _ = s
        have hV := SM_Op_V11_len data a m b cmp
        cases h3 : (decide (a < s) && decide (s < (a + b) / 2)) <;> cases h4 : (decide ((a + b) / 2 < (a + b) / 2 + m - s) && decide ((a + b) / 2 + m - s < b)) <;> simp only [cond_true, cond_false]
        · exact hV
        · rw [Bool.and_eq_true] at h4
          have h41 := of_decide_eq_true h4.1
          have h42 := of_decide_eq_true h4.2
          rw [SM_Op_len k _ _ _ _ cmp ⟨h41, h42⟩ (by omega)]; exact hV
        · rw [Bool.and_eq_true] at h3
          have h31 := of_decide_eq_true h3.1
          have h32 := of_decide_eq_true h3.2
          rw [SM_Op_len k _ _ _ _ cmp ⟨h31, h32⟩ (by omega)]; exact hV
        · rw [Bool.and_eq_true] at h3 h4
          have h31 := of_decide_eq_true h3.1
          have h32 := of_decide_eq_true h3.2
          have h41 := of_decide_eq_true h4.1
          have h42 := of_decide_eq_true h4.2
          rw [SM_Op_len k _ _ _ _ cmp ⟨h41, h42⟩ (by omega), SM_Op_len k _ _ _ _ cmp ⟨h31, h32⟩ (by omega)]; exact hV
theorem slices_symMergeCmpFunc_Op_spec : ∀ (k_ : Nat) (y1 : SlV) (y1b : Option Nat) (data1 : List Op) (a1 : Int) (m1 : Int) (b1 : Int) (f1 : Nat) (caps1 : List Value) (pre1 : List Pred) [StabL pre1] (cmp1 : Op → Op → Int) (hfb1 : tab.fnb f1 = true) (hfn1 : ∀ (a0_ : Op) (a1_ : Op), Does Tryz.prog f1 ([.agg ⟨[.int .i64 a0_.time, .int .i64 a0_.who, .int .i64 a0_.node, .int .i64 a0_.parent, .int .i64 a0_.name, .int .i64 a0_.life, .int .i64 a0_.seq]⟩, .agg ⟨[.int .i64 a1_.time, .int .i64 a1_.who, .int .i64 a1_.node, .int .i64 a1_.parent, .int .i64 a1_.name, .int .i64 a1_.life, .int .i64 a1_.seq]⟩] ++ caps1) pre1 (fun (_ : Unit) => .int .i64 (cmp1 a0_ a1_)) (fun (_ : Unit) => [])) (hab : 0 ≤ a1 ∧ a1 < m1 ∧ m1 < b1 ∧ b1 ≤ (data1.length : Int)) (hk_ : (b1 - a1).toNat < k_), DoesG Tryz.prog 100 [y1.val data1.length, .int .i64 a1, .int .i64 m1, .int .i64 b1, .func (.func f1) #[] ⟨caps1⟩] (pre1) ⟨[], [ownL EOp 41 y1 y1b data1]⟩ (fun (_ : Unit) => .tuple #[]) (fun (_ : Unit) => []) (fun (_ : Unit) => ⟨[], [ownL EOp 41 y1 y1b (slices_symMergeCmpFunc_Op k_ data1 a1 m1 b1 cmp1)]⟩) := by
  intro k_
  induction k_ with
  | zero => intros; omega
  | succ k_ ih_ =>
  intro y1 y1b data1 a1 m1 b1 f1 caps1 pre1 _ cmp1 hfb1 hfn1 hab hk_
  refine does_ofG tab_ok Tryz.func100 rfl Tryz.ntmps100 Tryz.results100 rfl inferInstance (fun _ => inferInstance) fun C => ?_
  refine cw_lenO EOp (e := 41) (X := y1) (b := y1b) (l := data1) Mm fun hl63y1 hleny1 => ?_
  simp only [show EOp.by_ = 56 from rfl] at hleny1
  refine Tx ?_
  refine rw_q rfl rfl rfl (q_sub rfl rfl (fun _ => rfl) rfl (fun _ => rfl) (fun _ => by omega)) ?_
  refine Tx ?_
  refine Cd (b := ((m1 - a1) == 1)) (fun hc1 => ?_) fun hc1 => ?_
  · have hc1p := eq_of_beq hc1
    refine Tx ?_
    (repeat refine cw_seq ?_); refine Lp [0,1,2,3,4] [] (fun (i_ : Int × Int × Nat) => match i_ with | ⟨i1, j1, fz1⟩ => (⟨[(10, .v (.int .i64 i1)), (11, .v (.int .i64 j1))], [], [ownL EOp 41 y1 y1b data1], [], (m1 ≤ i1 ∧ i1 ≤ j1 ∧ j1 ≤ b1) ∧ ((j1 - i1).toNat < fz1) ∧ (slices_symMergeCmpFunc_Op_L0 data1 a1 b1 cmp1 (fz1) i1 j1) = (slices_symMergeCmpFunc_Op (k_ + 1) data1 a1 m1 b1 cmp1), fz1⟩ : Ls)) ⟨m1, b1, (b1 - m1).toNat + 1⟩ (Sc (Sc (Sc (Sc (Sc Sn))))) (.nil) ⟨(by first | exact Nat.le_refl _ | exact Nat.zero_le _ | omega), (by first | exact Nat.le_refl _ | exact Nat.zero_le _ | omega), (by simp only [slices_symMergeCmpFunc_Op, hc1, Bool.true_and, Bool.and_true, cond_true, cond_false] : (slices_symMergeCmpFunc_Op (k_ + 1) data1 a1 m1 b1 cmp1) = (slices_symMergeCmpFunc_Op_L0 data1 a1 b1 cmp1 ((b1 - m1).toNat + 1) m1 b1)).symm⟩ Le5 ?_
    rintro ⟨i1, j1, fz1⟩ ⟨hi0, hzfz1, hf1⟩
    simp only [List.cons_append, List.nil_append]
    have hlt0_ : (fz1 - 1) + 1 = fz1 := by omega
    refine Tx ?_
    refine Cd (b := decide (i1 < j1)) (fun hc2 => ?_) fun hc2 => ?_
    · have hc2p := of_decide_eq_true hc2
      refine Tx ?_
      refine rw_q rfl rfl rfl (q_add rfl rfl (fun _ => rfl) rfl (fun _ => rfl) (fun _ => by omega)) ?_
      refine rw_q rfl rfl rfl (q_convU und_3 und_152 rfl rfl (fun _ => rfl) (fun _ => by omega)) ?_
      refine rw_q rfl rfl rfl (q_shr1 rfl rfl (fun _ => rfl)) ?_
      refine rw_q rfl rfl rfl (q_convI und_152 und_3 rfl rfl (fun _ => rfl) (fun _ => by omega)) ?_
      refine Tx ?_
      (repeat refine cw_seq ?_); refine cw_regionA (fun _ => some []) ?_
      refine Rb 0 [1,2,3,4,5,6,7,8] [9,10] rfl Qp ?_
      refine Rb 1 [2,5,6,7,8] [3,4,9,10] rfl Qp ?_
      refine Rb 2 [5,6,7,8] [3,4,9,10] rfl Qp ?_
      refine rw_qO EOp (e := 41) (X := y1) (b := y1b) (l := data1) Mm (.ab (i := 3) (js := [5, 6, 7, 8]) [4, 9, 10] rfl Kr Kr Kr Kr Kr) rfl rfl rfl (q_idx EOp (((i1 + j1) / 2).toNat) rfl rfl (fun _ => rfl) rfl (fun _ => rfl) rfl rfl rfl (.head _) rfl (fun _ => by omega) (fun _ => by first | assumption | omega | (simp only [List.length_set]; omega))) ?_
      refine rw_qO EOp (e := 41) (X := y1) (b := y1b) (l := data1) Mm (.ab (i := 4) (js := [5, 6, 7, 8]) [9, 10] rfl Kr Kr Kr Kr Kr) rfl rfl rfl (q_leA EOp rfl rfl (fun _ => rfl) rfl rfl (.head _) (fun _ => by first | assumption | omega | (simp only [List.length_set]; omega))) ?_
      refine Rb 5 [6] [7,8,9,10] rfl Qp ?_
      refine Rb 6 [] [7,8,9,10] rfl Qp ?_
      refine rw_qO EOp (e := 41) (X := y1) (b := y1b) (l := data1) Mm (.ab (i := 7) (js := []) [8, 9, 10] rfl Kr Kr Kr Kr Kr) rfl rfl rfl (q_idx EOp a1.toNat rfl rfl (fun _ => rfl) rfl (fun _ => rfl) rfl rfl rfl (.head _) rfl (fun _ => by omega) (fun _ => by first | assumption | omega | (simp only [List.length_set]; omega))) ?_
      refine rw_qO EOp (e := 41) (X := y1) (b := y1b) (l := data1) Mm (.ab (i := 8) (js := []) [9, 10] rfl Kr Kr Kr Kr Kr) rfl rfl rfl (q_leA EOp rfl rfl (fun _ => rfl) rfl rfl (.head _) (fun _ => by first | assumption | omega | (simp only [List.length_set]; omega))) ?_
      refine ra_one 9 Kr ?_
      refine rw_callv (hfn1 (gt data1 (((i1 + j1) / 2).toNat)) (gt data1 a1.toNat)) (.an rfl rfl) (guard_none rfl) rfl rfl rfl rfl rfl (by assumption) rfl rfl rfl Sf ?_
      intro _
      refine Ra 10 [] rfl Qp ?_
      refine ra_nil Kr ?_
      (repeat refine cw_seq ?_)
      refine Cd (b := decide ((cmp1 (gt data1 (((i1 + j1) / 2).toNat)) (gt data1 a1.toNat)) < 0)) (fun hc3 => ?_) fun hc3 => ?_
      · have hc3p := of_decide_eq_true hc3
        refine Tx ?_
        refine rw_q rfl rfl rfl (q_add rfl rfl (fun _ => rfl) rfl (fun _ => rfl) (fun _ => by omega)) ?_
        refine Tx ?_
        refine ⟨⟨(((i1 + j1) / 2) + 1), j1, (fz1 - 1)⟩, ⟨(by (try simp only []); omega), (by (try simp only []); first | omega | (simp only [List.length_append, List.length_cons, List.length_nil]; omega)), (by rw [← hf1]; (conv => lhs; rw [← hlt0_]); simp only [slices_symMergeCmpFunc_Op_L0, hc2, hc3, Bool.true_and, Bool.and_true, cond_true, cond_false] : (slices_symMergeCmpFunc_Op (k_ + 1) data1 a1 m1 b1 cmp1) = (slices_symMergeCmpFunc_Op_L0 data1 a1 b1 cmp1 (fz1 - 1) (((i1 + j1) / 2) + 1) j1)).symm⟩, (by simp only []; omega), Le5⟩
      · have hc3p := of_decide_eq_false hc3
        refine Tx ?_
        refine ⟨⟨i1, ((i1 + j1) / 2), (fz1 - 1)⟩, ⟨(by (try simp only []); omega), (by (try simp only []); first | omega | (simp only [List.length_append, List.length_cons, List.length_nil]; omega)), (by rw [← hf1]; (conv => lhs; rw [← hlt0_]); simp only [slices_symMergeCmpFunc_Op_L0, hc2, hc3, Bool.true_and, Bool.and_true, cond_true, cond_false] : (slices_symMergeCmpFunc_Op (k_ + 1) data1 a1 m1 b1 cmp1) = (slices_symMergeCmpFunc_Op_L0 data1 a1 b1 cmp1 (fz1 - 1) i1 ((i1 + j1) / 2))).symm⟩, (by simp only []; omega), Le5⟩
    · have hc2p := of_decide_eq_false hc2
      refine Tx ?_
      (repeat refine cw_seq ?_); refine Lp [1,2,3,4,10] [] (fun (i_ : List Op × Int) => match i_ with | ⟨data2, k1⟩ => (⟨[(0, .v (y1.val data2.length)), (13, .v (.int .i64 k1))], [], [ownL EOp 41 y1 y1b data2], [], (a1 ≤ k1 ∧ k1 < b1 ∧ data2.length = data1.length) ∧ (slices_symMergeCmpFunc_Op_L1 i1 ((b1 - k1).toNat + 1) data2 k1) = (slices_symMergeCmpFunc_Op (k_ + 1) data1 a1 m1 b1 cmp1), (b1 - k1).toNat + 1⟩ : Ls)) ⟨data1, a1⟩ (Sc (Sc (Sc (Sc (Sc Sn))))) (.nil) ⟨(by first | exact Nat.le_refl _ | exact Nat.zero_le _ | omega), (by rw [← hf1]; (conv => lhs; rw [← hlt0_]); simp only [slices_symMergeCmpFunc_Op_L0, hc2, Bool.true_and, Bool.and_true, cond_true, cond_false] : (slices_symMergeCmpFunc_Op (k_ + 1) data1 a1 m1 b1 cmp1) = (slices_symMergeCmpFunc_Op_L1 i1 ((b1 - a1).toNat + 1) data1 a1)).symm⟩ Le5 ?_
      rintro ⟨data2, k1⟩ ⟨hi1, hf2⟩
      simp only [List.cons_append, List.nil_append]
      have hlt1_ : ((b1 - k1).toNat + 1 - 1) + 1 = (b1 - k1).toNat + 1 := by omega
      refine Tx ?_
      refine rw_q rfl rfl rfl (q_sub rfl rfl (fun _ => rfl) rfl (fun _ => rfl) (fun _ => by omega)) ?_
      refine Tx ?_
      refine Cd (b := decide (k1 < (i1 - 1))) (fun hc4 => ?_) fun hc4 => ?_
      · have hc4p := of_decide_eq_true hc4
        refine Tx ?_
        (repeat refine cw_seq ?_); refine cw_regionA (fun j => match j with | 15 => some y1b.toList | 17 => some y1b.toList | _ => some []) ?_
        refine Ra 0 [1,2,3,4,5,6,7,8,9,10,11,12,13] rfl Qp ?_
        refine Ra 1 [2,3,4,5,6,7,8,9,10,11,12,13] rfl Qp ?_
        refine ra_q (.an (i := 2) (js := [3, 4, 5, 6, 7, 8, 9, 10, 11, 12, 13, 14, 15]) rfl Kr Kr Kr Kr) (SplitB.all _) (by intro g hg; simp only [List.mem_append, List.mem_singleton, List.not_mem_nil, or_false, false_or, Option.mem_toList, Option.mem_def, List.append_nil] at hg; first | exact .inr ⟨ownL EOp 41 y1 y1b data2, Mm, hg⟩) rfl rfl rfl (q_pev rfl (fun _ => rfl)) ?_
        refine ra_q (.an (i := 3) (js := [5, 6, 7, 8, 9, 10, 11, 12, 13, 14, 15]) rfl Kr Kr Kr Kr) (SplitB.all _) (by intro g hg; simp only [List.mem_append, List.mem_singleton, List.not_mem_nil, or_false, false_or, Option.mem_toList, Option.mem_def, List.append_nil] at hg; first | exact .inr ⟨ownL EOp 41 y1 y1b data2, Mm, hg⟩) rfl rfl rfl (q_pev rfl (fun _ => rfl)) ?_
        refine ra_q (.an (i := 4) (js := [5, 6, 7, 8, 9, 10, 11, 12, 13, 14, 15]) rfl Kr Kr Kr Kr) (SplitB.all _) (by intro g hg; simp only [List.mem_append, List.mem_singleton, List.not_mem_nil, or_false, false_or, Option.mem_toList, Option.mem_def, List.append_nil] at hg; first | exact .inr ⟨ownL EOp 41 y1 y1b data2, Mm, hg⟩) rfl rfl rfl (q_add rfl rfl (fun _ => rfl) rfl (fun _ => rfl) (fun _ => by omega)) ?_
        refine Rb 5 [6,7,10,11,12,13] [8,9,14,15,16,17] rfl Qp ?_
        refine Rb 6 [10,11,12,13] [7,8,9,14,15,16,17] rfl Qp ?_
        refine Rb 7 [10,11,12,13] [8,9,14,15,16,17] rfl (q_add rfl rfl (fun _ => rfl) rfl (fun _ => rfl) (fun _ => by omega)) ?_
        refine rw_qO EOp (e := 41) (X := y1) (b := y1b) (l := data2) Mm (.an (i := 8) (js := [10, 11, 12, 13]) rfl Kr Kr Kr Kr) rfl rfl rfl (q_idx EOp ((k1 + 1).toNat) rfl rfl (fun _ => rfl) rfl (fun _ => rfl) rfl rfl rfl (.head _) rfl (fun _ => by omega) (fun _ => by first | assumption | omega | (simp only [List.length_set]; omega))) ?_
        refine rw_qO EOp (e := 41) (X := y1) (b := y1b) (l := data2) Mm (.an (i := 9) (js := [10, 11, 12, 13]) rfl Kr Kr Kr Kr) rfl rfl rfl (q_leA EOp rfl rfl (fun _ => rfl) rfl rfl (.head _) (fun _ => by first | assumption | omega | (simp only [List.length_set]; omega))) ?_
        refine Rb 10 [11] [12,13,14,15,16,17] rfl Qp ?_
        refine Rb 11 [] [12,13,14,15,16,17] rfl Qp ?_
        refine rw_qO EOp (e := 41) (X := y1) (b := y1b) (l := data2) Mm (.ab (i := 12) (js := []) [13, 14, 15, 16, 17] rfl Kr Kr Kr Kr Kr) rfl rfl rfl (q_idx EOp k1.toNat rfl rfl (fun _ => rfl) rfl (fun _ => rfl) rfl rfl rfl (.head _) rfl (fun _ => by omega) (fun _ => by first | assumption | omega | (simp only [List.length_set]; omega))) ?_
        refine rw_qO EOp (e := 41) (X := y1) (b := y1b) (l := data2) Mm (.an (i := 13) (js := []) rfl Kr Kr Kr Kr) rfl rfl rfl (q_leA EOp rfl rfl (fun _ => rfl) rfl rfl (.head _) (fun _ => by first | assumption | omega | (simp only [List.length_set]; omega))) ?_
        refine rw_qO EOp (e := 41) (X := y1) (b := y1b) (l := data2) Mm (.an (i := 14) (js := []) rfl Kr Kr Kr Kr) rfl rfl rfl (q_idx EOp k1.toNat rfl rfl (fun _ => rfl) rfl (fun _ => rfl) rfl rfl rfl (.head _) rfl (fun _ => by omega) (fun _ => by first | assumption | omega | (simp only [List.length_set]; omega))) ?_
        refine ra_one 15 Kr ?_
        refine rw_stO EOp data2 k1.toNat 0 (gt data2 ((k1 + 1).toNat)) (e := 41) (X := y1) (b := y1b) (.an rfl rfl) (.inr (fun g h => by simp [h])) (guard_none rfl) rfl rfl rfl rfl rfl rfl rfl rfl rfl rfl rfl (by first | assumption | omega | (simp only [List.length_set]; omega)) rfl Uo ?_
        have hv1 : y1.val data2.length = y1.val (data2.set k1.toNat (gt data2 ((k1 + 1).toNat))).length := congrArg (SlV.val y1) List.length_set.symm
        try rw [hv1]
        refine rw_qO EOp (e := 41) (X := y1) (b := y1b) (l := (data2.set k1.toNat (gt data2 ((k1 + 1).toNat)))) Mm (.an (i := 16) (js := []) rfl Kr Kr Kr Kr) rfl rfl rfl (q_idx EOp ((k1 + 1).toNat) rfl rfl (fun _ => rfl) rfl (fun _ => rfl) rfl rfl rfl (.head _) rfl (fun _ => by omega) (fun _ => by first | assumption | omega | (simp only [List.length_set]; omega))) ?_
        refine ra_one 17 Kr ?_
        refine rw_stO EOp (data2.set k1.toNat (gt data2 ((k1 + 1).toNat))) ((k1 + 1).toNat) 0 (gt data2 k1.toNat) (e := 41) (X := y1) (b := y1b) (.an rfl rfl) (.inr (fun g h => by simp [h])) (guard_none rfl) rfl rfl rfl rfl rfl rfl rfl rfl rfl rfl rfl (by first | assumption | omega | (simp only [List.length_set]; omega)) rfl Uo ?_
        have hv2 : y1.val (data2.set k1.toNat (gt data2 ((k1 + 1).toNat))).length = y1.val ((data2.set k1.toNat (gt data2 ((k1 + 1).toNat))).set ((k1 + 1).toNat) (gt data2 k1.toNat)).length := congrArg (SlV.val y1) List.length_set.symm
        try rw [hv2]
        refine ra_nil Kr ?_
        refine Tx ?_
        refine rw_q rfl rfl rfl (q_add rfl rfl (fun _ => rfl) rfl (fun _ => rfl) (fun _ => by omega)) ?_
        refine Tx ?_
        have hnx3 : (b1 - (k1 + 1)).toNat + 1 = (b1 - k1).toNat + 1 - 1 := by omega
        refine ⟨⟨((data2.set k1.toNat (gt data2 ((k1 + 1).toNat))).set ((k1 + 1).toNat) (gt data2 k1.toNat)), (k1 + 1)⟩, ⟨(by simp only [List.length_append, List.length_cons, List.length_nil, List.length_set]; omega), (by rw [hnx3]; exact (by rw [← hf2]; (conv => lhs; rw [← hlt1_]); simp only [slices_symMergeCmpFunc_Op_L1, hc4, Bool.true_and, Bool.and_true, cond_true, cond_false] : (slices_symMergeCmpFunc_Op (k_ + 1) data1 a1 m1 b1 cmp1) = (slices_symMergeCmpFunc_Op_L1 i1 ((b1 - k1).toNat + 1 - 1) ((data2.set k1.toNat (gt data2 ((k1 + 1).toNat))).set ((k1 + 1).toNat) (gt data2 k1.toNat)) (k1 + 1))).symm)⟩, (by simp only []; omega), Le5⟩
      · have hc4p := of_decide_eq_false hc4
        refine Tx ?_
        have hr1 : (slices_symMergeCmpFunc_Op (k_ + 1) data1 a1 m1 b1 cmp1) = data2 := by rw [← hf2]; (conv => lhs; rw [← hlt1_]); simp only [slices_symMergeCmpFunc_Op_L1, hc4, Bool.true_and, Bool.and_true, cond_true, cond_false]
        refine cw_ret ?_
        rw [hr1]
        exact ⟨(), _, .nil, rfl, Sf, .nil _, Sp⟩
  · have hc1p := ne_of_beq_false hc1
    refine Tx ?_
    refine rw_q rfl rfl rfl (q_sub rfl rfl (fun _ => rfl) rfl (fun _ => rfl) (fun _ => by omega)) ?_
    refine Tx ?_
    refine Cd (b := ((b1 - m1) == 1)) (fun hc5 => ?_) fun hc5 => ?_
    · have hc5p := eq_of_beq hc5
      refine Tx ?_
      (repeat refine cw_seq ?_); refine Lp [0,1,2,3,4] [] (fun (i_ : Int × Int × Nat) => match i_ with | ⟨i2, j2, fz2⟩ => (⟨[(14, .v (.int .i64 i2)), (15, .v (.int .i64 j2))], [], [ownL EOp 41 y1 y1b data1], [], (a1 ≤ i2 ∧ i2 ≤ j2 ∧ j2 ≤ m1) ∧ ((j2 - i2).toNat < fz2) ∧ (slices_symMergeCmpFunc_Op_L2 data1 a1 m1 cmp1 (fz2) i2 j2) = (slices_symMergeCmpFunc_Op (k_ + 1) data1 a1 m1 b1 cmp1), fz2⟩ : Ls)) ⟨a1, m1, (m1 - a1).toNat + 1⟩ (Sc (Sc (Sc (Sc (Sc Sn))))) (.nil) ⟨(by first | exact Nat.le_refl _ | exact Nat.zero_le _ | omega), (by first | exact Nat.le_refl _ | exact Nat.zero_le _ | omega), (by simp only [slices_symMergeCmpFunc_Op, hc1, hc5, Bool.true_and, Bool.and_true, cond_true, cond_false] : (slices_symMergeCmpFunc_Op (k_ + 1) data1 a1 m1 b1 cmp1) = (slices_symMergeCmpFunc_Op_L2 data1 a1 m1 cmp1 ((m1 - a1).toNat + 1) a1 m1)).symm⟩ Le5 ?_
      rintro ⟨i2, j2, fz2⟩ ⟨hi2, hzfz2, hf3⟩
      simp only [List.cons_append, List.nil_append]
      have hlt2_ : (fz2 - 1) + 1 = fz2 := by omega
      refine Tx ?_
      refine Cd (b := decide (i2 < j2)) (fun hc6 => ?_) fun hc6 => ?_
      · have hc6p := of_decide_eq_true hc6
        refine Tx ?_
        refine rw_q rfl rfl rfl (q_add rfl rfl (fun _ => rfl) rfl (fun _ => rfl) (fun _ => by omega)) ?_
        refine rw_q rfl rfl rfl (q_convU und_3 und_152 rfl rfl (fun _ => rfl) (fun _ => by omega)) ?_
        refine rw_q rfl rfl rfl (q_shr1 rfl rfl (fun _ => rfl)) ?_
        refine rw_q rfl rfl rfl (q_convI und_152 und_3 rfl rfl (fun _ => rfl) (fun _ => by omega)) ?_
        refine Tx ?_
        (repeat refine cw_seq ?_); refine cw_regionA (fun _ => some []) ?_
        refine Rb 0 [1,2,3,4,5,6,7,8] [9,10,11] rfl Qp ?_
        refine Rb 1 [2,5,6,7,8] [3,4,9,10,11] rfl Qp ?_
        refine Rb 2 [5,6,7,8] [3,4,9,10,11] rfl Qp ?_
        refine rw_qO EOp (e := 41) (X := y1) (b := y1b) (l := data1) Mm (.ab (i := 3) (js := [5, 6, 7, 8]) [4, 9, 10, 11] rfl Kr Kr Kr Kr Kr) rfl rfl rfl (q_idx EOp m1.toNat rfl rfl (fun _ => rfl) rfl (fun _ => rfl) rfl rfl rfl (.head _) rfl (fun _ => by omega) (fun _ => by first | assumption | omega | (simp only [List.length_set]; omega))) ?_
        refine rw_qO EOp (e := 41) (X := y1) (b := y1b) (l := data1) Mm (.ab (i := 4) (js := [5, 6, 7, 8]) [9, 10, 11] rfl Kr Kr Kr Kr Kr) rfl rfl rfl (q_leA EOp rfl rfl (fun _ => rfl) rfl rfl (.head _) (fun _ => by first | assumption | omega | (simp only [List.length_set]; omega))) ?_
        refine Rb 5 [6] [7,8,9,10,11] rfl Qp ?_
        refine Rb 6 [] [7,8,9,10,11] rfl Qp ?_
        refine rw_qO EOp (e := 41) (X := y1) (b := y1b) (l := data1) Mm (.ab (i := 7) (js := []) [8, 9, 10, 11] rfl Kr Kr Kr Kr Kr) rfl rfl rfl (q_idx EOp (((i2 + j2) / 2).toNat) rfl rfl (fun _ => rfl) rfl (fun _ => rfl) rfl rfl rfl (.head _) rfl (fun _ => by omega) (fun _ => by first | assumption | omega | (simp only [List.length_set]; omega))) ?_
        refine rw_qO EOp (e := 41) (X := y1) (b := y1b) (l := data1) Mm (.ab (i := 8) (js := []) [9, 10, 11] rfl Kr Kr Kr Kr Kr) rfl rfl rfl (q_leA EOp rfl rfl (fun _ => rfl) rfl rfl (.head _) (fun _ => by first | assumption | omega | (simp only [List.length_set]; omega))) ?_
        refine ra_one 9 Kr ?_
        refine rw_callv (hfn1 (gt data1 m1.toNat) (gt data1 (((i2 + j2) / 2).toNat))) (.an rfl rfl) (guard_none rfl) rfl rfl rfl rfl rfl (by assumption) rfl rfl rfl Sf ?_
        intro _
        refine Ra 10 [] rfl Qp ?_
        refine Ra 11 [] rfl Qp ?_
        refine ra_nil Kr ?_
        (repeat refine cw_seq ?_)
        refine Cd (b := (!(decide ((cmp1 (gt data1 m1.toNat) (gt data1 (((i2 + j2) / 2).toNat))) < 0)))) (fun hc7 => ?_) fun hc7 => ?_
        · refine Tx ?_
          refine rw_q rfl rfl rfl (q_add rfl rfl (fun _ => rfl) rfl (fun _ => rfl) (fun _ => by omega)) ?_
          refine Tx ?_
          refine ⟨⟨(((i2 + j2) / 2) + 1), j2, (fz2 - 1)⟩, ⟨(by (try simp only []); omega), (by (try simp only []); first | omega | (simp only [List.length_append, List.length_cons, List.length_nil]; omega)), (by rw [← hf3]; (conv => lhs; rw [← hlt2_]); simp only [slices_symMergeCmpFunc_Op_L2, hc6, hc7, Bool.true_and, Bool.and_true, cond_true, cond_false] : (slices_symMergeCmpFunc_Op (k_ + 1) data1 a1 m1 b1 cmp1) = (slices_symMergeCmpFunc_Op_L2 data1 a1 m1 cmp1 (fz2 - 1) (((i2 + j2) / 2) + 1) j2)).symm⟩, (by simp only []; omega), Le5⟩
        · refine Tx ?_
          refine ⟨⟨i2, ((i2 + j2) / 2), (fz2 - 1)⟩, ⟨(by (try simp only []); omega), (by (try simp only []); first | omega | (simp only [List.length_append, List.length_cons, List.length_nil]; omega)), (by rw [← hf3]; (conv => lhs; rw [← hlt2_]); simp only [slices_symMergeCmpFunc_Op_L2, hc6, hc7, Bool.true_and, Bool.and_true, cond_true, cond_false] : (slices_symMergeCmpFunc_Op (k_ + 1) data1 a1 m1 b1 cmp1) = (slices_symMergeCmpFunc_Op_L2 data1 a1 m1 cmp1 (fz2 - 1) i2 ((i2 + j2) / 2))).symm⟩, (by simp only []; omega), Le5⟩
      · have hc6p := of_decide_eq_false hc6
        refine Tx ?_
        (repeat refine cw_seq ?_); refine Lp [1,2,3,4,14] [] (fun (i_ : List Op × Int) => match i_ with | ⟨data3, k2⟩ => (⟨[(0, .v (y1.val data3.length)), (17, .v (.int .i64 k2))], [], [ownL EOp 41 y1 y1b data3], [], (a1 ≤ k2 ∧ k2 ≤ m1 ∧ data3.length = data1.length) ∧ (slices_symMergeCmpFunc_Op_L3 i2 ((k2 - a1).toNat + 1) data3 k2) = (slices_symMergeCmpFunc_Op (k_ + 1) data1 a1 m1 b1 cmp1), (k2 - a1).toNat + 1⟩ : Ls)) ⟨data1, m1⟩ (Sc (Sc (Sc (Sc (Sc Sn))))) (.nil) ⟨(by first | exact Nat.le_refl _ | exact Nat.zero_le _ | omega), (by rw [← hf3]; (conv => lhs; rw [← hlt2_]); simp only [slices_symMergeCmpFunc_Op_L2, hc6, Bool.true_and, Bool.and_true, cond_true, cond_false] : (slices_symMergeCmpFunc_Op (k_ + 1) data1 a1 m1 b1 cmp1) = (slices_symMergeCmpFunc_Op_L3 i2 ((m1 - a1).toNat + 1) data1 m1)).symm⟩ Le5 ?_
        rintro ⟨data3, k2⟩ ⟨hi3, hf4⟩
        simp only [List.cons_append, List.nil_append]
        have hlt3_ : ((k2 - a1).toNat + 1 - 1) + 1 = (k2 - a1).toNat + 1 := by omega
        refine Tx ?_
        refine Cd (b := decide (k2 > i2)) (fun hc8 => ?_) fun hc8 => ?_
        · have hc8p := of_decide_eq_true hc8
          refine Tx ?_
          (repeat refine cw_seq ?_); refine cw_regionA (fun j => match j with | 15 => some y1b.toList | 17 => some y1b.toList | _ => some []) ?_
          refine Ra 0 [1,2,3,4,5,6,7,8,9,10,11,12,13] rfl Qp ?_
          refine Ra 1 [2,3,4,5,6,7,8,9,10,11,12,13] rfl Qp ?_
          refine ra_q (.an (i := 2) (js := [3, 4, 5, 6, 7, 8, 9, 10, 11, 12, 13, 14, 15]) rfl Kr Kr Kr Kr) (SplitB.all _) (by intro g hg; simp only [List.mem_append, List.mem_singleton, List.not_mem_nil, or_false, false_or, Option.mem_toList, Option.mem_def, List.append_nil] at hg; first | exact .inr ⟨ownL EOp 41 y1 y1b data3, Mm, hg⟩) rfl rfl rfl (q_pev rfl (fun _ => rfl)) ?_
          refine ra_q (.an (i := 3) (js := [5, 6, 7, 8, 9, 10, 11, 12, 13, 14, 15]) rfl Kr Kr Kr Kr) (SplitB.all _) (by intro g hg; simp only [List.mem_append, List.mem_singleton, List.not_mem_nil, or_false, false_or, Option.mem_toList, Option.mem_def, List.append_nil] at hg; first | exact .inr ⟨ownL EOp 41 y1 y1b data3, Mm, hg⟩) rfl rfl rfl (q_pev rfl (fun _ => rfl)) ?_
          refine ra_q (.an (i := 4) (js := [5, 6, 7, 8, 9, 10, 11, 12, 13, 14, 15]) rfl Kr Kr Kr Kr) (SplitB.all _) (by intro g hg; simp only [List.mem_append, List.mem_singleton, List.not_mem_nil, or_false, false_or, Option.mem_toList, Option.mem_def, List.append_nil] at hg; first | exact .inr ⟨ownL EOp 41 y1 y1b data3, Mm, hg⟩) rfl rfl rfl (q_sub rfl rfl (fun _ => rfl) rfl (fun _ => rfl) (fun _ => by omega)) ?_
          refine Rb 5 [6,7,10,11,12,13] [8,9,14,15,16,17] rfl Qp ?_
          refine Rb 6 [10,11,12,13] [7,8,9,14,15,16,17] rfl Qp ?_
          refine Rb 7 [10,11,12,13] [8,9,14,15,16,17] rfl (q_sub rfl rfl (fun _ => rfl) rfl (fun _ => rfl) (fun _ => by omega)) ?_
          refine rw_qO EOp (e := 41) (X := y1) (b := y1b) (l := data3) Mm (.an (i := 8) (js := [10, 11, 12, 13]) rfl Kr Kr Kr Kr) rfl rfl rfl (q_idx EOp ((k2 - 1).toNat) rfl rfl (fun _ => rfl) rfl (fun _ => rfl) rfl rfl rfl (.head _) rfl (fun _ => by omega) (fun _ => by first | assumption | omega | (simp only [List.length_set]; omega))) ?_
          refine rw_qO EOp (e := 41) (X := y1) (b := y1b) (l := data3) Mm (.an (i := 9) (js := [10, 11, 12, 13]) rfl Kr Kr Kr Kr) rfl rfl rfl (q_leA EOp rfl rfl (fun _ => rfl) rfl rfl (.head _) (fun _ => by first | assumption | omega | (simp only [List.length_set]; omega))) ?_
          refine Rb 10 [11] [12,13,14,15,16,17] rfl Qp ?_
          refine Rb 11 [] [12,13,14,15,16,17] rfl Qp ?_
          refine rw_qO EOp (e := 41) (X := y1) (b := y1b) (l := data3) Mm (.ab (i := 12) (js := []) [13, 14, 15, 16, 17] rfl Kr Kr Kr Kr Kr) rfl rfl rfl (q_idx EOp k2.toNat rfl rfl (fun _ => rfl) rfl (fun _ => rfl) rfl rfl rfl (.head _) rfl (fun _ => by omega) (fun _ => by first | assumption | omega | (simp only [List.length_set]; omega))) ?_
          refine rw_qO EOp (e := 41) (X := y1) (b := y1b) (l := data3) Mm (.an (i := 13) (js := []) rfl Kr Kr Kr Kr) rfl rfl rfl (q_leA EOp rfl rfl (fun _ => rfl) rfl rfl (.head _) (fun _ => by first | assumption | omega | (simp only [List.length_set]; omega))) ?_
          refine rw_qO EOp (e := 41) (X := y1) (b := y1b) (l := data3) Mm (.an (i := 14) (js := []) rfl Kr Kr Kr Kr) rfl rfl rfl (q_idx EOp k2.toNat rfl rfl (fun _ => rfl) rfl (fun _ => rfl) rfl rfl rfl (.head _) rfl (fun _ => by omega) (fun _ => by first | assumption | omega | (simp only [List.length_set]; omega))) ?_
          refine ra_one 15 Kr ?_
          refine rw_stO EOp data3 k2.toNat 0 (gt data3 ((k2 - 1).toNat)) (e := 41) (X := y1) (b := y1b) (.an rfl rfl) (.inr (fun g h => by simp [h])) (guard_none rfl) rfl rfl rfl rfl rfl rfl rfl rfl rfl rfl rfl (by first | assumption | omega | (simp only [List.length_set]; omega)) rfl Uo ?_
          have hv3 : y1.val data3.length = y1.val (data3.set k2.toNat (gt data3 ((k2 - 1).toNat))).length := congrArg (SlV.val y1) List.length_set.symm
          try rw [hv3]
          refine rw_qO EOp (e := 41) (X := y1) (b := y1b) (l := (data3.set k2.toNat (gt data3 ((k2 - 1).toNat)))) Mm (.an (i := 16) (js := []) rfl Kr Kr Kr Kr) rfl rfl rfl (q_idx EOp ((k2 - 1).toNat) rfl rfl (fun _ => rfl) rfl (fun _ => rfl) rfl rfl rfl (.head _) rfl (fun _ => by omega) (fun _ => by first | assumption | omega | (simp only [List.length_set]; omega))) ?_
          refine ra_one 17 Kr ?_
          refine rw_stO EOp (data3.set k2.toNat (gt data3 ((k2 - 1).toNat))) ((k2 - 1).toNat) 0 (gt data3 k2.toNat) (e := 41) (X := y1) (b := y1b) (.an rfl rfl) (.inr (fun g h => by simp [h])) (guard_none rfl) rfl rfl rfl rfl rfl rfl rfl rfl rfl rfl rfl (by first | assumption | omega | (simp only [List.length_set]; omega)) rfl Uo ?_
          have hv4 : y1.val (data3.set k2.toNat (gt data3 ((k2 - 1).toNat))).length = y1.val ((data3.set k2.toNat (gt data3 ((k2 - 1).toNat))).set ((k2 - 1).toNat) (gt data3 k2.toNat)).length := congrArg (SlV.val y1) List.length_set.symm
          try rw [hv4]
          refine ra_nil Kr ?_
          refine Tx ?_
          refine rw_q rfl rfl rfl (q_sub rfl rfl (fun _ => rfl) rfl (fun _ => rfl) (fun _ => by omega)) ?_
          refine Tx ?_
          have hnx6 : ((k2 - 1) - a1).toNat + 1 = (k2 - a1).toNat + 1 - 1 := by omega
          refine ⟨⟨((data3.set k2.toNat (gt data3 ((k2 - 1).toNat))).set ((k2 - 1).toNat) (gt data3 k2.toNat)), (k2 - 1)⟩, ⟨(by simp only [List.length_append, List.length_cons, List.length_nil, List.length_set]; omega), (by rw [hnx6]; exact (by rw [← hf4]; (conv => lhs; rw [← hlt3_]); simp only [slices_symMergeCmpFunc_Op_L3, hc8, Bool.true_and, Bool.and_true, cond_true, cond_false] : (slices_symMergeCmpFunc_Op (k_ + 1) data1 a1 m1 b1 cmp1) = (slices_symMergeCmpFunc_Op_L3 i2 ((k2 - a1).toNat + 1 - 1) ((data3.set k2.toNat (gt data3 ((k2 - 1).toNat))).set ((k2 - 1).toNat) (gt data3 k2.toNat)) (k2 - 1))).symm)⟩, (by simp only []; omega), Le5⟩
        · have hc8p := of_decide_eq_false hc8
          refine Tx ?_
          have hr2 : (slices_symMergeCmpFunc_Op (k_ + 1) data1 a1 m1 b1 cmp1) = data3 := by rw [← hf4]; (conv => lhs; rw [← hlt3_]); simp only [slices_symMergeCmpFunc_Op_L3, hc8, Bool.true_and, Bool.and_true, cond_true, cond_false]
          refine cw_ret ?_
          rw [hr2]
          exact ⟨(), _, .nil, rfl, Sf, .nil _, Sp⟩
    · have hc5p := ne_of_beq_false hc5
      refine Tx ?_
      refine rw_q rfl rfl rfl (q_add rfl rfl (fun _ => rfl) rfl (fun _ => rfl) (fun _ => by omega)) ?_
      refine rw_q rfl rfl rfl (q_convU und_3 und_152 rfl rfl (fun _ => rfl) (fun _ => by omega)) ?_
      refine rw_q rfl rfl rfl (q_shr1 rfl rfl (fun _ => rfl)) ?_
      refine rw_q rfl rfl rfl (q_convI und_152 und_3 rfl rfl (fun _ => rfl) (fun _ => by omega)) ?_
      refine Tx ?_
      refine rw_q rfl rfl rfl (q_add rfl rfl (fun _ => rfl) rfl (fun _ => rfl) (fun _ => by omega)) ?_
      refine Ty ?_
      refine cw_joinB [0, 1, 2, 3, 4, 18, 19] [] (fun (i_ : Int × Int) => match i_ with | ⟨start1, r1⟩ => [(20, .v (.int .i64 start1)), (21, .v (.int .i64 r1))]) (fun (i_ : Int × Int) => match i_ with | ⟨start1, r1⟩ => []) (fun (i_ : Int × Int) => match i_ with | ⟨start1, r1⟩ => [ownL EOp 41 y1 y1b data1]) (fun (i_ : Int × Int) => match i_ with | ⟨start1, r1⟩ => []) (fun (i_ : Int × Int) => match i_ with | ⟨start1, r1⟩ => (a1 ≤ start1 ∧ start1 ≤ r1 ∧ r1 ≤ m1 ∧ r1 ≤ (a1 + b1) / 2 ∧ (a1 + b1) / 2 + m1 - start1 ≤ b1) ∧ start1 = ((slices_symMergeCmpFunc_Op_V8 a1 m1 b1)).1 ∧ r1 = ((slices_symMergeCmpFunc_Op_V8 a1 m1 b1)).2) (.cons rfl (.cons rfl (.cons rfl (.cons rfl (.cons rfl (.cons rfl (.cons rfl (.nil _)))))))) (.nil) ?_ ?_
      · (repeat refine cw_seq ?_)
        refine Cd (b := decide (m1 > ((a1 + b1) / 2))) (fun hc9 => ?_) fun hc9 => ?_
        · have hc9p := of_decide_eq_true hc9
          refine Tx ?_
          refine rw_q rfl rfl rfl (q_sub rfl rfl (fun _ => rfl) rfl (fun _ => rfl) (fun _ => by omega)) ?_
          refine Tx ?_
          have hv5 : (slices_symMergeCmpFunc_Op_V8 a1 m1 b1) = (((((a1 + b1) / 2) + m1) - b1), ((a1 + b1) / 2)) := by simp only [slices_symMergeCmpFunc_Op_V8, hc9, Bool.true_and, Bool.and_true, cond_true, cond_false]
          refine ⟨⟨((((a1 + b1) / 2) + m1) - b1), ((a1 + b1) / 2)⟩, ⟨(by (try simp only []); omega), (by rw [hv5]), (by rw [hv5])⟩, Le5⟩
        · have hc9p := of_decide_eq_false hc9
          refine Tx ?_
          have hv6 : (slices_symMergeCmpFunc_Op_V8 a1 m1 b1) = (a1, m1) := by simp only [slices_symMergeCmpFunc_Op_V8, hc9, Bool.true_and, Bool.and_true, cond_true, cond_false]
          refine ⟨⟨a1, m1⟩, ⟨(by (try simp only []); omega), (by rw [hv6]), (by rw [hv6])⟩, Le5⟩
      · rintro ⟨start1, r1⟩ ⟨hv8, rfl, rfl⟩
        simp only [List.cons_append, List.nil_append]
        refine Tx ?_
        refine rw_q rfl rfl rfl (q_sub rfl rfl (fun _ => rfl) rfl (fun _ => rfl) (fun _ => by omega)) ?_
        refine Ty ?_
        refine cw_joinB [0, 1, 2, 3, 4, 18, 19] [] (fun (start2 : Int) => [(20, .v (.int .i64 start2))]) (fun (start2 : Int) => []) (fun (start2 : Int) => [ownL EOp 41 y1 y1b data1]) (fun (start2 : Int) => []) (fun (start2 : Int) => (a1 ≤ start2 ∧ start2 ≤ m1 ∧ start2 ≤ (a1 + b1) / 2 ∧ (a1 + b1) / 2 + m1 - start2 ≤ b1) ∧ start2 = (slices_symMergeCmpFunc_Op_L4 data1 a1 m1 b1 cmp1 ((b1 - a1).toNat + 1) (((slices_symMergeCmpFunc_Op_V8 a1 m1 b1)).1) (((slices_symMergeCmpFunc_Op_V8 a1 m1 b1)).2))) (.cons rfl (.cons rfl (.cons rfl (.cons rfl (.cons rfl (.cons rfl (.cons rfl (.nil _)))))))) (.nil) ?_ ?_
        · refine Tx ?_
          (repeat refine cw_seq ?_); refine Lp [0,1,2,3,4,18,19,22] [] (fun (i_ : Int × Int × Nat) => match i_ with | ⟨start3, r2, fz3⟩ => (⟨[(20, .v (.int .i64 start3)), (21, .v (.int .i64 r2))], [], [ownL EOp 41 y1 y1b data1], [], (start3 ≤ r2 ∧ r2 ≤ m1 ∧ r2 ≤ (a1 + b1) / 2 ∧ a1 ≤ start3 ∧ start3 ≤ m1 ∧ start3 ≤ (a1 + b1) / 2 ∧ (a1 + b1) / 2 + m1 - start3 ≤ b1) ∧ ((r2 - start3).toNat < fz3) ∧ (slices_symMergeCmpFunc_Op_L4 data1 a1 m1 b1 cmp1 (fz3) start3 r2) = (slices_symMergeCmpFunc_Op_L4 data1 a1 m1 b1 cmp1 ((b1 - a1).toNat + 1) (((slices_symMergeCmpFunc_Op_V8 a1 m1 b1)).1) (((slices_symMergeCmpFunc_Op_V8 a1 m1 b1)).2)), fz3⟩ : Ls)) ⟨(((slices_symMergeCmpFunc_Op_V8 a1 m1 b1)).1), (((slices_symMergeCmpFunc_Op_V8 a1 m1 b1)).2), (b1 - a1).toNat + 1⟩ (Sc (Sc (Sc (Sc (Sc (Sc (Sc (Sc Sn)))))))) (.nil) ⟨(by first | exact Nat.le_refl _ | exact Nat.zero_le _ | omega), (by first | exact Nat.le_refl _ | exact Nat.zero_le _ | omega), (rfl : (slices_symMergeCmpFunc_Op_L4 data1 a1 m1 b1 cmp1 ((b1 - a1).toNat + 1) (((slices_symMergeCmpFunc_Op_V8 a1 m1 b1)).1) (((slices_symMergeCmpFunc_Op_V8 a1 m1 b1)).2)) = (slices_symMergeCmpFunc_Op_L4 data1 a1 m1 b1 cmp1 ((b1 - a1).toNat + 1) (((slices_symMergeCmpFunc_Op_V8 a1 m1 b1)).1) (((slices_symMergeCmpFunc_Op_V8 a1 m1 b1)).2))).symm⟩ Le5 ?_
          rintro ⟨start3, r2, fz3⟩ ⟨hi4, hzfz3, hf5⟩
          simp only [List.cons_append, List.nil_append]
          have hlt4_ : (fz3 - 1) + 1 = fz3 := by omega
          refine Tx ?_
          refine Cd (b := decide (start3 < r2)) (fun hc10 => ?_) fun hc10 => ?_
          · have hc10p := of_decide_eq_true hc10
            refine Tx ?_
            refine rw_q rfl rfl rfl (q_add rfl rfl (fun _ => rfl) rfl (fun _ => rfl) (fun _ => by omega)) ?_
            refine rw_q rfl rfl rfl (q_convU und_3 und_152 rfl rfl (fun _ => rfl) (fun _ => by omega)) ?_
            refine rw_q rfl rfl rfl (q_shr1 rfl rfl (fun _ => rfl)) ?_
            refine rw_q rfl rfl rfl (q_convI und_152 und_3 rfl rfl (fun _ => rfl) (fun _ => by omega)) ?_
            refine Tx ?_
            (repeat refine cw_seq ?_); refine cw_regionA (fun _ => some []) ?_
            refine Rb 0 [1,2,3,4,5,6,7,8,9,10] [11,12,13] rfl Qp ?_
            refine Rb 1 [2,3,4,7,8,9,10] [5,6,11,12,13] rfl Qp ?_
            refine Rb 2 [3,7,8,9,10] [4,5,6,11,12,13] rfl Qp ?_
            refine Rb 3 [7,8,9,10] [4,5,6,11,12,13] rfl Qp ?_
            refine Rb 4 [7,8,9,10] [5,6,11,12,13] rfl (q_sub rfl rfl (fun _ => rfl) rfl (fun _ => rfl) (fun _ => by omega)) ?_
            refine rw_qO EOp (e := 41) (X := y1) (b := y1b) (l := data1) Mm (.ab (i := 5) (js := [7, 8, 9, 10]) [6, 11, 12, 13] rfl Kr Kr Kr Kr Kr) rfl rfl rfl (q_idx EOp ((((((a1 + b1) / 2) + m1) - 1) - ((start3 + r2) / 2)).toNat) rfl rfl (fun _ => rfl) rfl (fun _ => rfl) rfl rfl rfl (.head _) rfl (fun _ => by omega) (fun _ => by first | assumption | omega | (simp only [List.length_set]; omega))) ?_
            refine rw_qO EOp (e := 41) (X := y1) (b := y1b) (l := data1) Mm (.ab (i := 6) (js := [7, 8, 9, 10]) [11, 12, 13] rfl Kr Kr Kr Kr Kr) rfl rfl rfl (q_leA EOp rfl rfl (fun _ => rfl) rfl rfl (.head _) (fun _ => by first | assumption | omega | (simp only [List.length_set]; omega))) ?_
            refine Rb 7 [8] [9,10,11,12,13] rfl Qp ?_
            refine Rb 8 [] [9,10,11,12,13] rfl Qp ?_
            refine rw_qO EOp (e := 41) (X := y1) (b := y1b) (l := data1) Mm (.ab (i := 9) (js := []) [10, 11, 12, 13] rfl Kr Kr Kr Kr Kr) rfl rfl rfl (q_idx EOp (((start3 + r2) / 2).toNat) rfl rfl (fun _ => rfl) rfl (fun _ => rfl) rfl rfl rfl (.head _) rfl (fun _ => by omega) (fun _ => by first | assumption | omega | (simp only [List.length_set]; omega))) ?_
            refine rw_qO EOp (e := 41) (X := y1) (b := y1b) (l := data1) Mm (.ab (i := 10) (js := []) [11, 12, 13] rfl Kr Kr Kr Kr Kr) rfl rfl rfl (q_leA EOp rfl rfl (fun _ => rfl) rfl rfl (.head _) (fun _ => by first | assumption | omega | (simp only [List.length_set]; omega))) ?_
            refine ra_one 11 Kr ?_
            refine rw_callv (hfn1 (gt data1 ((((((a1 + b1) / 2) + m1) - 1) - ((start3 + r2) / 2)).toNat)) (gt data1 (((start3 + r2) / 2).toNat))) (.an rfl rfl) (guard_none rfl) rfl rfl rfl rfl rfl (by assumption) rfl rfl rfl Sf ?_
            intro _
            refine Ra 12 [] rfl Qp ?_
            refine Ra 13 [] rfl Qp ?_
            refine ra_nil Kr ?_
            (repeat refine cw_seq ?_)
            refine Cd (b := (!(decide ((cmp1 (gt data1 ((((((a1 + b1) / 2) + m1) - 1) - ((start3 + r2) / 2)).toNat)) (gt data1 (((start3 + r2) / 2).toNat))) < 0)))) (fun hc11 => ?_) fun hc11 => ?_
            · refine Tx ?_
              refine rw_q rfl rfl rfl (q_add rfl rfl (fun _ => rfl) rfl (fun _ => rfl) (fun _ => by omega)) ?_
              refine Tx ?_
              refine ⟨⟨(((start3 + r2) / 2) + 1), r2, (fz3 - 1)⟩, ⟨(by (try simp only []); omega), (by (try simp only []); first | omega | (simp only [List.length_append, List.length_cons, List.length_nil]; omega)), (by rw [← hf5]; (conv => lhs; rw [← hlt4_]); simp only [slices_symMergeCmpFunc_Op_L4, hc10, hc11, Bool.true_and, Bool.and_true, cond_true, cond_false] : (slices_symMergeCmpFunc_Op_L4 data1 a1 m1 b1 cmp1 ((b1 - a1).toNat + 1) (((slices_symMergeCmpFunc_Op_V8 a1 m1 b1)).1) (((slices_symMergeCmpFunc_Op_V8 a1 m1 b1)).2)) = (slices_symMergeCmpFunc_Op_L4 data1 a1 m1 b1 cmp1 (fz3 - 1) (((start3 + r2) / 2) + 1) r2)).symm⟩, (by simp only []; omega), Le5⟩
            · refine Tx ?_
              refine ⟨⟨start3, ((start3 + r2) / 2), (fz3 - 1)⟩, ⟨(by (try simp only []); omega), (by (try simp only []); first | omega | (simp only [List.length_append, List.length_cons, List.length_nil]; omega)), (by rw [← hf5]; (conv => lhs; rw [← hlt4_]); simp only [slices_symMergeCmpFunc_Op_L4, hc10, hc11, Bool.true_and, Bool.and_true, cond_true, cond_false] : (slices_symMergeCmpFunc_Op_L4 data1 a1 m1 b1 cmp1 ((b1 - a1).toNat + 1) (((slices_symMergeCmpFunc_Op_V8 a1 m1 b1)).1) (((slices_symMergeCmpFunc_Op_V8 a1 m1 b1)).2)) = (slices_symMergeCmpFunc_Op_L4 data1 a1 m1 b1 cmp1 (fz3 - 1) start3 ((start3 + r2) / 2))).symm⟩, (by simp only []; omega), Le5⟩
          · have hc10p := of_decide_eq_false hc10
            refine Tx ?_
            have hv7 : (slices_symMergeCmpFunc_Op_L4 data1 a1 m1 b1 cmp1 ((b1 - a1).toNat + 1) (((slices_symMergeCmpFunc_Op_V8 a1 m1 b1)).1) (((slices_symMergeCmpFunc_Op_V8 a1 m1 b1)).2)) = start3 := by rw [← hf5]; (conv => lhs; rw [← hlt4_]); simp only [slices_symMergeCmpFunc_Op_L4, hc10, Bool.true_and, Bool.and_true, cond_true, cond_false]
            refine ⟨start3, ⟨(by (try simp only []); omega), hv7.symm⟩, Le5⟩
        · rintro start2 ⟨hv4, rfl⟩
          simp only [List.cons_append, List.nil_append]
          refine Tx ?_
          refine rw_q rfl rfl rfl (q_sub rfl rfl (fun _ => rfl) rfl (fun _ => rfl) (fun _ => by omega)) ?_
          refine Ty ?_
          refine cw_joinB [1, 3, 4, 18, 20, 24] [] (fun (data4 : List Op) => [(0, .v (y1.val data4.length))]) (fun (data4 : List Op) => []) (fun (data4 : List Op) => [ownL EOp 41 y1 y1b data4]) (fun (data4 : List Op) => []) (fun (data4 : List Op) => (data4.length = data1.length) ∧ data4 = (slices_symMergeCmpFunc_Op_V11 data1 a1 m1 b1 cmp1)) (.cons rfl (.cons rfl (.cons rfl (.cons rfl (.cons rfl (.cons rfl (.nil _))))))) (.nil) ?_ ?_
          · (repeat refine cw_seq ?_)
            refine Cd (b := (decide (((slices_symMergeCmpFunc_Op_L4 data1 a1 m1 b1 cmp1 ((b1 - a1).toNat + 1) (((slices_symMergeCmpFunc_Op_V8 a1 m1 b1)).1) (((slices_symMergeCmpFunc_Op_V8 a1 m1 b1)).2))) < m1) && decide (m1 < ((((a1 + b1) / 2) + m1) - ((slices_symMergeCmpFunc_Op_L4 data1 a1 m1 b1 cmp1 ((b1 - a1).toNat + 1) (((slices_symMergeCmpFunc_Op_V8 a1 m1 b1)).1) (((slices_symMergeCmpFunc_Op_V8 a1 m1 b1)).2))))))) (fun hc12 => ?_) fun hc12 => ?_
            · have hz11 := hc12
              simp only [Bool.and_eq_true, decide_eq_true_eq] at hz11
              refine Tx ?_
              refine rw_callG (slices_rotateCmpFunc_Op_spec y1 y1b data1 ((slices_symMergeCmpFunc_Op_L4 data1 a1 m1 b1 cmp1 ((b1 - a1).toNat + 1) (((slices_symMergeCmpFunc_Op_V8 a1 m1 b1)).1) (((slices_symMergeCmpFunc_Op_V8 a1 m1 b1)).2))) m1 ((((a1 + b1) / 2) + m1) - ((slices_symMergeCmpFunc_Op_L4 data1 a1 m1 b1 cmp1 ((b1 - a1).toNat + 1) (((slices_symMergeCmpFunc_Op_V8 a1 m1 b1)).1) (((slices_symMergeCmpFunc_Op_V8 a1 m1 b1)).2)))) _ _ _ cmp1 (by assumption) hfn1 (by omega)) .sq (.inl ⟨_, rfl⟩) (guard_none rfl) rfl rfl rfl Kr rfl rfl Sf (.nil _) (by first | exact .cons (.here _ _) (.nil _) | exact .cons (.there _ (.here _ _)) (.nil _) | exact .cons (.there _ (.there _ (.here _ _))) (.nil _) | exact .cons (.there _ (.there _ (.there _ (.here _ _)))) (.nil _)) ?_
              intro _
              have hv8l : data1.length = (slices_rotateCmpFunc_Op data1 ((slices_symMergeCmpFunc_Op_L4 data1 a1 m1 b1 cmp1 ((b1 - a1).toNat + 1) (((slices_symMergeCmpFunc_Op_V8 a1 m1 b1)).1) (((slices_symMergeCmpFunc_Op_V8 a1 m1 b1)).2))) m1 ((((a1 + b1) / 2) + m1) - ((slices_symMergeCmpFunc_Op_L4 data1 a1 m1 b1 cmp1 ((b1 - a1).toNat + 1) (((slices_symMergeCmpFunc_Op_V8 a1 m1 b1)).1) (((slices_symMergeCmpFunc_Op_V8 a1 m1 b1)).2)))) cmp1).length := (RT_Op_len data1 ((slices_symMergeCmpFunc_Op_L4 data1 a1 m1 b1 cmp1 ((b1 - a1).toNat + 1) (((slices_symMergeCmpFunc_Op_V8 a1 m1 b1)).1) (((slices_symMergeCmpFunc_Op_V8 a1 m1 b1)).2))) m1 ((((a1 + b1) / 2) + m1) - ((slices_symMergeCmpFunc_Op_L4 data1 a1 m1 b1 cmp1 ((b1 - a1).toNat + 1) (((slices_symMergeCmpFunc_Op_V8 a1 m1 b1)).1) (((slices_symMergeCmpFunc_Op_V8 a1 m1 b1)).2)))) cmp1 (by omega)).symm
              have hv8 : y1.val data1.length = y1.val (slices_rotateCmpFunc_Op data1 ((slices_symMergeCmpFunc_Op_L4 data1 a1 m1 b1 cmp1 ((b1 - a1).toNat + 1) (((slices_symMergeCmpFunc_Op_V8 a1 m1 b1)).1) (((slices_symMergeCmpFunc_Op_V8 a1 m1 b1)).2))) m1 ((((a1 + b1) / 2) + m1) - ((slices_symMergeCmpFunc_Op_L4 data1 a1 m1 b1 cmp1 ((b1 - a1).toNat + 1) (((slices_symMergeCmpFunc_Op_V8 a1 m1 b1)).1) (((slices_symMergeCmpFunc_Op_V8 a1 m1 b1)).2)))) cmp1).length := congrArg (SlV.val y1) hv8l
              try rw [hv8]
              refine rw_nil ?_
              have hv9 : (slices_symMergeCmpFunc_Op_V11 data1 a1 m1 b1 cmp1) = (slices_rotateCmpFunc_Op data1 ((slices_symMergeCmpFunc_Op_L4 data1 a1 m1 b1 cmp1 ((b1 - a1).toNat + 1) (((slices_symMergeCmpFunc_Op_V8 a1 m1 b1)).1) (((slices_symMergeCmpFunc_Op_V8 a1 m1 b1)).2))) m1 ((((a1 + b1) / 2) + m1) - ((slices_symMergeCmpFunc_Op_L4 data1 a1 m1 b1 cmp1 ((b1 - a1).toNat + 1) (((slices_symMergeCmpFunc_Op_V8 a1 m1 b1)).1) (((slices_symMergeCmpFunc_Op_V8 a1 m1 b1)).2)))) cmp1) := by simp only [slices_symMergeCmpFunc_Op_V11, hc12, Bool.true_and, Bool.and_true, cond_true, cond_false]
              refine ⟨(slices_rotateCmpFunc_Op data1 ((slices_symMergeCmpFunc_Op_L4 data1 a1 m1 b1 cmp1 ((b1 - a1).toNat + 1) (((slices_symMergeCmpFunc_Op_V8 a1 m1 b1)).1) (((slices_symMergeCmpFunc_Op_V8 a1 m1 b1)).2))) m1 ((((a1 + b1) / 2) + m1) - ((slices_symMergeCmpFunc_Op_L4 data1 a1 m1 b1 cmp1 ((b1 - a1).toNat + 1) (((slices_symMergeCmpFunc_Op_V8 a1 m1 b1)).1) (((slices_symMergeCmpFunc_Op_V8 a1 m1 b1)).2)))) cmp1), ⟨(by first | rfl | exact RT_Op_len _ _ _ _ _ (by omega)), hv9.symm⟩, Le5⟩
            · refine Tx ?_
              have hv10 : (slices_symMergeCmpFunc_Op_V11 data1 a1 m1 b1 cmp1) = data1 := by simp only [slices_symMergeCmpFunc_Op_V11, hc12, Bool.true_and, Bool.and_true, cond_true, cond_false]
              refine ⟨data1, ⟨(by first | rfl | exact RT_Op_len _ _ _ _ _ (by omega)), hv10.symm⟩, Le5⟩
          · rintro data4 ⟨hv11, rfl⟩
            simp only [List.cons_append, List.nil_append]
            refine Tx ?_
            refine Cd (b := (decide (a1 < ((slices_symMergeCmpFunc_Op_L4 data1 a1 m1 b1 cmp1 ((b1 - a1).toNat + 1) (((slices_symMergeCmpFunc_Op_V8 a1 m1 b1)).1) (((slices_symMergeCmpFunc_Op_V8 a1 m1 b1)).2)))) && decide (((slices_symMergeCmpFunc_Op_L4 data1 a1 m1 b1 cmp1 ((b1 - a1).toNat + 1) (((slices_symMergeCmpFunc_Op_V8 a1 m1 b1)).1) (((slices_symMergeCmpFunc_Op_V8 a1 m1 b1)).2))) < ((a1 + b1) / 2)))) (fun hc13 => ?_) fun hc13 => ?_
            · have hz12 := hc13
              simp only [Bool.and_eq_true, decide_eq_true_eq] at hz12
              refine Tx ?_
              refine rw_callG (ih_ y1 y1b ((slices_symMergeCmpFunc_Op_V11 data1 a1 m1 b1 cmp1)) a1 ((slices_symMergeCmpFunc_Op_L4 data1 a1 m1 b1 cmp1 ((b1 - a1).toNat + 1) (((slices_symMergeCmpFunc_Op_V8 a1 m1 b1)).1) (((slices_symMergeCmpFunc_Op_V8 a1 m1 b1)).2))) ((a1 + b1) / 2) _ _ _ cmp1 (by assumption) hfn1 (by omega) (by omega)) .sq (.inl ⟨_, rfl⟩) (guard_none rfl) rfl rfl rfl Kr rfl rfl Sf (.nil _) (by first | exact .cons (.here _ _) (.nil _) | exact .cons (.there _ (.here _ _)) (.nil _) | exact .cons (.there _ (.there _ (.here _ _))) (.nil _) | exact .cons (.there _ (.there _ (.there _ (.here _ _)))) (.nil _)) ?_
              intro _
              have hv11l : ((slices_symMergeCmpFunc_Op_V11 data1 a1 m1 b1 cmp1)).length = (slices_symMergeCmpFunc_Op k_ ((slices_symMergeCmpFunc_Op_V11 data1 a1 m1 b1 cmp1)) a1 ((slices_symMergeCmpFunc_Op_L4 data1 a1 m1 b1 cmp1 ((b1 - a1).toNat + 1) (((slices_symMergeCmpFunc_Op_V8 a1 m1 b1)).1) (((slices_symMergeCmpFunc_Op_V8 a1 m1 b1)).2))) ((a1 + b1) / 2) cmp1).length := (SM_Op_len k_ ((slices_symMergeCmpFunc_Op_V11 data1 a1 m1 b1 cmp1)) a1 ((slices_symMergeCmpFunc_Op_L4 data1 a1 m1 b1 cmp1 ((b1 - a1).toNat + 1) (((slices_symMergeCmpFunc_Op_V8 a1 m1 b1)).1) (((slices_symMergeCmpFunc_Op_V8 a1 m1 b1)).2))) ((a1 + b1) / 2) cmp1 (by omega) (by omega)).symm
              have hv11 : y1.val ((slices_symMergeCmpFunc_Op_V11 data1 a1 m1 b1 cmp1)).length = y1.val (slices_symMergeCmpFunc_Op k_ ((slices_symMergeCmpFunc_Op_V11 data1 a1 m1 b1 cmp1)) a1 ((slices_symMergeCmpFunc_Op_L4 data1 a1 m1 b1 cmp1 ((b1 - a1).toNat + 1) (((slices_symMergeCmpFunc_Op_V8 a1 m1 b1)).1) (((slices_symMergeCmpFunc_Op_V8 a1 m1 b1)).2))) ((a1 + b1) / 2) cmp1).length := congrArg (SlV.val y1) hv11l
              try rw [hv11]
              refine Tx ?_
              refine Cd (b := (decide (((a1 + b1) / 2) < ((((a1 + b1) / 2) + m1) - ((slices_symMergeCmpFunc_Op_L4 data1 a1 m1 b1 cmp1 ((b1 - a1).toNat + 1) (((slices_symMergeCmpFunc_Op_V8 a1 m1 b1)).1) (((slices_symMergeCmpFunc_Op_V8 a1 m1 b1)).2))))) && decide (((((a1 + b1) / 2) + m1) - ((slices_symMergeCmpFunc_Op_L4 data1 a1 m1 b1 cmp1 ((b1 - a1).toNat + 1) (((slices_symMergeCmpFunc_Op_V8 a1 m1 b1)).1) (((slices_symMergeCmpFunc_Op_V8 a1 m1 b1)).2)))) < b1))) (fun hc14 => ?_) fun hc14 => ?_
              · have hz13 := hc14
                simp only [Bool.and_eq_true, decide_eq_true_eq] at hz13
                refine Tx ?_
                refine rw_callG (ih_ y1 y1b (slices_symMergeCmpFunc_Op k_ ((slices_symMergeCmpFunc_Op_V11 data1 a1 m1 b1 cmp1)) a1 ((slices_symMergeCmpFunc_Op_L4 data1 a1 m1 b1 cmp1 ((b1 - a1).toNat + 1) (((slices_symMergeCmpFunc_Op_V8 a1 m1 b1)).1) (((slices_symMergeCmpFunc_Op_V8 a1 m1 b1)).2))) ((a1 + b1) / 2) cmp1) ((a1 + b1) / 2) ((((a1 + b1) / 2) + m1) - ((slices_symMergeCmpFunc_Op_L4 data1 a1 m1 b1 cmp1 ((b1 - a1).toNat + 1) (((slices_symMergeCmpFunc_Op_V8 a1 m1 b1)).1) (((slices_symMergeCmpFunc_Op_V8 a1 m1 b1)).2)))) b1 _ _ _ cmp1 (by assumption) hfn1 (by omega) (by omega)) .sq (.inl ⟨_, rfl⟩) (guard_none rfl) rfl rfl rfl Kr rfl rfl Sf (.nil _) (by first | exact .cons (.here _ _) (.nil _) | exact .cons (.there _ (.here _ _)) (.nil _) | exact .cons (.there _ (.there _ (.here _ _))) (.nil _) | exact .cons (.there _ (.there _ (.there _ (.here _ _)))) (.nil _)) ?_
                intro _
                have hv12l : (slices_symMergeCmpFunc_Op k_ ((slices_symMergeCmpFunc_Op_V11 data1 a1 m1 b1 cmp1)) a1 ((slices_symMergeCmpFunc_Op_L4 data1 a1 m1 b1 cmp1 ((b1 - a1).toNat + 1) (((slices_symMergeCmpFunc_Op_V8 a1 m1 b1)).1) (((slices_symMergeCmpFunc_Op_V8 a1 m1 b1)).2))) ((a1 + b1) / 2) cmp1).length = (slices_symMergeCmpFunc_Op k_ (slices_symMergeCmpFunc_Op k_ ((slices_symMergeCmpFunc_Op_V11 data1 a1 m1 b1 cmp1)) a1 ((slices_symMergeCmpFunc_Op_L4 data1 a1 m1 b1 cmp1 ((b1 - a1).toNat + 1) (((slices_symMergeCmpFunc_Op_V8 a1 m1 b1)).1) (((slices_symMergeCmpFunc_Op_V8 a1 m1 b1)).2))) ((a1 + b1) / 2) cmp1) ((a1 + b1) / 2) ((((a1 + b1) / 2) + m1) - ((slices_symMergeCmpFunc_Op_L4 data1 a1 m1 b1 cmp1 ((b1 - a1).toNat + 1) (((slices_symMergeCmpFunc_Op_V8 a1 m1 b1)).1) (((slices_symMergeCmpFunc_Op_V8 a1 m1 b1)).2)))) b1 cmp1).length := (SM_Op_len k_ (slices_symMergeCmpFunc_Op k_ ((slices_symMergeCmpFunc_Op_V11 data1 a1 m1 b1 cmp1)) a1 ((slices_symMergeCmpFunc_Op_L4 data1 a1 m1 b1 cmp1 ((b1 - a1).toNat + 1) (((slices_symMergeCmpFunc_Op_V8 a1 m1 b1)).1) (((slices_symMergeCmpFunc_Op_V8 a1 m1 b1)).2))) ((a1 + b1) / 2) cmp1) ((a1 + b1) / 2) ((((a1 + b1) / 2) + m1) - ((slices_symMergeCmpFunc_Op_L4 data1 a1 m1 b1 cmp1 ((b1 - a1).toNat + 1) (((slices_symMergeCmpFunc_Op_V8 a1 m1 b1)).1) (((slices_symMergeCmpFunc_Op_V8 a1 m1 b1)).2)))) b1 cmp1 (by omega) (by omega)).symm
                have hv12 : y1.val (slices_symMergeCmpFunc_Op k_ ((slices_symMergeCmpFunc_Op_V11 data1 a1 m1 b1 cmp1)) a1 ((slices_symMergeCmpFunc_Op_L4 data1 a1 m1 b1 cmp1 ((b1 - a1).toNat + 1) (((slices_symMergeCmpFunc_Op_V8 a1 m1 b1)).1) (((slices_symMergeCmpFunc_Op_V8 a1 m1 b1)).2))) ((a1 + b1) / 2) cmp1).length = y1.val (slices_symMergeCmpFunc_Op k_ (slices_symMergeCmpFunc_Op k_ ((slices_symMergeCmpFunc_Op_V11 data1 a1 m1 b1 cmp1)) a1 ((slices_symMergeCmpFunc_Op_L4 data1 a1 m1 b1 cmp1 ((b1 - a1).toNat + 1) (((slices_symMergeCmpFunc_Op_V8 a1 m1 b1)).1) (((slices_symMergeCmpFunc_Op_V8 a1 m1 b1)).2))) ((a1 + b1) / 2) cmp1) ((a1 + b1) / 2) ((((a1 + b1) / 2) + m1) - ((slices_symMergeCmpFunc_Op_L4 data1 a1 m1 b1 cmp1 ((b1 - a1).toNat + 1) (((slices_symMergeCmpFunc_Op_V8 a1 m1 b1)).1) (((slices_symMergeCmpFunc_Op_V8 a1 m1 b1)).2)))) b1 cmp1).length := congrArg (SlV.val y1) hv12l
                try rw [hv12]
                refine rw_nil ?_
                have hr3 : (slices_symMergeCmpFunc_Op (k_ + 1) data1 a1 m1 b1 cmp1) = (slices_symMergeCmpFunc_Op k_ (slices_symMergeCmpFunc_Op k_ ((slices_symMergeCmpFunc_Op_V11 data1 a1 m1 b1 cmp1)) a1 ((slices_symMergeCmpFunc_Op_L4 data1 a1 m1 b1 cmp1 ((b1 - a1).toNat + 1) (((slices_symMergeCmpFunc_Op_V8 a1 m1 b1)).1) (((slices_symMergeCmpFunc_Op_V8 a1 m1 b1)).2))) ((a1 + b1) / 2) cmp1) ((a1 + b1) / 2) ((((a1 + b1) / 2) + m1) - ((slices_symMergeCmpFunc_Op_L4 data1 a1 m1 b1 cmp1 ((b1 - a1).toNat + 1) (((slices_symMergeCmpFunc_Op_V8 a1 m1 b1)).1) (((slices_symMergeCmpFunc_Op_V8 a1 m1 b1)).2)))) b1 cmp1) := by simp only [slices_symMergeCmpFunc_Op, hc1, hc5, hc13, hc14, Bool.true_and, Bool.and_true, cond_true, cond_false]
                rw [hr3]
                exact ⟨(), _, .nil, rfl, Sf, .nil _, Sp⟩
              · refine Tx ?_
                have hr4 : (slices_symMergeCmpFunc_Op (k_ + 1) data1 a1 m1 b1 cmp1) = (slices_symMergeCmpFunc_Op k_ ((slices_symMergeCmpFunc_Op_V11 data1 a1 m1 b1 cmp1)) a1 ((slices_symMergeCmpFunc_Op_L4 data1 a1 m1 b1 cmp1 ((b1 - a1).toNat + 1) (((slices_symMergeCmpFunc_Op_V8 a1 m1 b1)).1) (((slices_symMergeCmpFunc_Op_V8 a1 m1 b1)).2))) ((a1 + b1) / 2) cmp1) := by simp only [slices_symMergeCmpFunc_Op, hc1, hc5, hc13, hc14, Bool.true_and, Bool.and_true, cond_true, cond_false]
                rw [hr4]
                exact ⟨(), _, .nil, rfl, Sf, .nil _, Sp⟩
            · refine Tx ?_
              refine Cd (b := (decide (((a1 + b1) / 2) < ((((a1 + b1) / 2) + m1) - ((slices_symMergeCmpFunc_Op_L4 data1 a1 m1 b1 cmp1 ((b1 - a1).toNat + 1) (((slices_symMergeCmpFunc_Op_V8 a1 m1 b1)).1) (((slices_symMergeCmpFunc_Op_V8 a1 m1 b1)).2))))) && decide (((((a1 + b1) / 2) + m1) - ((slices_symMergeCmpFunc_Op_L4 data1 a1 m1 b1 cmp1 ((b1 - a1).toNat + 1) (((slices_symMergeCmpFunc_Op_V8 a1 m1 b1)).1) (((slices_symMergeCmpFunc_Op_V8 a1 m1 b1)).2)))) < b1))) (fun hc15 => ?_) fun hc15 => ?_
              · have hz13 := hc15
                simp only [Bool.and_eq_true, decide_eq_true_eq] at hz13
                refine Tx ?_
                refine rw_callG (ih_ y1 y1b ((slices_symMergeCmpFunc_Op_V11 data1 a1 m1 b1 cmp1)) ((a1 + b1) / 2) ((((a1 + b1) / 2) + m1) - ((slices_symMergeCmpFunc_Op_L4 data1 a1 m1 b1 cmp1 ((b1 - a1).toNat + 1) (((slices_symMergeCmpFunc_Op_V8 a1 m1 b1)).1) (((slices_symMergeCmpFunc_Op_V8 a1 m1 b1)).2)))) b1 _ _ _ cmp1 (by assumption) hfn1 (by omega) (by omega)) .sq (.inl ⟨_, rfl⟩) (guard_none rfl) rfl rfl rfl Kr rfl rfl Sf (.nil _) (by first | exact .cons (.here _ _) (.nil _) | exact .cons (.there _ (.here _ _)) (.nil _) | exact .cons (.there _ (.there _ (.here _ _))) (.nil _) | exact .cons (.there _ (.there _ (.there _ (.here _ _)))) (.nil _)) ?_
                intro _
                have hv13l : ((slices_symMergeCmpFunc_Op_V11 data1 a1 m1 b1 cmp1)).length = (slices_symMergeCmpFunc_Op k_ ((slices_symMergeCmpFunc_Op_V11 data1 a1 m1 b1 cmp1)) ((a1 + b1) / 2) ((((a1 + b1) / 2) + m1) - ((slices_symMergeCmpFunc_Op_L4 data1 a1 m1 b1 cmp1 ((b1 - a1).toNat + 1) (((slices_symMergeCmpFunc_Op_V8 a1 m1 b1)).1) (((slices_symMergeCmpFunc_Op_V8 a1 m1 b1)).2)))) b1 cmp1).length := (SM_Op_len k_ ((slices_symMergeCmpFunc_Op_V11 data1 a1 m1 b1 cmp1)) ((a1 + b1) / 2) ((((a1 + b1) / 2) + m1) - ((slices_symMergeCmpFunc_Op_L4 data1 a1 m1 b1 cmp1 ((b1 - a1).toNat + 1) (((slices_symMergeCmpFunc_Op_V8 a1 m1 b1)).1) (((slices_symMergeCmpFunc_Op_V8 a1 m1 b1)).2)))) b1 cmp1 (by omega) (by omega)).symm
                have hv13 : y1.val ((slices_symMergeCmpFunc_Op_V11 data1 a1 m1 b1 cmp1)).length = y1.val (slices_symMergeCmpFunc_Op k_ ((slices_symMergeCmpFunc_Op_V11 data1 a1 m1 b1 cmp1)) ((a1 + b1) / 2) ((((a1 + b1) / 2) + m1) - ((slices_symMergeCmpFunc_Op_L4 data1 a1 m1 b1 cmp1 ((b1 - a1).toNat + 1) (((slices_symMergeCmpFunc_Op_V8 a1 m1 b1)).1) (((slices_symMergeCmpFunc_Op_V8 a1 m1 b1)).2)))) b1 cmp1).length := congrArg (SlV.val y1) hv13l
                try rw [hv13]
                refine rw_nil ?_
                have hr5 : (slices_symMergeCmpFunc_Op (k_ + 1) data1 a1 m1 b1 cmp1) = (slices_symMergeCmpFunc_Op k_ ((slices_symMergeCmpFunc_Op_V11 data1 a1 m1 b1 cmp1)) ((a1 + b1) / 2) ((((a1 + b1) / 2) + m1) - ((slices_symMergeCmpFunc_Op_L4 data1 a1 m1 b1 cmp1 ((b1 - a1).toNat + 1) (((slices_symMergeCmpFunc_Op_V8 a1 m1 b1)).1) (((slices_symMergeCmpFunc_Op_V8 a1 m1 b1)).2)))) b1 cmp1) := by simp only [slices_symMergeCmpFunc_Op, hc1, hc5, hc13, hc15, Bool.true_and, Bool.and_true, cond_true, cond_false]
                rw [hr5]
                exact ⟨(), _, .nil, rfl, Sf, .nil _, Sp⟩
              · refine Tx ?_
                have hr6 : (slices_symMergeCmpFunc_Op (k_ + 1) data1 a1 m1 b1 cmp1) = ((slices_symMergeCmpFunc_Op_V11 data1 a1 m1 b1 cmp1)) := by simp only [slices_symMergeCmpFunc_Op, hc1, hc5, hc13, hc15, Bool.true_and, Bool.and_true, cond_true, cond_false]
                rw [hr6]
                exact ⟨(), _, .nil, rfl, Sf, .nil _, Sp⟩
end Go.Proofs.YtccmadehnoihnaaGreatDoor
