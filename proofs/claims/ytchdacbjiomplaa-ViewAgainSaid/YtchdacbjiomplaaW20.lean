/- Part of this claim. No condition. -/
import Derived.Test.YtchdacbjiomplaaWV
import Derived.Test.YtchdacbjiomplaaWB
import Derived.Test.YtchdacbjiomplaaWS
set_option linter.unusedVariables false
set_option linter.unusedSimpArgs false
set_option maxHeartbeats 2000000
namespace Go.Proofs.Ytchdacbjiomplaa
open Go Go.Proofs.Ytchdacbjiomplaa.Fw Go.Proofs
attribute [local irreducible] RdL RdN VarP RW CW
def slices_insertionSortCmpFunc_Place_L1 (a1 : Int) (cmp1 : Place → Place → Int) : Nat → (List Place) → Int → (List Place)
  | 0, data4, j1 => default
  | f_k1 + 1, data4, j1 => (bif decide (j1 > a1) then (bif (decide (j1 > a1) && decide ((cmp1 (gt data4 j1.toNat) (gt data4 ((j1 - 1).toNat))) < 0)) then (slices_insertionSortCmpFunc_Place_L1 a1 cmp1 f_k1 ((data4.set j1.toNat (gt data4 ((j1 - 1).toNat))).set ((j1 - 1).toNat) (gt data4 j1.toNat)) (j1 - 1)) else data4) else data4)
def slices_insertionSortCmpFunc_Place_L0 (a1 : Int) (b1 : Int) (cmp1 : Place → Place → Int) : Nat → (List Place) → Int → (List Place)
  | 0, data2, i1 => default
  | f_k0 + 1, data2, i1 => (bif decide (i1 < b1) then (slices_insertionSortCmpFunc_Place_L0 a1 b1 cmp1 f_k0 ((slices_insertionSortCmpFunc_Place_L1 a1 cmp1 ((i1 - a1).toNat + 1) data2 i1)) (i1 + 1)) else data2)
def slices_insertionSortCmpFunc_Place (data1 : List Place) (a1 : Int) (b1 : Int) (cmp1 : Place → Place → Int) : List Place :=
  (slices_insertionSortCmpFunc_Place_L0 a1 b1 cmp1 ((b1 - (a1 + 1)).toNat + 1) data1 (a1 + 1))
theorem slices_insertionSortCmpFunc_Place_spec (y1 : SlV) (y1b : Option Nat) (data1 : List Place) (a1 : Int) (b1 : Int) (f1 : Nat) (caps1 : List Value) (pre1 : List Pred) [StabL pre1] (cmp1 : Place → Place → Int) (hfb1 : tab.fnb f1 = true) (hfn1 : ∀ (a0_ : Place) (a1_ : Place), Does Try.prog f1 ([.agg ⟨[.int .i64 a0_.node, .int .i64 a0_.parent, .int .i64 a0_.name]⟩, .agg ⟨[.int .i64 a1_.node, .int .i64 a1_.parent, .int .i64 a1_.name]⟩] ++ caps1) pre1 (fun (_ : Unit) => .int .i64 (cmp1 a0_ a1_)) (fun (_ : Unit) => [])) (hab : 0 ≤ a1 ∧ a1 ≤ b1 ∧ b1 ≤ (data1.length : Int)) : DoesG Try.prog 191 [y1.val data1.length, .int .i64 a1, .int .i64 b1, .func (.func f1) #[] ⟨caps1⟩] (pre1) ⟨[], [ownL EPlace 35 y1 y1b data1]⟩ (fun (_ : Unit) => .tuple #[]) (fun (_ : Unit) => []) (fun (_ : Unit) => ⟨[], [ownL EPlace 35 y1 y1b (slices_insertionSortCmpFunc_Place data1 a1 b1 cmp1)]⟩) := by
  refine does_ofG tab_ok Try.func191 rfl Try.ntmps191 Try.results191 rfl inferInstance (fun _ => inferInstance) fun C => ?_
  refine cw_lenO EPlace (e := 35) (X := y1) (b := y1b) (l := data1) Mm fun hl63y1 hleny1 => ?_
  simp only [show EPlace.by_ = 24 from rfl] at hleny1
  refine Tx ?_
  refine rw_q rfl rfl rfl (q_add rfl rfl (fun _ => rfl) rfl (fun _ => rfl) (fun _ => by omega)) ?_
  refine Tx ?_
  (repeat refine cw_seq ?_); refine Lp [1,2,3] [] (fun (i_ : List Place × Int) => match i_ with | ⟨data2, i1⟩ => (⟨[(0, .v (y1.val data2.length)), (8, .v (.int .i64 i1))], [], [ownL EPlace 35 y1 y1b data2], [], (a1 + 1 ≤ i1 ∧ data2.length = data1.length) ∧ (slices_insertionSortCmpFunc_Place_L0 a1 b1 cmp1 ((b1 - i1).toNat + 1) data2 i1) = (slices_insertionSortCmpFunc_Place data1 a1 b1 cmp1), (b1 - i1).toNat + 1⟩ : Ls)) ⟨data1, (a1 + 1)⟩ (Sc (Sc (Sc Sn))) (.nil) ⟨(by first | exact Nat.le_refl _ | exact Nat.zero_le _ | omega), (by simp only [slices_insertionSortCmpFunc_Place, Bool.true_and, Bool.and_true, cond_true, cond_false] : (slices_insertionSortCmpFunc_Place data1 a1 b1 cmp1) = (slices_insertionSortCmpFunc_Place_L0 a1 b1 cmp1 ((b1 - (a1 + 1)).toNat + 1) data1 (a1 + 1))).symm⟩ Le5 ?_
  rintro ⟨data2, i1⟩ ⟨hi, hf1⟩
  simp only [List.cons_append, List.nil_append]
  have hlt0_ : (b1 - i1).toNat + 1 = ((b1 - i1).toNat + 1 - 1) + 1 := by omega
  refine Tx ?_
  refine Cd (b := decide (i1 < b1)) (fun hc1 => ?_) fun hc1 => ?_
  · have hc1p := of_decide_eq_true hc1
    (repeat refine cw_seq ?_); refine cw_skip ?_
    (repeat refine cw_seq ?_); refine cw_block ?_
    refine Ty ?_
    refine cw_joinB [1, 2, 3, 8, 12, 13, 14, 17] [] (fun (data3 : List Place) => [(0, .v (y1.val data3.length))]) (fun (data3 : List Place) => []) (fun (data3 : List Place) => [ownL EPlace 35 y1 y1b data3]) (fun (data3 : List Place) => []) (fun (data3 : List Place) => (data3.length = data1.length) ∧ data3 = (slices_insertionSortCmpFunc_Place_L1 a1 cmp1 ((i1 - a1).toNat + 1) data2 i1)) (.cons rfl (.cons rfl (.cons rfl (.cons rfl (.cons rfl (.cons rfl (.cons rfl (.cons rfl (.nil _))))))))) (.nil) ?_ ?_
    · refine Tx ?_
      (repeat refine cw_seq ?_); refine Lp [1,2,3,8,12,13,14,17] [] (fun (i_ : List Place × Int) => match i_ with | ⟨data4, j1⟩ => (⟨[(0, .v (y1.val data4.length)), (9, .v (.int .i64 j1))], [], [ownL EPlace 35 y1 y1b data4], [], (a1 ≤ j1 ∧ j1 < b1 ∧ data4.length = data1.length) ∧ (slices_insertionSortCmpFunc_Place_L1 a1 cmp1 ((j1 - a1).toNat + 1) data4 j1) = (slices_insertionSortCmpFunc_Place_L1 a1 cmp1 ((i1 - a1).toNat + 1) data2 i1), (j1 - a1).toNat + 1⟩ : Ls)) ⟨data2, i1⟩ (Sc (Sc (Sc (Sc (Sc (Sc (Sc (Sc Sn)))))))) (.nil) ⟨(by first | exact Nat.le_refl _ | exact Nat.zero_le _ | omega), (rfl : (slices_insertionSortCmpFunc_Place_L1 a1 cmp1 ((i1 - a1).toNat + 1) data2 i1) = (slices_insertionSortCmpFunc_Place_L1 a1 cmp1 ((i1 - a1).toNat + 1) data2 i1)).symm⟩ Le5 ?_
      rintro ⟨data4, j1⟩ ⟨hj, hf2⟩
      simp only [List.cons_append, List.nil_append]
      have hlt1_ : (j1 - a1).toNat + 1 = ((j1 - a1).toNat + 1 - 1) + 1 := by omega
      (repeat refine cw_seq ?_); refine cw_regionA (fun _ => some []) ?_
      refine Rb 0 [1] [2,3,4,5,6,7,8,9,10,11,12,13,14,15,16] rfl Qp ?_
      refine Rb 1 [] [2,3,4,5,6,7,8,9,10,11,12,13,14,15,16] rfl Qp ?_
      refine Rb 2 [] [3,4,5,6,7,8,9,10,11,12,13,14,15,16] rfl Qp ?_
      refine Ra 3 [] rfl Qp ?_
      refine Gb 4 [5,6,7,8,9,10,11,12,13] [14,15,16] rfl (guard_vt rfl rfl rfl) (q_pev rfl Bt) ?_
      refine Gb 5 [6,9,10,11,12,13] [7,8,14,15,16] rfl (guard_vt rfl rfl rfl) (q_pev rfl Bt) ?_
      refine Gb 6 [9,10,11,12,13] [7,8,14,15,16] rfl (guard_vt rfl rfl rfl) (q_pev rfl Bt) ?_
      refine rw_qgO EPlace (e := 35) (X := y1) (b := y1b) (l := data4) Mm (.ab (i := 7) (js := [9, 10, 11, 12, 13]) [8, 14, 15, 16] rfl Kr Kr Kr Kr Kr) (guard_vt rfl rfl rfl) rfl rfl (q_idx EPlace j1.toNat rfl rfl Bt rfl Bt rfl rfl rfl (.head _) rfl (by intro h; first | omega | rfl | (simp at h; omega)) (by first | (intro _; first | assumption | omega | (simp only [List.length_set]; omega)) | (intro h; simp at h; omega))) ?_
      refine rw_qgO EPlace (e := 35) (X := y1) (b := y1b) (l := data4) Mm (.ab (i := 8) (js := [9, 10, 11, 12, 13]) [14, 15, 16] rfl Kr Kr Kr Kr Kr) (guard_vt rfl rfl rfl) rfl rfl (q_leA EPlace rfl rfl Bt rfl rfl (.head _) (by first | (intro _; first | assumption | omega | (simp only [List.length_set]; omega)) | (intro h; simp at h; omega))) ?_
      refine Gb 9 [10,11] [12,13,14,15,16] rfl (guard_vt rfl rfl rfl) (q_pev rfl Bt) ?_
      refine Gb 10 [] [11,12,13,14,15,16] rfl (guard_vt rfl rfl rfl) (q_pev rfl Bt) ?_
      refine Gb 11 [] [12,13,14,15,16] rfl (guard_vt rfl rfl rfl) (q_sub rfl rfl Bt rfl Bt (by intro h; first | omega | (simp at h; omega))) ?_
      refine rw_qgO EPlace (e := 35) (X := y1) (b := y1b) (l := data4) Mm (.ab (i := 12) (js := []) [13, 14, 15, 16] rfl Kr Kr Kr Kr Kr) (guard_vt rfl rfl rfl) rfl rfl (q_idx EPlace ((j1 - 1).toNat) rfl rfl Bt rfl Bt rfl rfl rfl (.head _) rfl (by intro h; first | omega | rfl | (simp at h; omega)) (by first | (intro _; first | assumption | omega | (simp only [List.length_set]; omega)) | (intro h; simp at h; omega))) ?_
      refine rw_qgO EPlace (e := 35) (X := y1) (b := y1b) (l := data4) Mm (.ab (i := 13) (js := []) [14, 15, 16] rfl Kr Kr Kr Kr Kr) (guard_vt rfl rfl rfl) rfl rfl (q_leA EPlace rfl rfl Bt rfl rfl (.head _) (by first | (intro _; first | assumption | omega | (simp only [List.length_set]; omega)) | (intro h; simp at h; omega))) ?_
      refine ra_one 14 Kr ?_
      refine rw_split (.an rfl rfl) (guard_vt rfl rfl rfl) (fun hg1 => ?_) (fun hg1 => ?_)
      · have hg1p := of_decide_eq_true hg1
        refine rw_callv (hfn1 (gt data4 j1.toNat) (gt data4 ((j1 - 1).toNat))) (.an rfl rfl) (guard_is (guard_vt rfl rfl rfl) hg1) rfl rfl rfl rfl (by first | rfl | assumption | (simp only [hc1, hg1, Bool.and_true, Bool.true_and, Bool.and_self, Bool.not_false, Bool.not_true]; done) | simp_all) (by assumption) rfl (by first | rfl | assumption | (simp only [hc1, hg1, Bool.and_true, Bool.true_and, Bool.and_self, Bool.not_false, Bool.not_true]; done) | simp_all) rfl Sf ?_
        intro _
        refine Ga 15 [] rfl (guard_vt rfl rfl rfl) (q_pev rfl Bt) ?_
        refine Ra 16 [] rfl (q_pev rfl Bt) ?_
        refine ra_nil Kr ?_
        (repeat refine cw_seq ?_)
        refine Cd (b := (decide (j1 > a1) && decide ((cmp1 (gt data4 j1.toNat) (gt data4 ((j1 - 1).toNat))) < 0))) (fun hc2 => ?_) fun hc2 => ?_
        · try simp only [hg1, Bool.true_and, Bool.and_true] at hc2
          refine Tx ?_
          (repeat refine cw_seq ?_); refine cw_regionA (fun j => match j with | 15 => some y1b.toList | 17 => some y1b.toList | _ => some []) ?_
          refine Ra 0 [1,2,3,4,5,6,7,8,9,10,11,12,13] rfl Qp ?_
          refine Ra 1 [2,3,4,5,6,7,8,9,10,11,12,13] rfl Qp ?_
          refine ra_q (.an (i := 2) (js := [3, 4, 5, 6, 7, 8, 9, 10, 11, 12, 13, 14, 15]) rfl Kr Kr Kr Kr) (SplitB.all _) (by intro g hg; simp only [List.mem_append, List.mem_singleton, List.not_mem_nil, or_false, false_or, Option.mem_toList, Option.mem_def, List.append_nil] at hg; first | exact .inr ⟨ownL EPlace 35 y1 y1b data4, Mm, hg⟩) rfl rfl rfl (q_pev rfl (fun _ => rfl)) ?_
          refine ra_q (.an (i := 3) (js := [5, 6, 7, 8, 9, 10, 11, 12, 13, 14, 15]) rfl Kr Kr Kr Kr) (SplitB.all _) (by intro g hg; simp only [List.mem_append, List.mem_singleton, List.not_mem_nil, or_false, false_or, Option.mem_toList, Option.mem_def, List.append_nil] at hg; first | exact .inr ⟨ownL EPlace 35 y1 y1b data4, Mm, hg⟩) rfl rfl rfl (q_pev rfl (fun _ => rfl)) ?_
          refine ra_q (.an (i := 4) (js := [5, 6, 7, 8, 9, 10, 11, 12, 13, 14, 15]) rfl Kr Kr Kr Kr) (SplitB.all _) (by intro g hg; simp only [List.mem_append, List.mem_singleton, List.not_mem_nil, or_false, false_or, Option.mem_toList, Option.mem_def, List.append_nil] at hg; first | exact .inr ⟨ownL EPlace 35 y1 y1b data4, Mm, hg⟩) rfl rfl rfl (q_sub rfl rfl (fun _ => rfl) rfl (fun _ => rfl) (fun _ => by omega)) ?_
          refine Rb 5 [6,7,10,11,12,13] [8,9,14,15,16,17] rfl Qp ?_
          refine Rb 6 [10,11,12,13] [7,8,9,14,15,16,17] rfl Qp ?_
          refine Rb 7 [10,11,12,13] [8,9,14,15,16,17] rfl (q_sub rfl rfl (fun _ => rfl) rfl (fun _ => rfl) (fun _ => by omega)) ?_
          refine rw_qO EPlace (e := 35) (X := y1) (b := y1b) (l := data4) Mm (.an (i := 8) (js := [10, 11, 12, 13]) rfl Kr Kr Kr Kr) rfl rfl rfl (q_idx EPlace ((j1 - 1).toNat) rfl rfl (fun _ => rfl) rfl (fun _ => rfl) rfl rfl rfl (.head _) rfl (fun _ => by omega) (fun _ => by first | assumption | omega | (simp only [List.length_set]; omega))) ?_
          refine rw_qO EPlace (e := 35) (X := y1) (b := y1b) (l := data4) Mm (.an (i := 9) (js := [10, 11, 12, 13]) rfl Kr Kr Kr Kr) rfl rfl rfl (q_leA EPlace rfl rfl (fun _ => rfl) rfl rfl (.head _) (fun _ => by first | assumption | omega | (simp only [List.length_set]; omega))) ?_
          refine Rb 10 [11] [12,13,14,15,16,17] rfl Qp ?_
          refine Rb 11 [] [12,13,14,15,16,17] rfl Qp ?_
          refine rw_qO EPlace (e := 35) (X := y1) (b := y1b) (l := data4) Mm (.ab (i := 12) (js := []) [13, 14, 15, 16, 17] rfl Kr Kr Kr Kr Kr) rfl rfl rfl (q_idx EPlace j1.toNat rfl rfl (fun _ => rfl) rfl (fun _ => rfl) rfl rfl rfl (.head _) rfl (fun _ => by omega) (fun _ => by first | assumption | omega | (simp only [List.length_set]; omega))) ?_
          refine rw_qO EPlace (e := 35) (X := y1) (b := y1b) (l := data4) Mm (.an (i := 13) (js := []) rfl Kr Kr Kr Kr) rfl rfl rfl (q_leA EPlace rfl rfl (fun _ => rfl) rfl rfl (.head _) (fun _ => by first | assumption | omega | (simp only [List.length_set]; omega))) ?_
          refine rw_qO EPlace (e := 35) (X := y1) (b := y1b) (l := data4) Mm (.an (i := 14) (js := []) rfl Kr Kr Kr Kr) rfl rfl rfl (q_idx EPlace j1.toNat rfl rfl (fun _ => rfl) rfl (fun _ => rfl) rfl rfl rfl (.head _) rfl (fun _ => by omega) (fun _ => by first | assumption | omega | (simp only [List.length_set]; omega))) ?_
          refine ra_one 15 Kr ?_
          refine rw_stO EPlace data4 j1.toNat 0 (gt data4 ((j1 - 1).toNat)) (e := 35) (X := y1) (b := y1b) (.an rfl rfl) (.inr (fun g h => by simp [h])) (guard_none rfl) rfl rfl rfl rfl rfl rfl rfl rfl rfl rfl rfl (by first | assumption | omega | (simp only [List.length_set]; omega)) rfl Uo ?_
          have hv1 : y1.val data4.length = y1.val (data4.set j1.toNat (gt data4 ((j1 - 1).toNat))).length := congrArg (SlV.val y1) List.length_set.symm
          try rw [hv1]
          refine rw_qO EPlace (e := 35) (X := y1) (b := y1b) (l := (data4.set j1.toNat (gt data4 ((j1 - 1).toNat)))) Mm (.an (i := 16) (js := []) rfl Kr Kr Kr Kr) rfl rfl rfl (q_idx EPlace ((j1 - 1).toNat) rfl rfl (fun _ => rfl) rfl (fun _ => rfl) rfl rfl rfl (.head _) rfl (fun _ => by omega) (fun _ => by first | assumption | omega | (simp only [List.length_set]; omega))) ?_
          refine ra_one 17 Kr ?_
          refine rw_stO EPlace (data4.set j1.toNat (gt data4 ((j1 - 1).toNat))) ((j1 - 1).toNat) 0 (gt data4 j1.toNat) (e := 35) (X := y1) (b := y1b) (.an rfl rfl) (.inr (fun g h => by simp [h])) (guard_none rfl) rfl rfl rfl rfl rfl rfl rfl rfl rfl rfl rfl (by first | assumption | omega | (simp only [List.length_set]; omega)) rfl Uo ?_
          have hv2 : y1.val (data4.set j1.toNat (gt data4 ((j1 - 1).toNat))).length = y1.val ((data4.set j1.toNat (gt data4 ((j1 - 1).toNat))).set ((j1 - 1).toNat) (gt data4 j1.toNat)).length := congrArg (SlV.val y1) List.length_set.symm
          try rw [hv2]
          refine ra_nil Kr ?_
          refine Tx ?_
          refine rw_q rfl rfl rfl (q_sub rfl rfl (fun _ => rfl) rfl (fun _ => rfl) (fun _ => by omega)) ?_
          refine Tx ?_
          have hnx1 : ((j1 - 1) - a1).toNat + 1 = (j1 - a1).toNat + 1 - 1 := by omega
          refine ⟨⟨((data4.set j1.toNat (gt data4 ((j1 - 1).toNat))).set ((j1 - 1).toNat) (gt data4 j1.toNat)), (j1 - 1)⟩, ⟨(by simp only [List.length_append, List.length_cons, List.length_nil, List.length_set]; omega), (by rw [hnx1]; exact (by rw [← hf2]; (conv => lhs; rw [hlt1_]); simp only [slices_insertionSortCmpFunc_Place_L1, hg1, hc2, Bool.true_and, Bool.and_true, cond_true, cond_false] : (slices_insertionSortCmpFunc_Place_L1 a1 cmp1 ((i1 - a1).toNat + 1) data2 i1) = (slices_insertionSortCmpFunc_Place_L1 a1 cmp1 ((j1 - a1).toNat + 1 - 1) ((data4.set j1.toNat (gt data4 ((j1 - 1).toNat))).set ((j1 - 1).toNat) (gt data4 j1.toNat)) (j1 - 1))).symm)⟩, (by simp only []; omega), Le5⟩
        · try simp only [hg1, Bool.true_and, Bool.and_true] at hc2
          refine Tx ?_
          have hv3 : (slices_insertionSortCmpFunc_Place_L1 a1 cmp1 ((i1 - a1).toNat + 1) data2 i1) = data4 := by rw [← hf2]; (conv => lhs; rw [hlt1_]); simp only [slices_insertionSortCmpFunc_Place_L1, hg1, hc2, Bool.true_and, Bool.and_true, cond_true, cond_false]
          refine ⟨data4, ⟨(by omega), hv3.symm⟩, Le5⟩
      · have hg1p := of_decide_eq_false hg1
        refine rw_dead (.an rfl rfl) (guard_vt rfl rfl rfl) hg1 rfl rfl ?_
        refine Ga 15 [] rfl (guard_vt rfl rfl rfl) (q_dead (v := .bool false) hg1) ?_
        refine Ra 16 [] rfl (q_pev rfl Bt) ?_
        refine ra_nil Kr ?_
        (repeat refine cw_seq ?_)
        refine Cd (b := (decide (j1 > a1) && false)) (fun hc3 => ?_) fun hc3 => ?_
        · exact Bool.noConfusion (hc3.symm.trans ((by simp only [hg1, Bool.and_false, Bool.false_and, Bool.or_true, Bool.true_or, Bool.or_false, Bool.false_or, Bool.and_true, Bool.true_and, Bool.not_true, Bool.not_false]) : (decide (j1 > a1) && false) = false))
        · refine Tx ?_
          have hv4 : (slices_insertionSortCmpFunc_Place_L1 a1 cmp1 ((i1 - a1).toNat + 1) data2 i1) = data4 := by rw [← hf2]; (conv => lhs; rw [hlt1_]); simp only [slices_insertionSortCmpFunc_Place_L1, hg1, Bool.true_and, Bool.and_true, cond_true, cond_false]
          refine ⟨data4, ⟨(by omega), hv4.symm⟩, Le5⟩
    · rintro data3 ⟨hjl, rfl⟩
      simp only [List.cons_append, List.nil_append]
      refine Tx ?_
      refine rw_q rfl rfl rfl (q_add rfl rfl (fun _ => rfl) rfl (fun _ => rfl) (fun _ => by omega)) ?_
      refine Tx ?_
      have hnx2 : (b1 - (i1 + 1)).toNat + 1 = (b1 - i1).toNat + 1 - 1 := by omega
      refine ⟨⟨((slices_insertionSortCmpFunc_Place_L1 a1 cmp1 ((i1 - a1).toNat + 1) data2 i1)), (i1 + 1)⟩, ⟨(by simp only [List.length_append, List.length_cons, List.length_nil, List.length_set]; omega), (by rw [hnx2]; exact (by rw [← hf1]; (conv => lhs; rw [hlt0_]); simp only [slices_insertionSortCmpFunc_Place_L0, hc1, Bool.true_and, Bool.and_true, cond_true, cond_false] : (slices_insertionSortCmpFunc_Place data1 a1 b1 cmp1) = (slices_insertionSortCmpFunc_Place_L0 a1 b1 cmp1 ((b1 - i1).toNat + 1 - 1) ((slices_insertionSortCmpFunc_Place_L1 a1 cmp1 ((i1 - a1).toNat + 1) data2 i1)) (i1 + 1))).symm)⟩, (by simp only []; omega), Le5⟩
  · have hc1p := of_decide_eq_false hc1
    refine Tx ?_
    have hr1 : (slices_insertionSortCmpFunc_Place data1 a1 b1 cmp1) = data2 := by rw [← hf1]; (conv => lhs; rw [hlt0_]); simp only [slices_insertionSortCmpFunc_Place_L0, hc1, Bool.true_and, Bool.and_true, cond_true, cond_false]
    rw [hr1]
    exact ⟨(), _, .nil, rfl, Sf, .nil _, Sp⟩

def slices_stableCmpFunc_Place (data1 : List Place) (n1 : Int) (cmp1 : Place → Place → Int) : List Place :=
  (bif decide ((20 : Int) ≤ n1) then [] else (bif decide ((20 : Int) < n1) then [] else (slices_insertionSortCmpFunc_Place data1 0 n1 cmp1)))
theorem slices_stableCmpFunc_Place_spec (y1 : SlV) (y1b : Option Nat) (data1 : List Place) (n1 : Int) (f1 : Nat) (caps1 : List Value) (pre1 : List Pred) [StabL pre1] (cmp1 : Place → Place → Int) (hfb1 : tab.fnb f1 = true) (hfn1 : ∀ (a0_ : Place) (a1_ : Place), Does Try.prog f1 ([.agg ⟨[.int .i64 a0_.node, .int .i64 a0_.parent, .int .i64 a0_.name]⟩, .agg ⟨[.int .i64 a1_.node, .int .i64 a1_.parent, .int .i64 a1_.name]⟩] ++ caps1) pre1 (fun (_ : Unit) => .int .i64 (cmp1 a0_ a1_)) (fun (_ : Unit) => [])) (hn : 0 ≤ n1 ∧ n1 < 20 ∧ n1 ≤ (data1.length : Int)) : DoesG Try.prog 184 [y1.val data1.length, .int .i64 n1, .func (.func f1) #[] ⟨caps1⟩] (pre1) ⟨[], [ownL EPlace 35 y1 y1b data1]⟩ (fun (_ : Unit) => .tuple #[]) (fun (_ : Unit) => []) (fun (_ : Unit) => ⟨[], [ownL EPlace 35 y1 y1b (slices_stableCmpFunc_Place data1 n1 cmp1)]⟩) := by
  refine does_ofG tab_ok Try.func184 rfl Try.ntmps184 Try.results184 rfl inferInstance (fun _ => inferInstance) fun C => ?_
  refine cw_lenO EPlace (e := 35) (X := y1) (b := y1b) (l := data1) Mm fun hl63y1 hleny1 => ?_
  simp only [show EPlace.by_ = 24 from rfl] at hleny1
  refine Tx ?_
  (repeat refine cw_seq ?_); refine cw_once ?_
  refine Tx ?_
  refine Cd (b := decide ((20 : Int) ≤ n1)) (fun hc1 => ?_) fun hc1 => ?_
  · have hc1p := of_decide_eq_true hc1
    exact absurd (of_decide_eq_true hc1) (by omega)
  · have hc1p := of_decide_eq_false hc1
    refine Tx ?_
    refine rw_callG (slices_insertionSortCmpFunc_Place_spec y1 y1b data1 0 n1 _ _ _ cmp1 (by assumption) hfn1 (by first | assumption | omega)) .sq (.inl ⟨_, rfl⟩) (guard_none rfl) rfl rfl rfl Kr rfl rfl Sf (.nil _) (by first | exact .cons (.here _ _) (.nil _) | exact .cons (.there _ (.here _ _)) (.nil _) | exact .cons (.there _ (.there _ (.here _ _))) (.nil _) | exact .cons (.there _ (.there _ (.there _ (.here _ _)))) (.nil _)) ?_
    intro _
    refine Tx ?_
    (repeat refine cw_seq ?_); refine cw_once ?_
    refine Tx ?_
    refine Cd (b := decide ((20 : Int) < n1)) (fun hc2 => ?_) fun hc2 => ?_
    · have hc2p := of_decide_eq_true hc2
      exact absurd (of_decide_eq_true hc2) (by omega)
    · have hc2p := of_decide_eq_false hc2
      refine Tx ?_
      have hr1 : (slices_stableCmpFunc_Place data1 n1 cmp1) = (slices_insertionSortCmpFunc_Place data1 0 n1 cmp1) := by simp only [slices_stableCmpFunc_Place, hc1, hc2, Bool.true_and, Bool.and_true, cond_true, cond_false]
      rw [hr1]
      exact ⟨(), _, .nil, rfl, Sf, .nil _, Sp⟩

def slices_SortStableFunc_Place (x1 : List Place) (cmp1 : Place → Place → Int) : List Place :=
  (slices_stableCmpFunc_Place x1 (x1.length : Int) cmp1)
theorem slices_SortStableFunc_Place_spec (y1 : SlV) (y1b : Option Nat) (x1 : List Place) (f1 : Nat) (caps1 : List Value) (pre1 : List Pred) [StabL pre1] (cmp1 : Place → Place → Int) (hfb1 : tab.fnb f1 = true) (hfn1 : ∀ (a0_ : Place) (a1_ : Place), Does Try.prog f1 ([.agg ⟨[.int .i64 a0_.node, .int .i64 a0_.parent, .int .i64 a0_.name]⟩, .agg ⟨[.int .i64 a1_.node, .int .i64 a1_.parent, .int .i64 a1_.name]⟩] ++ caps1) pre1 (fun (_ : Unit) => .int .i64 (cmp1 a0_ a1_)) (fun (_ : Unit) => [])) (hx : x1.length < 20) : DoesG Try.prog 139 [y1.val x1.length, .func (.func f1) #[] ⟨caps1⟩] (pre1) ⟨[], [ownL EPlace 35 y1 y1b x1]⟩ (fun (_ : Unit) => .tuple #[]) (fun (_ : Unit) => []) (fun (_ : Unit) => ⟨[], [ownL EPlace 35 y1 y1b (slices_SortStableFunc_Place x1 cmp1)]⟩) := by
  refine does_ofG tab_ok Try.func139 rfl Try.ntmps139 Try.results139 rfl inferInstance (fun _ => inferInstance) fun C => ?_
  refine cw_lenO EPlace (e := 35) (X := y1) (b := y1b) (l := x1) Mm fun hl63y1 hleny1 => ?_
  simp only [show EPlace.by_ = 24 from rfl] at hleny1
  refine Tx ?_
  refine rw_callG (slices_stableCmpFunc_Place_spec y1 y1b x1 (x1.length : Int) _ _ _ cmp1 (by assumption) hfn1 (by first | assumption | omega)) .sq (.inl ⟨_, rfl⟩) (guard_none rfl) rfl rfl rfl Kr rfl rfl Sf (.nil _) (by first | exact .cons (.here _ _) (.nil _) | exact .cons (.there _ (.here _ _)) (.nil _) | exact .cons (.there _ (.there _ (.here _ _))) (.nil _) | exact .cons (.there _ (.there _ (.there _ (.here _ _)))) (.nil _)) ?_
  intro _
  refine rw_nil ?_
  have hr1 : (slices_SortStableFunc_Place x1 cmp1) = (slices_stableCmpFunc_Place x1 (x1.length : Int) cmp1) := by simp only [slices_SortStableFunc_Place, Bool.true_and, Bool.and_true, cond_true, cond_false]
  rw [hr1]
  exact ⟨(), _, .nil, rfl, Sf, .nil _, Sp⟩

theorem IS_Place_L1 (cmp : Place → Place → Int) (P : List Place) : ∀ (r : List Place) (x : Place) (s : List Place) (f : Nat), r.length < f →
    slices_insertionSortCmpFunc_Place_L1 (P.length : Int) cmp f (P ++ (r.reverse ++ x :: s)) ((P.length + r.length : Nat) : Int) = P ++ insR (fun a b => decide (cmp a b < 0)) x r s
  | [], x, s, f + 1, _ => by
    rw [slices_insertionSortCmpFunc_Place_L1]
    simp [insR]
  | y :: r, x, s, f + 1, hf => by
    simp only [List.length_cons] at hf
    rw [slices_insertionSortCmpFunc_Place_L1]
    have h1 : decide (((P.length + (y :: r).length : Nat) : Int) > (P.length : Int)) = true := by simp; omega
    have e0 : (((P.length + (y :: r).length : Nat) : Int)).toNat = (P ++ (r.reverse ++ [y])).length := by simp; omega
    have e1 : (((P.length + (y :: r).length : Nat) : Int) - 1).toNat = (P ++ r.reverse).length := by simp; omega
    have d0 : P ++ ((y :: r).reverse ++ x :: s) = (P ++ (r.reverse ++ [y])) ++ x :: s := by simp
    have d1 : (P ++ (r.reverse ++ [y])) ++ x :: s = (P ++ r.reverse) ++ y :: (x :: s) := by simp
    have g0 : gt (P ++ ((y :: r).reverse ++ x :: s)) (((P.length + (y :: r).length : Nat) : Int)).toNat = x := by rw [d0]; exact gt_mid _ _ _ _ e0
    have g1 : gt (P ++ ((y :: r).reverse ++ x :: s)) (((P.length + (y :: r).length : Nat) : Int) - 1).toNat = y := by rw [d0, d1]; exact gt_mid _ _ _ _ e1
    rw [h1, g0, g1, cond_true, Bool.true_and, insR]
    cases hc : decide (cmp x y < 0) with
    | false => simp
    | true =>
      simp only [cond_true]
      rw [d0, set_mid _ _ _ _ _ e0, show (P ++ (r.reverse ++ [y])) ++ y :: s = (P ++ r.reverse) ++ y :: (y :: s) by simp, set_mid _ _ _ _ _ e1]
      have ih := IS_Place_L1 cmp P r x (y :: s) f (by omega)
      rw [show ((P.length + (y :: r).length : Nat) : Int) - 1 = ((P.length + r.length : Nat) : Int) by simp; omega, List.append_assoc]
      exact ih
theorem IS_Place_L0 (cmp : Place → Place → Int) (P S : List Place) (b : Int) : ∀ (rest acc : List Place) (f : Nat), b = ((P.length + acc.length + rest.length : Nat) : Int) → rest.length < f →
    slices_insertionSortCmpFunc_Place_L0 (P.length : Int) b cmp f (P ++ (acc ++ (rest ++ S))) ((P.length + acc.length : Nat) : Int) = P ++ (isort (fun a b => decide (cmp a b < 0)) acc rest ++ S)
  | [], acc, f + 1, hb, _ => by
    rw [slices_insertionSortCmpFunc_Place_L0]
    have : decide (((P.length + acc.length : Nat) : Int) < b) = false := by rw [hb]; simp
    rw [this, cond_false, isort]; simp
  | x :: rest, acc, f + 1, hb, hf => by
    simp only [List.length_cons] at hf hb
    rw [slices_insertionSortCmpFunc_Place_L0]
    have : decide (((P.length + acc.length : Nat) : Int) < b) = true := by rw [hb]; simp; omega
    have h1 := IS_Place_L1 cmp P acc.reverse x (rest ++ S) (((((P.length + acc.length : Nat) : Int) - (P.length : Int)).toNat) + 1) (by simp; omega)
    rw [List.reverse_reverse, List.length_reverse] at h1
    rw [this, cond_true, List.cons_append, h1, isort, insR_app]
    have hl : (insR (fun a b => decide (cmp a b < 0)) x acc.reverse []).length = acc.length + 1 := by rw [insR_len]; simp
    have ih := IS_Place_L0 cmp P S b rest (insR (fun a b => decide (cmp a b < 0)) x acc.reverse []) f (by rw [hb, hl]; simp; omega) (by omega)
    rw [hl] at ih
    rw [show ((P.length + acc.length : Nat) : Int) + 1 = ((P.length + (acc.length + 1) : Nat) : Int) by simp; omega]
    exact ih
theorem IS_Place (cmp : Place → Place → Int) (P M S : List Place) (a b : Int) (ha : a = (P.length : Int)) (hb : b = ((P.length + M.length : Nat) : Int)) :
    slices_insertionSortCmpFunc_Place (P ++ (M ++ S)) a b cmp = P ++ (isort (fun a b => decide (cmp a b < 0)) [] M ++ S) := by
  subst ha
  unfold slices_insertionSortCmpFunc_Place
  cases M with
  | nil =>
    rw [slices_insertionSortCmpFunc_Place_L0]
    have : decide ((P.length : Int) + 1 < b) = false := by rw [hb]; simp; omega
    rw [this, cond_false, isort]
  | cons x r =>
    have h1 := IS_Place_L0 cmp P S b r [x] ((b - ((P.length : Int) + 1)).toNat + 1) (by rw [hb]; simp; omega) (by rw [hb]; simp; omega)
    have e : isort (fun a b => decide (cmp a b < 0)) [] (x :: r) = isort (fun a b => decide (cmp a b < 0)) [x] r := rfl
    rw [e, ← h1]
    rfl
theorem SS_Place (l : List Place) (cmp : Place → Place → Int) (h : l.length < 20) : slices_SortStableFunc_Place l cmp = isort (fun a b => decide (cmp a b < 0)) [] l := by
  unfold slices_SortStableFunc_Place slices_stableCmpFunc_Place
  have h1 : decide ((20 : Int) ≤ (l.length : Int)) = false := by simp; omega
  have h2 : decide ((20 : Int) < (l.length : Int)) = false := by simp; omega
  rw [h1, h2, cond_false, cond_false]
  have := IS_Place cmp [] l [] 0 (l.length : Int) rfl (by simp)
  simpa using this

theorem IF_Place (f : Place → Bool) : ∀ (l : List Place) (k : Nat), (slices_IndexFunc_Place_L0 f l k = -1 ∧ ∀ p ∈ l, f p = false) ∨ ∃ A x R, l = A ++ x :: R ∧ (∀ p ∈ A, f p = false) ∧ f x = true ∧ slices_IndexFunc_Place_L0 f l k = ((k + A.length : Nat) : Int)
  | [], k => .inl ⟨rfl, by simp⟩
  | p :: r, k => by
    rw [slices_IndexFunc_Place_L0]
    cases h : f p with
    | true => exact .inr ⟨[], p, r, rfl, by simp, h, by simp⟩
    | false =>
      rcases IF_Place f r (k + 1) with ⟨h1, h2⟩ | ⟨A, x, R, h1, h2, h3, h4⟩
      · exact .inl ⟨h1, fun q hq => by rcases List.mem_cons.1 hq with rfl | hq; exact h; exact h2 q hq⟩
      · refine .inr ⟨p :: A, x, R, by rw [h1]; rfl, fun q hq => by rcases List.mem_cons.1 hq with rfl | hq; exact h; exact h2 q hq, h3, ?_⟩
        rw [cond_false, h4]; simp; omega
theorem slices_IndexFunc_Place_ge (l : List Place) (f : Place → Bool) : -1 ≤ slices_IndexFunc_Place l f := by
  have h : slices_IndexFunc_Place l f = slices_IndexFunc_Place_L0 f l 0 := rfl
  rcases IF_Place f l 0 with ⟨h1, _⟩ | ⟨A, x, R, _, _, _, h4⟩ <;> rw [h] <;> omega
theorem slices_IndexFunc_Place_lt' (l : List Place) (f : Place → Bool) : slices_IndexFunc_Place l f < (l.length : Int) ∨ slices_IndexFunc_Place l f = -1 := by
  have h : slices_IndexFunc_Place l f = slices_IndexFunc_Place_L0 f l 0 := rfl
  rcases IF_Place f l 0 with ⟨h1, _⟩ | ⟨A, x, R, h1, _, _, h4⟩
  · right; rw [h]; exact h1
  · left; rw [h, h4, h1]; simp; omega

def slices_DeleteFunc_Place_L0 (del1 : Place → Bool) : Nat → (List Place) → Int → Int → (List Place)
  | 0, s2, i1, j1 => default
  | f_k0 + 1, s2, i1, j1 => (bif decide (j1 < (s2.length : Int)) then (bif (!(del1 (gt s2 j1.toNat))) then (slices_DeleteFunc_Place_L0 del1 f_k0 (s2.set i1.toNat (gt s2 j1.toNat)) (i1 + 1) (j1 + 1)) else (slices_DeleteFunc_Place_L0 del1 f_k0 s2 i1 (j1 + 1))) else (s2.take i1.toNat))
def slices_DeleteFunc_Place (s1 : List Place) (del1 : Place → Bool) : List Place :=
  (bif ((slices_IndexFunc_Place s1 del1) == (-1)) then s1 else (slices_DeleteFunc_Place_L0 del1 ((s1.length - ((slices_IndexFunc_Place s1 del1) + 1).toNat) + 1) s1 (slices_IndexFunc_Place s1 del1) ((slices_IndexFunc_Place s1 del1) + 1)))
theorem slices_DeleteFunc_Place_spec (y1 : SlV) (y1b : Option Nat) (s1 : List Place) (f1 : Nat) (caps1 : List Value) (pre1 : List Pred) [StabL pre1] (del1 : Place → Bool) (hfb1 : tab.fnb f1 = true) (hfn1 : ∀ (a0_ : Place), Does Try.prog f1 ([.agg ⟨[.int .i64 a0_.node, .int .i64 a0_.parent, .int .i64 a0_.name]⟩] ++ caps1) pre1 (fun (_ : Unit) => .bool (del1 a0_)) (fun (_ : Unit) => [])) : DoesG Try.prog 136 [y1.val s1.length, .func (.func f1) #[] ⟨caps1⟩] (pre1) ⟨[], [ownL EPlace 35 y1 y1b s1]⟩ (fun (_ : Unit) => y1.val (slices_DeleteFunc_Place s1 del1).length) (fun (_ : Unit) => []) (fun (_ : Unit) => ⟨[], [ownL EPlace 35 y1 y1b (slices_DeleteFunc_Place s1 del1)]⟩) := by
  refine does_ofG tab_ok Try.func136 rfl Try.ntmps136 Try.results136 rfl inferInstance (fun _ => inferInstance) fun C => ?_
  refine cw_lenO EPlace (e := 35) (X := y1) (b := y1b) (l := s1) Mm fun hl63y1 hleny1 => ?_
  simp only [show EPlace.by_ = 24 from rfl] at hleny1
  refine Tx ?_
  refine rw_callR (slices_IndexFunc_Place_spec y1 s1 _ _ _ del1 (by assumption) hfn1) .sq (guard_none rfl) rfl rfl rfl Kr rfl rfl (.own Mm (PreR.sub Sf)) ?_
  intro _
  refine Tx ?_
  refine Cd (b := ((slices_IndexFunc_Place s1 del1) == (-1))) (fun hc1 => ?_) fun hc1 => ?_
  · have hc1p := eq_of_beq hc1
    refine Tx ?_
    have hr1 : (slices_DeleteFunc_Place s1 del1) = s1 := by simp only [slices_DeleteFunc_Place, hc1, Bool.true_and, Bool.and_true, cond_true, cond_false]
    refine cw_ret ?_
    rw [hr1]
    exact ⟨(), _, (.cons (.tmp rfl) .nil), rfl, Sf, .nil _, Sp⟩
  · have hc1p := ne_of_beq_false hc1
    have hix := slices_IndexFunc_Place_lt s1 del1
    have hig := slices_IndexFunc_Place_ge s1 del1
    refine Tx ?_
    refine rw_q rfl rfl rfl (q_add rfl rfl (fun _ => rfl) rfl (fun _ => rfl) (fun _ => by omega)) ?_
    refine Tx ?_
    (repeat refine cw_seq ?_); refine Lp [1,4] [] (fun (i_ : List Place × Int × Int) => match i_ with | ⟨s2, i1, j1⟩ => (⟨[(0, .v (y1.val s2.length)), (5, .v (.int .i64 i1)), (6, .v (.int .i64 j1))], [], [ownL EPlace 35 y1 y1b s2], [], (0 ≤ i1 ∧ i1 < j1 ∧ j1 ≤ (s1.length : Int) ∧ s2.length = s1.length) ∧ (slices_DeleteFunc_Place_L0 del1 ((s1.length - j1.toNat) + 1) s2 i1 j1) = (slices_DeleteFunc_Place s1 del1), (s1.length - j1.toNat) + 1⟩ : Ls)) ⟨s1, (slices_IndexFunc_Place s1 del1), ((slices_IndexFunc_Place s1 del1) + 1)⟩ (Sc (Sc Sn)) (.nil) ⟨(by first | exact Nat.le_refl _ | exact Nat.zero_le _ | omega), (by simp only [slices_DeleteFunc_Place, hc1, Bool.true_and, Bool.and_true, cond_true, cond_false] : (slices_DeleteFunc_Place s1 del1) = (slices_DeleteFunc_Place_L0 del1 ((s1.length - ((slices_IndexFunc_Place s1 del1) + 1).toNat) + 1) s1 (slices_IndexFunc_Place s1 del1) ((slices_IndexFunc_Place s1 del1) + 1))).symm⟩ Le5 ?_
    rintro ⟨s2, i1, j1⟩ ⟨hj, hf1⟩
    simp only [List.cons_append, List.nil_append]
    have hlt0_ : (s1.length - j1.toNat) + 1 = ((s1.length - j1.toNat) + 1 - 1) + 1 := by omega
    refine Tx ?_
    refine Cd (b := decide (j1 < (s2.length : Int))) (fun hc2 => ?_) fun hc2 => ?_
    · have hc2p := of_decide_eq_true hc2
      refine Tx ?_
      refine rw_qO EPlace (e := 35) (X := y1) (b := y1b) (l := s2) Mm .sq rfl rfl rfl (q_idx EPlace j1.toNat rfl rfl (fun _ => rfl) rfl (fun _ => rfl) rfl rfl rfl (.head _) rfl (fun _ => by omega) (fun _ => by first | assumption | omega | (simp only [List.length_set]; omega))) ?_
      refine rw_qO EPlace (e := 35) (X := y1) (b := y1b) (l := s2) Mm .sq rfl rfl rfl (q_leA EPlace rfl rfl (fun _ => rfl) rfl rfl (.head _) (fun _ => by first | assumption | omega | (simp only [List.length_set]; omega))) ?_
      refine Al fun g1 => ?_
      refine Tx ?_
      refine rw_callv (hfn1 (gt s2 j1.toNat)) .sq (guard_none rfl) rfl rfl rfl rfl rfl (by assumption) rfl rfl rfl Sf ?_
      intro _
      refine Tx ?_
      refine Cd (b := (!(del1 (gt s2 j1.toNat)))) (fun hc3 => ?_) fun hc3 => ?_
      · refine Tx ?_
        refine rw_qO EPlace (e := 35) (X := y1) (b := y1b) (l := s2) Mm .sq rfl rfl rfl (q_idx EPlace i1.toNat rfl rfl (fun _ => rfl) rfl (fun _ => rfl) rfl rfl rfl (.head _) rfl (fun _ => by omega) (fun _ => by first | assumption | omega | (simp only [List.length_set]; omega))) ?_
        refine rw_stO EPlace s2 i1.toNat 0 (gt s2 j1.toNat) (e := 35) (X := y1) (b := y1b) .sq (.inl ⟨_, rfl⟩) (guard_none rfl) rfl rfl rfl rfl rfl rfl rfl rfl rfl rfl rfl (by first | assumption | omega | (simp only [List.length_set]; omega)) rfl Uo ?_
        have hv1 : y1.val s2.length = y1.val (s2.set i1.toNat (gt s2 j1.toNat)).length := congrArg (SlV.val y1) List.length_set.symm
        try rw [hv1]
        refine Tx ?_
        refine rw_q rfl rfl rfl (q_add rfl rfl (fun _ => rfl) rfl (fun _ => rfl) (fun _ => by omega)) ?_
        refine Tx ?_
        refine rw_q rfl rfl rfl (q_add rfl rfl (fun _ => rfl) rfl (fun _ => rfl) (fun _ => by omega)) ?_
        refine Tx ?_
        have hnx1 : (s1.length - (j1 + 1).toNat) + 1 = (s1.length - j1.toNat) + 1 - 1 := by omega
        refine ⟨⟨(s2.set i1.toNat (gt s2 j1.toNat)), (i1 + 1), (j1 + 1)⟩, ⟨(by simp only [List.length_append, List.length_cons, List.length_nil, List.length_set]; omega), (by rw [hnx1]; exact (by rw [← hf1]; (conv => lhs; rw [hlt0_]); simp only [slices_DeleteFunc_Place_L0, hc2, hc3, Bool.true_and, Bool.and_true, cond_true, cond_false] : (slices_DeleteFunc_Place s1 del1) = (slices_DeleteFunc_Place_L0 del1 ((s1.length - j1.toNat) + 1 - 1) (s2.set i1.toNat (gt s2 j1.toNat)) (i1 + 1) (j1 + 1))).symm)⟩, (by simp only []; omega), Le5⟩
      · refine Tx ?_
        refine rw_q rfl rfl rfl (q_add rfl rfl (fun _ => rfl) rfl (fun _ => rfl) (fun _ => by omega)) ?_
        refine Tx ?_
        have hnx2 : (s1.length - (j1 + 1).toNat) + 1 = (s1.length - j1.toNat) + 1 - 1 := by omega
        refine ⟨⟨s2, i1, (j1 + 1)⟩, ⟨(by simp only [List.length_append, List.length_cons, List.length_nil, List.length_set]; omega), (by rw [hnx2]; exact (by rw [← hf1]; (conv => lhs; rw [hlt0_]); simp only [slices_DeleteFunc_Place_L0, hc2, hc3, Bool.true_and, Bool.and_true, cond_true, cond_false] : (slices_DeleteFunc_Place s1 del1) = (slices_DeleteFunc_Place_L0 del1 ((s1.length - j1.toNat) + 1 - 1) s2 i1 (j1 + 1))).symm)⟩, (by simp only []; omega), Le5⟩
    · have hc2p := of_decide_eq_false hc2
      refine Tx ?_
      refine rw_q rfl rfl rfl (q_drop EPlace i1.toNat (l := s2) (X := y1) rfl rfl (fun _ => rfl) rfl (fun _ => rfl) rfl rfl (fun _ => by first | omega | (simp only [List.length_set]; omega)) (fun _ => by first | omega | (simp only [List.length_set]; omega))) ?_
      refine rw_clearO EPlace s2 i1.toNat (e := 35) (X := y1) (b := y1b) .sq (.inl ⟨_, rfl⟩) (guard_none rfl) rfl rfl rfl rfl rfl rfl rfl rfl rfl rfl (by first | assumption | omega | (simp only [List.length_set]; omega)) Uo ?_
      refine Tx ?_
      refine rw_qO EPlace (e := 35) (X := y1) (b := y1b) (l := (s2.take i1.toNat)) Mm .sq rfl rfl rfl (q_takeS EPlace (l := (s2.take i1.toNat)) (X := y1) (h := i1.toNat) rfl rfl (fun _ => rfl) rfl (fun _ => rfl) rfl rfl (.head _) (fun _ => by omega) (fun _ => by simp only [List.length_take]; omega)) ?_
      refine Tx ?_
      have hr2 : (slices_DeleteFunc_Place s1 del1) = (s2.take i1.toNat) := by rw [← hf1]; (conv => lhs; rw [hlt0_]); simp only [slices_DeleteFunc_Place_L0, hc2, Bool.true_and, Bool.and_true, cond_true, cond_false]
      refine cw_ret ?_
      rw [hr2]
      exact ⟨(), _, (.cons (.tmp rfl) .nil), rfl, Sf, .nil _, Sp⟩

theorem DF_Place_L0 (f : Place → Bool) : ∀ (R K : List Place) (g : Place) (G : List Place) (k : Nat), R.length < k → slices_DeleteFunc_Place_L0 f k (K ++ (g :: G ++ R)) (K.length : Int) ((K.length + (G.length + 1) : Nat) : Int) = K ++ R.filter (fun p => !f p)
  | [], K, g, G, k + 1, _ => by
    rw [slices_DeleteFunc_Place_L0]
    have : decide (((K.length + (G.length + 1) : Nat) : Int) < ((K ++ (g :: G ++ [])).length : Int)) = false := by simp
    rw [this, cond_false]
    simp
  | v :: R, K, g, G, k + 1, hk => by
    simp only [List.length_cons] at hk
    rw [slices_DeleteFunc_Place_L0]
    have h1 : decide (((K.length + (G.length + 1) : Nat) : Int) < ((K ++ (g :: G ++ v :: R)).length : Int)) = true := by simp; omega
    have e0 : (((K.length + (G.length + 1) : Nat) : Int)).toNat = (K ++ g :: G).length := by simp; omega
    have g0 : gt (K ++ (g :: G ++ v :: R)) (((K.length + (G.length + 1) : Nat) : Int)).toNat = v := by rw [← List.append_assoc]; exact gt_mid _ _ _ _ e0
    rw [h1, cond_true, g0, List.filter_cons]
    cases hv : f v with
    | true =>
      simp only [Bool.not_true, cond_false, Bool.false_eq_true, if_false]
      have ih := DF_Place_L0 f R K g (G ++ [v]) k (by omega)
      rw [show ((K.length + (G.length + 1) : Nat) : Int) + 1 = ((K.length + ((G ++ [v]).length + 1) : Nat) : Int) by simp; omega]
      rw [show K ++ (g :: G ++ v :: R) = K ++ (g :: (G ++ [v]) ++ R) by simp]
      exact ih
    | false =>
      simp only [Bool.not_false, cond_true, if_true]
      have hs : (K ++ (g :: G ++ v :: R)).set ((K.length : Int)).toNat v = K ++ (v :: G ++ v :: R) := set_mid K g v (G ++ v :: R) _ (by simp)
      rw [hs]
      cases G with
      | nil =>
        have ih := DF_Place_L0 f R (K ++ [v]) v [] k (by omega)
        simp only [List.length_append, List.length_cons, List.length_nil, List.append_assoc, List.cons_append, List.nil_append] at ih ⊢
        rw [show ((K.length : Int)) + 1 = ((K.length + (0 + 1) : Nat) : Int) by simp, show ((K.length + (0 + 1) : Nat) : Int) + 1 = ((K.length + (0 + 1) + (0 + 1) : Nat) : Int) by simp]
        exact ih
      | cons g' G =>
        have ih := DF_Place_L0 f R (K ++ [v]) g' (G ++ [v]) k (by omega)
        simp only [List.length_append, List.length_cons, List.length_nil, List.append_assoc, List.cons_append, List.nil_append] at ih ⊢
        rw [show ((K.length : Int)) + 1 = ((K.length + (0 + 1) : Nat) : Int) by simp, show ((K.length + (G.length + 1 + 1) : Nat) : Int) + 1 = ((K.length + (0 + 1) + (G.length + (0 + 1) + 1) : Nat) : Int) by simp; omega]
        exact ih
theorem DF_Place (l : List Place) (f : Place → Bool) : slices_DeleteFunc_Place l f = l.filter (fun p => !f p) := by
  unfold slices_DeleteFunc_Place
  have h : slices_IndexFunc_Place l f = slices_IndexFunc_Place_L0 f l 0 := rfl
  rcases IF_Place f l 0 with ⟨h1, h2⟩ | ⟨A, x, R, h1, h2, h3, h4⟩
  · rw [h, h1]
    have : ((-1 : Int) == -1) = true := rfl
    rw [this, cond_true]
    exact (List.filter_eq_self.2 fun p hp => by rw [h2 p hp]; rfl).symm
  · rw [h, h4]
    have : (((0 + A.length : Nat) : Int) == -1) = false := by rw [beq_eq_false_iff_ne]; omega
    rw [this, cond_false, h1]
    have hk := DF_Place_L0 f R A x [] (((A ++ x :: R).length - (((0 + A.length : Nat) : Int) + 1).toNat) + 1) (by simp; omega)
    simp only [List.length_nil, Nat.zero_add, List.cons_append, List.nil_append] at hk ⊢
    rw [show ((A.length : Int)) + 1 = ((A.length + 1 : Nat) : Int) by simp]
    rw [show ((A.length : Int)) + 1 = ((A.length + 1 : Nat) : Int) by simp] at hk
    rw [hk, List.filter_append, List.filter_cons, h3]
    simp only [Bool.not_true, Bool.false_eq_true, if_false]
    have hA : A.filter (fun p => !f p) = A := List.filter_eq_self.2 fun p hp => by rw [h2 p hp]; rfl
    rw [hA]

theorem slices_DeleteFunc_Place_spec' (y1 : SlV) (y1b : Option Nat) (s1 : List Place) (f1 : Nat) (caps1 : List Value) (pre1 : List Pred) [StabL pre1] (del1 : Place → Bool) (hfb1 : tab.fnb f1 = true) (hfn1 : ∀ (a0_ : Place), Does Try.prog f1 ([.agg ⟨[.int .i64 a0_.node, .int .i64 a0_.parent, .int .i64 a0_.name]⟩] ++ caps1) pre1 (fun (_ : Unit) => .bool (del1 a0_)) (fun (_ : Unit) => [])) :
    DoesG Try.prog 136 [y1.val s1.length, .func (.func f1) #[] ⟨caps1⟩] pre1 ⟨[], [ownL EPlace 35 y1 y1b s1]⟩ (fun (_ : Unit) => y1.val (s1.filter (fun p => !del1 p)).length) (fun (_ : Unit) => []) (fun (_ : Unit) => ⟨[], [ownL EPlace 35 y1 y1b (s1.filter (fun p => !del1 p))]⟩) := by
  have := slices_DeleteFunc_Place_spec y1 y1b s1 f1 caps1 pre1 del1 hfb1 hfn1
  rw [DF_Place] at this
  exact this

theorem slices_SortStableFunc_Place_spec' (y1 : SlV) (y1b : Option Nat) (x1 : List Place) (f1 : Nat) (caps1 : List Value) (pre1 : List Pred) [StabL pre1] (cmp1 : Place → Place → Int) (hfb1 : tab.fnb f1 = true) (hfn1 : ∀ (a0_ a1_ : Place), Does Try.prog f1 ([.agg ⟨[.int .i64 a0_.node, .int .i64 a0_.parent, .int .i64 a0_.name]⟩, .agg ⟨[.int .i64 a1_.node, .int .i64 a1_.parent, .int .i64 a1_.name]⟩] ++ caps1) pre1 (fun (_ : Unit) => .int .i64 (cmp1 a0_ a1_)) (fun (_ : Unit) => [])) (hx : x1.length < 20) :
    DoesG Try.prog 139 [y1.val x1.length, .func (.func f1) #[] ⟨caps1⟩] pre1 ⟨[], [ownL EPlace 35 y1 y1b x1]⟩ (fun (_ : Unit) => .tuple #[]) (fun (_ : Unit) => []) (fun (_ : Unit) => ⟨[], [ownL EPlace 35 y1 y1b (isort (fun a b => decide (cmp1 a b < 0)) [] x1)]⟩) := by
  have := slices_SortStableFunc_Place_spec y1 y1b x1 f1 caps1 pre1 cmp1 hfb1 hfn1 hx
  rw [SS_Place x1 cmp1 hx] at this
  exact this

def tree_Kids_1 (p1 : Place) (node1 : Int) : Bool :=
  (p1.parent != node1)
theorem tree_Kids_1_spec (p1 : Place) (c1 : Nat) (node1 : Int) : Does Try.prog 138 [.agg ⟨[.int .i64 p1.node, .int .i64 p1.parent, .int .i64 p1.name]⟩, .pointer (some ⟨c1, 0, none⟩)] [VarP c1 [.int .i64 node1]] (fun (_ : Unit) => .bool (tree_Kids_1 p1 node1)) (fun (_ : Unit) => []) := by
  refine does_of tab_ok Try.func138 rfl Try.ntmps138 Try.results138 rfl inferInstance (fun _ => inferInstance) fun C => ?_
  refine Tx ?_
  refine Bx fun g1 => ?_
  refine Tx ?_
  have hr1 : (tree_Kids_1 p1 node1) = (p1.parent != node1) := by simp only [tree_Kids_1, cond_true, cond_false]
  refine cw_ret ?_; rw [hr1]; exact Re () (Vt Vn)

def tree_Kids_2 (a1 : Place) (b1 : Place) : Int :=
  (wsub a1.name b1.name)
theorem tree_Kids_2_spec (a1 : Place) (b1 : Place) : Does Try.prog 140 [.agg ⟨[.int .i64 a1.node, .int .i64 a1.parent, .int .i64 a1.name]⟩, .agg ⟨[.int .i64 b1.node, .int .i64 b1.parent, .int .i64 b1.name]⟩] [] (fun (_ : Unit) => .int .i64 (tree_Kids_2 a1 b1)) (fun (_ : Unit) => []) := by
  refine does_of tab_ok Try.func140 rfl Try.ntmps140 Try.results140 rfl inferInstance (fun _ => inferInstance) fun C => ?_
  refine Tx ?_
  refine Bx fun g1 => ?_
  refine Bx fun g2 => ?_
  refine Tx ?_
  refine rw_q rfl rfl rfl (q_subW rfl rfl (fun _ => rfl) rfl (fun _ => rfl)) ?_
  refine Tx ?_
  have hr1 : (tree_Kids_2 a1 b1) = (wsub a1.name b1.name) := by simp only [tree_Kids_2, cond_true, cond_false]
  refine cw_ret ?_; rw [hr1]; exact Re () (Vt Vn)

def tree_Kids (t1 : List Place) (node1 : Int) : (List Place) × Int :=
  (bif ((tree_Check t1) != 0) then (([] : List Place), (tree_Check t1)) else (bif (decide (node1 < 0) || decide (node1 > 16)) then (([] : List Place), 5) else ((isort (fun a_ b_ => decide (tree_Kids_2 a_ b_ < 0)) [] (t1.filter (fun p => !(fun a0_ => tree_Kids_1 a0_ node1) p))), 0)))
theorem tree_Kids_spec (y1 : SlV) (t1 : List Place) (node1 : Int) : Does Try.prog 51 [.agg ⟨[y1.val t1.length]⟩, .int .i64 node1] [RdL EPlace y1 t1] (fun (X : SlV) => .tuple #[X.val ((tree_Kids t1 node1).1).length, .int .i64 ((tree_Kids t1 node1).2)]) (fun (X : SlV) => [RdL EPlace X ((tree_Kids t1 node1).1)]) := by
  refine does_of tab_ok Try.func51 rfl Try.ntmps51 Try.results51 rfl inferInstance (fun _ => inferInstance) fun C => ?_
  refine Pc EPlace y1 t1 24 fun hlen1 => ?_
  refine Tx ?_
  refine Bx fun g1 => ?_
  refine rw_box (cs := [_]) .sq (guard_none rfl) rfl rfl rfl rfl rfl rfl fun g2 => ?_
  refine Tx ?_
  refine Cl (tree_Check_spec y1 t1) fun _ => ?_
  refine Tx ?_
  refine Cd (b := ((tree_Check t1) != 0)) (fun hc1 => ?_) fun hc1 => ?_
  · have hc1p := bne_iff_ne.1 hc1
    refine Tx ?_
    refine Fc EPlace ?_
    have hr1 : (tree_Kids t1 node1) = (([] : List Place), (tree_Check t1)) := by simp only [tree_Kids, hc1, cond_true, cond_false]
    refine cw_ret ?_; rw [hr1]; exact Re (⟨none, 0⟩ : SlV) (Vt (Vt Vn))
  · have hc1p := eq_of_bne_false hc1
    have hkl := check_len (eq_of_bne_false hc1)
    refine Tx ?_
    refine Cd (b := (decide (node1 < 0) || decide (node1 > 16))) (fun hc2 => ?_) fun hc2 => ?_
    · refine Tx ?_
      refine Fc EPlace ?_
      have hr2 : (tree_Kids t1 node1) = (([] : List Place), 5) := by simp only [tree_Kids, hc1, hc2, cond_true, cond_false]
      refine cw_ret ?_; rw [hr2]; exact Re (⟨none, 0⟩ : SlV) (Vt (Vt Vn))
    · refine Tx ?_
      refine Cg (slices_Clone_Place_spec y1 t1) fun x1 => ?_
      refine Rp rfl rfl rfl rfl ?_
      refine rw_le (le_var (g := g2) Pk) ?_
      refine rw_callG (slices_DeleteFunc_Place_spec' x1.1 x1.2 t1 _ _ _ (fun a0_ => tree_Kids_1 a0_ node1) Kr (fun a0_ => tree_Kids_1_spec a0_ g2 node1)) .sq (.inl ⟨_, rfl⟩) (guard_none rfl) rfl rfl rfl Kr rfl rfl Sm (.nil _) (by first | exact .cons (.here _ _) (.nil _) | exact .cons (.there _ (.here _ _)) (.nil _) | exact .cons (.there _ (.there _ (.here _ _))) (.nil _) | exact .cons (.there _ (.there _ (.there _ (.here _ _)))) (.nil _)) ?_
      intro _
      refine Tx ?_
      refine rw_callG (slices_SortStableFunc_Place_spec' x1.1 x1.2 (t1.filter (fun p => !(fun a0_ => tree_Kids_1 a0_ node1) p)) _ _ _ tree_Kids_2 Kr (fun a0_ a1_ => tree_Kids_2_spec a0_ a1_) (Nat.lt_of_le_of_lt (List.length_filter_le _ _) (by omega))) .sq (.inl ⟨_, rfl⟩) (guard_none rfl) rfl rfl rfl Kr rfl rfl Sm (.nil _) (by first | exact .cons (.here _ _) (.nil _) | exact .cons (.there _ (.here _ _)) (.nil _) | exact .cons (.there _ (.there _ (.here _ _))) (.nil _) | exact .cons (.there _ (.there _ (.there _ (.here _ _)))) (.nil _)) ?_
      intro _
      have hv1l : (t1.filter (fun p => !(fun a0_ => tree_Kids_1 a0_ node1) p)).length = (isort (fun a_ b_ => decide (tree_Kids_2 a_ b_ < 0)) [] (t1.filter (fun p => !(fun a0_ => tree_Kids_1 a0_ node1) p))).length := (isort_len (fun a_ b_ => decide (tree_Kids_2 a_ b_ < 0)) (t1.filter (fun p => !(fun a0_ => tree_Kids_1 a0_ node1) p))).symm
      have hv1 : x1.1.val (t1.filter (fun p => !(fun a0_ => tree_Kids_1 a0_ node1) p)).length = x1.1.val (isort (fun a_ b_ => decide (tree_Kids_2 a_ b_ < 0)) [] (t1.filter (fun p => !(fun a0_ => tree_Kids_1 a0_ node1) p))).length := congrArg (SlV.val x1.1) hv1l
      try rw [hv1]
      refine Tx ?_
      refine cw_le (le_freezeL EPlace 35 x1.1 x1.2 (isort (fun a_ b_ => decide (tree_Kids_2 a_ b_ < 0)) [] (t1.filter (fun p => !(fun a0_ => tree_Kids_1 a0_ node1) p))) Uo) ?_
      have hr3 : (tree_Kids t1 node1) = ((isort (fun a_ b_ => decide (tree_Kids_2 a_ b_ < 0)) [] (t1.filter (fun p => !(fun a0_ => tree_Kids_1 a0_ node1) p))), 0) := by simp only [tree_Kids, hc1, hc2, cond_true, cond_false]
      refine cw_ret ?_; rw [hr3]; exact Re x1.1 (Vt (Vt Vn))
end Go.Proofs.Ytchdacbjiomplaa
