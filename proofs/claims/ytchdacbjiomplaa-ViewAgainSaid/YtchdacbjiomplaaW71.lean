/- Part of this claim. No condition. -/
import Derived.Test.YtchdacbjiomplaaWBits
set_option linter.unusedVariables false
set_option linter.unusedSimpArgs false
set_option maxHeartbeats 2000000
namespace Go.Proofs.Ytchdacbjiomplaa
open Go Go.Proofs.Ytchdacbjiomplaa.Fw Go.Proofs
attribute [local irreducible] RdL RdN VarP RW CW
def slices_partialInsertionSortCmpFunc_Place_L1 (data1 : List Place) (a1 : Int) (b1 : Int) (cmp1 : Place → Place → Int) : Nat → Int → Bool
  | 0, i1 => false
  | f_k1 + 1, i1 => (bif decide (i1 < b1) then (bif (decide (i1 < b1) && (!(decide ((cmp1 (gt data1 i1.toNat) (gt data1 ((i1 - 1).toNat))) < 0)))) then (slices_partialInsertionSortCmpFunc_Place_L1 data1 a1 b1 cmp1 f_k1 (i1 + 1)) else (bif (i1 == b1) then true else (bif decide ((b1 - a1) < 50) then false else false))) else (bif (i1 == b1) then true else (bif decide ((b1 - a1) < 50) then false else false)))
def slices_partialInsertionSortCmpFunc_Place (data1 : List Place) (a1 : Int) (b1 : Int) (cmp1 : Place → Place → Int) : Bool :=
  (slices_partialInsertionSortCmpFunc_Place_L1 data1 a1 b1 cmp1 ((b1 - (a1 + 1)).toNat + 1) (a1 + 1))
theorem slices_partialInsertionSortCmpFunc_Place_spec (y1 : SlV) (data1 : List Place) (a1 : Int) (b1 : Int) (f1 : Nat) (caps1 : List Value) (pre1 : List Pred) [StabL pre1] (cmp1 : Place → Place → Int) (hfb1 : tab.fnb f1 = true) (hfn1 : ∀ (a0_ : Place) (a1_ : Place), Does Try.prog f1 ([.agg ⟨[.int .i64 a0_.node, .int .i64 a0_.parent, .int .i64 a0_.name]⟩, .agg ⟨[.int .i64 a1_.node, .int .i64 a1_.parent, .int .i64 a1_.name]⟩] ++ caps1) pre1 (fun (_ : Unit) => .int .i64 (cmp1 a0_ a1_)) (fun (_ : Unit) => [])) (hab : 0 ≤ a1 ∧ a1 < b1 ∧ b1 ≤ (data1.length : Int) ∧ b1 - a1 < 50) : Does Try.prog 196 [y1.val data1.length, .int .i64 a1, .int .i64 b1, .func (.func f1) #[] ⟨caps1⟩] (RdL EPlace y1 data1 :: pre1) (fun (_ : Unit) => .bool (slices_partialInsertionSortCmpFunc_Place data1 a1 b1 cmp1)) (fun (_ : Unit) => []) := by
  refine does_of tab_ok Try.func196 rfl Try.ntmps196 Try.results196 rfl inferInstance (fun _ => inferInstance) fun C => ?_
  refine cw_pure (φ := data1.length * 24 ≤ 140737488355328) [RdL EPlace y1 data1] Sf (fun M w h => (allF1 h).len) fun hlen1 => ?_
  refine Tx ?_
  refine rw_q rfl rfl rfl (q_add rfl rfl (fun _ => rfl) rfl (fun _ => rfl) (fun _ => by omega)) ?_
  refine Tx ?_
  (repeat refine cw_seq ?_); refine cw_once ?_
  refine Tx ?_
  refine Cd (b := decide ((0 : Int) < 5)) (fun hc1 => ?_) fun hc1 => ?_
  · refine Tx ?_
    (repeat refine cw_seq ?_); refine Lp [0,1,2,3,8,10,15,16] [] (fun (i1 : Int) => (⟨[(9, .v (.int .i64 i1))], [], [], [], (a1 + 1 ≤ i1 ∧ i1 ≤ b1) ∧ (slices_partialInsertionSortCmpFunc_Place_L1 data1 a1 b1 cmp1 ((b1 - i1).toNat + 1) i1) = (slices_partialInsertionSortCmpFunc_Place data1 a1 b1 cmp1), (b1 - i1).toNat + 1⟩ : Ls)) (a1 + 1) (Sc (Sc (Sc (Sc (Sc (Sc (Sc (Sc Sn)))))))) (.nil) ⟨(by first | exact Nat.le_refl _ | exact Nat.zero_le _ | omega), (by simp only [slices_partialInsertionSortCmpFunc_Place, Bool.true_and, Bool.and_true, Bool.false_or, Bool.or_false, Bool.false_and, Bool.and_false, Bool.true_or, Bool.or_true, Bool.not_true, Bool.not_false, cond_true, cond_false] : (slices_partialInsertionSortCmpFunc_Place data1 a1 b1 cmp1) = (slices_partialInsertionSortCmpFunc_Place_L1 data1 a1 b1 cmp1 ((b1 - (a1 + 1)).toNat + 1) (a1 + 1))).symm⟩ Le5 ?_
    rintro i1 ⟨hi, hf1⟩
    simp only [List.cons_append, List.nil_append]
    have hlt1_ : (b1 - i1).toNat + 1 = ((b1 - i1).toNat + 1 - 1) + 1 := by omega
    (repeat refine cw_seq ?_); refine cw_regionA (fun _ => some []) ?_
    refine Rb 0 [1] [2,3,4,5,6,7,8,9,10,11,12,13,14,15,16,17] rfl Qp ?_
    refine Rb 1 [] [2,3,4,5,6,7,8,9,10,11,12,13,14,15,16,17] rfl Qp ?_
    refine Rb 2 [] [3,4,5,6,7,8,9,10,11,12,13,14,15,16,17] rfl Qp ?_
    refine Ra 3 [] rfl Qp ?_
    refine Gb 4 [5,6,7,8,9,10,11,12,13] [14,15,16,17] rfl (guard_vt rfl rfl rfl) (q_pev rfl Bt) ?_
    refine Gb 5 [6,9,10,11,12,13] [7,8,14,15,16,17] rfl (guard_vt rfl rfl rfl) (q_pev rfl Bt) ?_
    refine Gb 6 [9,10,11,12,13] [7,8,14,15,16,17] rfl (guard_vt rfl rfl rfl) (q_pev rfl Bt) ?_
    refine Gb 7 [9,10,11,12,13] [8,14,15,16,17] rfl (guard_vt rfl rfl rfl) (q_idx EPlace i1.toNat rfl rfl Bt rfl Bt rfl rfl rfl Mm rfl (by intro h; first | omega | rfl | (simp at h; omega)) (by first | (intro _; first | assumption | omega) | (intro h; simp at h; omega))) ?_
    refine Gb 8 [9,10,11,12,13] [14,15,16,17] rfl (guard_vt rfl rfl rfl) (q_leA EPlace rfl rfl Bt rfl rfl Mm (by first | (intro _; first | assumption | omega) | (intro h; simp at h; omega))) ?_
    refine Gb 9 [10,11] [12,13,14,15,16,17] rfl (guard_vt rfl rfl rfl) (q_pev rfl Bt) ?_
    refine Gb 10 [] [11,12,13,14,15,16,17] rfl (guard_vt rfl rfl rfl) (q_pev rfl Bt) ?_
    refine Gb 11 [] [12,13,14,15,16,17] rfl (guard_vt rfl rfl rfl) (q_sub rfl rfl Bt rfl Bt (by intro h; first | omega | (simp at h; omega))) ?_
    refine Gb 12 [] [13,14,15,16,17] rfl (guard_vt rfl rfl rfl) (q_idx EPlace ((i1 - 1).toNat) rfl rfl Bt rfl Bt rfl rfl rfl Mm rfl (by intro h; first | omega | rfl | (simp at h; omega)) (by first | (intro _; first | assumption | omega) | (intro h; simp at h; omega))) ?_
    refine Gb 13 [] [14,15,16,17] rfl (guard_vt rfl rfl rfl) (q_leA EPlace rfl rfl Bt rfl rfl Mm (by first | (intro _; first | assumption | omega) | (intro h; simp at h; omega))) ?_
    refine ra_one 14 Kr ?_
    refine rw_split (.an rfl rfl) (guard_vt rfl rfl rfl) (fun hg1 => ?_) (fun hg1 => ?_)
    · have hg1p := of_decide_eq_true hg1
      refine rw_callv (hfn1 (gt data1 i1.toNat) (gt data1 ((i1 - 1).toNat))) (.an rfl rfl) (guard_is (guard_vt rfl rfl rfl) hg1) rfl rfl rfl rfl (by first | rfl | assumption | (simp only [hg1, Bool.and_true, Bool.true_and, Bool.and_self, Bool.not_false, Bool.not_true]; done) | simp_all) (by assumption) rfl (by first | rfl | assumption | (simp only [hg1, Bool.and_true, Bool.true_and, Bool.and_self, Bool.not_false, Bool.not_true]; done) | simp_all) rfl Sf ?_
      intro _
      refine Gb 15 [] [16,17] rfl (guard_vt rfl rfl rfl) (q_pev rfl Bt) ?_
      refine Ga 16 [] rfl (guard_vt rfl rfl rfl) (q_pev rfl Bt) ?_
      refine Ra 17 [] rfl (q_pev rfl Bt) ?_
      refine ra_nil Kr ?_
      (repeat refine cw_seq ?_)
      refine Cd (b := (decide (i1 < b1) && (!(decide ((cmp1 (gt data1 i1.toNat) (gt data1 ((i1 - 1).toNat))) < 0))))) (fun hc2 => ?_) fun hc2 => ?_
      · try simp only [hg1, Bool.true_and, Bool.and_true, Bool.false_or, Bool.or_false, Bool.false_and, Bool.and_false, Bool.true_or, Bool.or_true, Bool.not_true, Bool.not_false] at hc2
        refine Tx ?_
        refine rw_q rfl rfl rfl (q_add rfl rfl (fun _ => rfl) rfl (fun _ => rfl) (fun _ => by omega)) ?_
        refine Tx ?_
        have hnx1 : (b1 - (i1 + 1)).toNat + 1 = (b1 - i1).toNat + 1 - 1 := by omega
        refine ⟨(i1 + 1), ⟨(by (try simp only [List.length_append, List.length_cons, List.length_nil]); omega), (by rw [hnx1]; exact (by rw [← hf1]; (conv => lhs; rw [hlt1_]); simp only [slices_partialInsertionSortCmpFunc_Place_L1, hg1, hc2, Bool.true_and, Bool.and_true, Bool.false_or, Bool.or_false, Bool.false_and, Bool.and_false, Bool.true_or, Bool.or_true, Bool.not_true, Bool.not_false, cond_true, cond_false] : (slices_partialInsertionSortCmpFunc_Place data1 a1 b1 cmp1) = (slices_partialInsertionSortCmpFunc_Place_L1 data1 a1 b1 cmp1 ((b1 - i1).toNat + 1 - 1) (i1 + 1))).symm)⟩, (by simp only []; omega), Le5⟩
      · try simp only [hg1, Bool.true_and, Bool.and_true, Bool.false_or, Bool.or_false, Bool.false_and, Bool.and_false, Bool.true_or, Bool.or_true, Bool.not_true, Bool.not_false] at hc2
        refine Tx ?_
        refine Cd (b := (i1 == b1)) (fun hc3 => ?_) fun hc3 => ?_
        · try simp only [hg1, Bool.true_and, Bool.and_true, Bool.false_or, Bool.or_false, Bool.false_and, Bool.and_false, Bool.true_or, Bool.or_true, Bool.not_true, Bool.not_false] at hc3
          have hc3p := eq_of_beq hc3
          refine Tx ?_
          have hr1 : (slices_partialInsertionSortCmpFunc_Place data1 a1 b1 cmp1) = true := by rw [← hf1]; (conv => lhs; rw [hlt1_]); simp only [slices_partialInsertionSortCmpFunc_Place_L1, hg1, hc2, hc3, Bool.true_and, Bool.and_true, Bool.false_or, Bool.or_false, Bool.false_and, Bool.and_false, Bool.true_or, Bool.or_true, Bool.not_true, Bool.not_false, cond_true, cond_false]
          refine cw_ret ?_
          rw [hr1]
          exact ⟨(), _, (.cons (.tmp rfl) .nil), rfl, Sf, .nil _, .nil _⟩
        · try simp only [hg1, Bool.true_and, Bool.and_true, Bool.false_or, Bool.or_false, Bool.false_and, Bool.and_false, Bool.true_or, Bool.or_true, Bool.not_true, Bool.not_false] at hc3
          have hc3p := ne_of_beq_false hc3
          refine Tx ?_
          refine rw_q rfl rfl rfl (q_sub rfl rfl (fun _ => rfl) rfl (fun _ => rfl) (fun _ => by omega)) ?_
          refine Tx ?_
          refine Cd (b := decide ((b1 - a1) < 50)) (fun hc4 => ?_) fun hc4 => ?_
          · try simp only [hg1, Bool.true_and, Bool.and_true, Bool.false_or, Bool.or_false, Bool.false_and, Bool.and_false, Bool.true_or, Bool.or_true, Bool.not_true, Bool.not_false] at hc4
            have hc4p := of_decide_eq_true hc4
            refine Tx ?_
            have hr2 : (slices_partialInsertionSortCmpFunc_Place data1 a1 b1 cmp1) = false := by rw [← hf1]; (conv => lhs; rw [hlt1_]); simp only [slices_partialInsertionSortCmpFunc_Place_L1, hg1, hc2, hc3, hc4, Bool.true_and, Bool.and_true, Bool.false_or, Bool.or_false, Bool.false_and, Bool.and_false, Bool.true_or, Bool.or_true, Bool.not_true, Bool.not_false, cond_true, cond_false]
            refine cw_ret ?_
            rw [hr2]
            exact ⟨(), _, (.cons (.tmp rfl) .nil), rfl, Sf, .nil _, .nil _⟩
          · try simp only [hg1, Bool.true_and, Bool.and_true, Bool.false_or, Bool.or_false, Bool.false_and, Bool.and_false, Bool.true_or, Bool.or_true, Bool.not_true, Bool.not_false] at hc4
            have hc4p := of_decide_eq_false hc4
            exact absurd (of_decide_eq_false hc4) (by omega)
    · have hg1p := of_decide_eq_false hg1
      refine rw_dead (.an rfl rfl) (guard_vt rfl rfl rfl) hg1 rfl rfl ?_
      refine Gb 15 [] [16,17] rfl (guard_vt rfl rfl rfl) (q_dead (v := .bool false) hg1) ?_
      refine Ga 16 [] rfl (guard_vt rfl rfl rfl) (q_dead (v := .bool false) hg1) ?_
      refine Ra 17 [] rfl (q_pev rfl Bt) ?_
      refine ra_nil Kr ?_
      (repeat refine cw_seq ?_)
      refine Cd (b := (decide (i1 < b1) && false)) (fun hc5 => ?_) fun hc5 => ?_
      · exact Bool.noConfusion (hc5.symm.trans ((by simp only [hg1, Bool.and_false, Bool.false_and, Bool.or_true, Bool.true_or, Bool.or_false, Bool.false_or, Bool.and_true, Bool.true_and, Bool.not_true, Bool.not_false]) : (decide (i1 < b1) && false) = false))
      · refine Tx ?_
        refine Cd (b := (i1 == b1)) (fun hc6 => ?_) fun hc6 => ?_
        · try simp only [hg1, Bool.true_and, Bool.and_true, Bool.false_or, Bool.or_false, Bool.false_and, Bool.and_false, Bool.true_or, Bool.or_true, Bool.not_true, Bool.not_false] at hc6
          have hc6p := eq_of_beq hc6
          refine Tx ?_
          have hr3 : (slices_partialInsertionSortCmpFunc_Place data1 a1 b1 cmp1) = true := by rw [← hf1]; (conv => lhs; rw [hlt1_]); simp only [slices_partialInsertionSortCmpFunc_Place_L1, hg1, hc6, Bool.true_and, Bool.and_true, Bool.false_or, Bool.or_false, Bool.false_and, Bool.and_false, Bool.true_or, Bool.or_true, Bool.not_true, Bool.not_false, cond_true, cond_false]
          refine cw_ret ?_
          rw [hr3]
          exact ⟨(), _, (.cons (.tmp rfl) .nil), rfl, Sf, .nil _, .nil _⟩
        · try simp only [hg1, Bool.true_and, Bool.and_true, Bool.false_or, Bool.or_false, Bool.false_and, Bool.and_false, Bool.true_or, Bool.or_true, Bool.not_true, Bool.not_false] at hc6
          have hc6p := ne_of_beq_false hc6
          refine Tx ?_
          refine rw_q rfl rfl rfl (q_sub rfl rfl (fun _ => rfl) rfl (fun _ => rfl) (fun _ => by omega)) ?_
          refine Tx ?_
          refine Cd (b := decide ((b1 - a1) < 50)) (fun hc7 => ?_) fun hc7 => ?_
          · try simp only [hg1, Bool.true_and, Bool.and_true, Bool.false_or, Bool.or_false, Bool.false_and, Bool.and_false, Bool.true_or, Bool.or_true, Bool.not_true, Bool.not_false] at hc7
            have hc7p := of_decide_eq_true hc7
            refine Tx ?_
            have hr4 : (slices_partialInsertionSortCmpFunc_Place data1 a1 b1 cmp1) = false := by rw [← hf1]; (conv => lhs; rw [hlt1_]); simp only [slices_partialInsertionSortCmpFunc_Place_L1, hg1, hc6, hc7, Bool.true_and, Bool.and_true, Bool.false_or, Bool.or_false, Bool.false_and, Bool.and_false, Bool.true_or, Bool.or_true, Bool.not_true, Bool.not_false, cond_true, cond_false]
            refine cw_ret ?_
            rw [hr4]
            exact ⟨(), _, (.cons (.tmp rfl) .nil), rfl, Sf, .nil _, .nil _⟩
          · try simp only [hg1, Bool.true_and, Bool.and_true, Bool.false_or, Bool.or_false, Bool.false_and, Bool.and_false, Bool.true_or, Bool.or_true, Bool.not_true, Bool.not_false] at hc7
            have hc7p := of_decide_eq_false hc7
            exact absurd (of_decide_eq_false hc7) (by omega)
  · exact Bool.noConfusion (hc1.symm.trans (decide_eq_true (by decide)))
end Go.Proofs.Ytchdacbjiomplaa
