/- Part of this claim. No condition. -/
import Derived.Test.YtchdacbjiomplaaLH
import Derived.Test.YtchdacbjiomplaaLDone
set_option linter.unusedVariables false
set_option linter.unusedSimpArgs false
set_option maxHeartbeats 2000000
namespace Go.Proofs.Ytchdacbjiomplaa
open Go Go.Proofs.Ytchdacbjiomplaa.Fw Go.Proofs
attribute [local irreducible] RW CW
def orangeryref_rank (s1 : Stamp) : Int :=
  ((s1.time * 3) + s1.who)
theorem orangeryref_rank_spec (s1 : Stamp) (hs : 0 ≤ s1.time ∧ s1.time ≤ 10000 ∧ 0 ≤ s1.who ∧ s1.who ≤ 2) : Does Try.prog 160 [.agg ⟨[.int .i64 s1.time, .int .i64 s1.who]⟩] [] (fun (_ : Unit) => .int .i64 (orangeryref_rank s1)) (fun (_ : Unit) => []) := by
  refine does_of tab_ok Try.func160 rfl Try.ntmps160 Try.results160 rfl inferInstance (fun _ => inferInstance) fun C => ?_
  refine Tx ?_
  refine Bx fun g1 => ?_
  refine Tx ?_
  refine rw_q rfl rfl rfl (q_mul rfl rfl (fun _ => rfl) rfl (fun _ => rfl) (fun _ => by omega)) ?_
  refine Tx ?_
  refine rw_q rfl rfl rfl (q_add rfl rfl (fun _ => rfl) rfl (fun _ => rfl) (fun _ => by omega)) ?_
  refine Tx ?_
  have hr1 : (orangeryref_rank s1) = ((s1.time * 3) + s1.who) := by simp only [orangeryref_rank, cond_true, cond_false]
  refine cw_ret ?_; rw [hr1]; exact Re () (Vt Vn)

def orangeryref_Folded_L2 (l1 : List Op) (last1 : Int) : List Op → Nat → Int → Int
  | [], n2, best2 => best2
  | pn2 :: rn2, n2, best2 => (bif (decide ((orangeryref_rank (⟨pn2.time, pn2.who⟩ : Stamp)) > last1) && (decide (best2 < 0) || decide ((orangeryref_rank (⟨pn2.time, pn2.who⟩ : Stamp)) < (orangeryref_rank (⟨(gt l1 best2.toNat).time, (gt l1 best2.toNat).who⟩ : Stamp))))) then (orangeryref_Folded_L2 l1 last1 rn2 (n2 + 1) (n2 : Int)) else (orangeryref_Folded_L2 l1 last1 rn2 (n2 + 1) best2))
def orangeryref_Folded_L1 (l1 : List Op) : Nat → Int → (List Step) → (List Place) → (History × Int)
  | 0, last1, l2, p1 => default
  | f_k1 + 1, last1, l2, p1 => (bif decide ((l2.length : Int) < (l1.length : Int)) then (bif decide (((orangeryref_Folded_L2 l1 last1 l1 0 (-1))) < 0) then ((⟨([] : List Step), ([] : List Place)⟩ : History), 6) else (orangeryref_Folded_L1 l1 f_k1 (orangeryref_rank (⟨(gt l1 (((orangeryref_Folded_L2 l1 last1 l1 0 (-1))).toNat)).time, (gt l1 (((orangeryref_Folded_L2 l1 last1 l1 0 (-1))).toNat)).who⟩ : Stamp)) (l2 ++ [((orangeryref_done p1 (gt l1 (((orangeryref_Folded_L2 l1 last1 l1 0 (-1))).toNat))).2)]) ((orangeryref_done p1 (gt l1 (((orangeryref_Folded_L2 l1 last1 l1 0 (-1))).toNat))).1))) else ((⟨l2, p1⟩ : History), 0))
def orangeryref_Folded_L0 (l1 : List Op) : List Op → (History × Int)
  | [] => (orangeryref_Folded_L1 l1 (l1.length + 1) (-1) [] [])
  | pn1 :: rn1 => (bif ((orangeryref_CheckOp pn1) != 0) then ((⟨([] : List Step), ([] : List Place)⟩ : History), (orangeryref_CheckOp pn1)) else (orangeryref_Folded_L0 l1 rn1))
def orangeryref_Folded (l1 : List Op) : History × Int :=
  (bif decide ((l1.length : Int) > 30) then ((⟨([] : List Step), ([] : List Place)⟩ : History), 2) else (orangeryref_Folded_L0 l1 l1))
theorem orangeryref_Folded_spec (y1 : SlV) (l1 : List Op) : Does Try.prog 79 [y1.val l1.length] [RdL EOp y1 l1] (fun (X : SlV × SlV) => .tuple #[.agg ⟨[X.1.val (((orangeryref_Folded l1).1).l).length, X.2.val (((orangeryref_Folded l1).1).t).length]⟩, .int .i64 ((orangeryref_Folded l1).2)]) (fun (X : SlV × SlV) => [RdL EStep X.1 (((orangeryref_Folded l1).1).l), RdL EPlace X.2 (((orangeryref_Folded l1).1).t)]) := by
  refine does_of tab_ok Try.func79 rfl Try.ntmps79 Try.results79 rfl inferInstance (fun _ => inferInstance) fun C => ?_
  refine Pc EOp y1 l1 56 fun hlen1 => ?_
  refine Tx ?_
  refine Al fun g1 => ?_
  refine Tx ?_
  refine Cd (b := decide ((l1.length : Int) > 30)) (fun hc1 => ?_) fun hc1 => ?_
  · have hc1p := of_decide_eq_true hc1
    refine Tx ?_
    refine Fc EStep ?_
    refine Fc EPlace ?_
    have hr1 : (orangeryref_Folded l1) = ((⟨([] : List Step), ([] : List Place)⟩ : History), 2) := by simp only [orangeryref_Folded, hc1, cond_true, cond_false]
    refine cw_ret ?_; rw [hr1]; exact Re ⟨(⟨none, 0⟩ : SlV), (⟨none, 0⟩ : SlV)⟩ (Va (Vt Vn))
  · have hc1p := of_decide_eq_false hc1
    refine Tx ?_
    (repeat refine cw_seq ?_); refine Lp [0,2,3,18,19] [true] (fun (n1 : Nat) => (⟨[(20, .v (.int .i64 (n1 : Int)))], [], [], [], (n1 ≤ l1.length) ∧ (∀ i, i < n1 → orangeryref_CheckOp (gt l1 i) = 0) ∧ (orangeryref_Folded_L0 l1 (l1.drop n1)) = (orangeryref_Folded l1), l1.length - n1⟩ : Ls)) 0 (Sc (Sc (Sc (Sc (Sc Sn))))) (.keep (.nil)) ⟨Nat.zero_le _, (fun i hi => absurd hi (Nat.not_lt_zero i)), (by simp only [orangeryref_Folded, hc1, cond_true, cond_false] : (orangeryref_Folded l1) = (orangeryref_Folded_L0 l1 l1)).symm⟩ Le4 ?_
    rintro n1 ⟨hkn1, hck, hf1⟩
    simp only [List.cons_append, List.nil_append]
    refine Tx ?_
    refine Cd (b := decide ((n1 : Int) < (l1.length : Int))) (fun hc2 => ?_) fun hc2 => ?_
    · have hlt0 : n1 < l1.length := Int.ofNat_lt.1 (of_decide_eq_true hc2)
      refine Tx ?_
      refine rw_q rfl rfl rfl (q_idx EOp n1 rfl rfl (fun _ => rfl) rfl (fun _ => rfl) rfl rfl rfl Mm rfl (fun _ => rfl) (fun _ => by first | assumption | omega)) ?_
      refine rw_q rfl rfl rfl (q_leA EOp rfl rfl (fun _ => rfl) rfl rfl Mm (fun _ => by first | assumption | omega)) ?_
      refine Al fun g2 => ?_
      refine Tx ?_
      refine Cl (orangeryref_CheckOp_spec (gt l1 n1)) fun _ => ?_
      refine Tx ?_
      refine Cd (b := ((orangeryref_CheckOp (gt l1 n1)) != 0)) (fun hc3 => ?_) fun hc3 => ?_
      · have hc3p := bne_iff_ne.1 hc3
        refine Tx ?_
        refine Fc EStep ?_
        refine Fc EPlace ?_
        have hr2 : (orangeryref_Folded l1) = ((⟨([] : List Step), ([] : List Place)⟩ : History), (orangeryref_CheckOp (gt l1 n1))) := by rw [← hf1, drop_gt hlt0]; simp only [orangeryref_Folded_L0, hc3, cond_true, cond_false]
        refine cw_ret ?_; rw [hr2]; exact Re ⟨(⟨none, 0⟩ : SlV), (⟨none, 0⟩ : SlV)⟩ (Va (Vt Vn))
      · have hc3p := eq_of_bne_false hc3
        have hck1 := eq_of_bne_false hc3
        refine Tx ?_
        refine rw_q rfl rfl rfl (q_add rfl rfl (fun _ => rfl) rfl (fun _ => rfl) (fun _ => by omega)) ?_
        refine Tx ?_
        refine ⟨(n1 + 1), ⟨hlt0, (fun i hi => snoc_all hck hck1 i hi), (by rw [← hf1, drop_gt hlt0]; simp only [orangeryref_Folded_L0, hc3, cond_true, cond_false] : (orangeryref_Folded l1) = (orangeryref_Folded_L0 l1 (l1.drop (n1 + 1)))).symm⟩, (by simp only []; omega), Le4⟩
    · have hge0 : l1.length ≤ n1 := by have := of_decide_eq_false hc2; omega
      have hca : ∀ i, i < l1.length → orangeryref_CheckOp (gt l1 i) = 0 := fun i hi => hck i (by omega)
      refine Tx ?_
      refine Al fun g3 => ?_
      refine Tx ?_
      (repeat refine cw_seq ?_); refine Lp [0,2,3,7] [false, true] (fun (i_ : Int × List Step × SlV × Option Nat × List Place × SlV × Nat) => match i_ with | ⟨last1, l2, x1, x1b, p1, x2, fz1⟩ => (⟨[(8, .v (.int .i64 last1))], [⟨g3, 94, [x1.val l2.length, x2.val p1.length]⟩], [ownL EStep 37 x1 x1b l2], [RdL EPlace x2 p1], (IsTree p1 ∧ l2.length ≤ l1.length) ∧ (l1.length - l2.length < fz1) ∧ (orangeryref_Folded_L1 l1 (fz1) last1 l2 p1) = (orangeryref_Folded l1), fz1⟩ : Ls)) ⟨(-1), [], ⟨none, 0⟩, none, [], ⟨none, 0⟩, l1.length + 1⟩ (Sc (Sc (Sc (Sc Sn)))) (.drop (.keep (.nil))) ⟨⟨tree_nil, Nat.zero_le _⟩, (by first | exact Nat.le_refl _ | exact Nat.zero_le _ | omega), (by rw [← hf1, List.drop_of_length_le hge0]; simp only [orangeryref_Folded_L0, cond_true, cond_false] : (orangeryref_Folded l1) = (orangeryref_Folded_L1 l1 (l1.length + 1) (-1) [] [])).symm⟩ (Le.trans (le_nilL EStep 37) (Le.trans (le_fact (RdL EPlace ⟨none, 0⟩ ([] : List Place)) [] (.nil _) (fun M w _ => RdL.nil _ _ _ (by omega) M w)) Le4)) ?_
      rintro ⟨last1, l2, x1, x1b, p1, x2, fz1⟩ ⟨hi, hzfz1, hf2⟩
      simp only [List.cons_append, List.nil_append]
      have hlt1_ : fz1 = (fz1 - 1) + 1 := by omega
      refine Tx ?_
      refine Cd (b := decide ((l2.length : Int) < (l1.length : Int))) (fun hc4 => ?_) fun hc4 => ?_
      · have hc4p := of_decide_eq_true hc4
        (repeat refine cw_seq ?_); refine cw_skip ?_
        (repeat refine cw_seq ?_); refine cw_block ?_
        refine Ty ?_
        refine cw_joinB [0, 2, 3, 7, 8, 31, 32, 33, 34, 35, 36, 37, 38] [true, true] (fun (best1 : Int) => [(9, .v (.int .i64 best1))]) (fun (best1 : Int) => []) (fun (best1 : Int) => [ownL EStep 37 x1 x1b l2]) (fun (best1 : Int) => []) (fun (best1 : Int) => (-1 ≤ best1 ∧ best1 < (l1.length : Int)) ∧ best1 = (orangeryref_Folded_L2 l1 last1 l1 0 (-1))) (.cons rfl (.cons rfl (.cons rfl (.cons rfl (.cons rfl (.cons rfl (.cons rfl (.cons rfl (.cons rfl (.cons rfl (.cons rfl (.cons rfl (.cons rfl (.nil _)))))))))))))) (.keep (.keep (.nil))) ?_ ?_
        · refine Tx ?_
          (repeat refine cw_seq ?_); refine Lp [0,2,3,7,8,31,32,33,34,35,36,37,38] [true, true] (fun (i_ : Int × Nat) => match i_ with | ⟨best2, n2⟩ => (⟨[(9, .v (.int .i64 best2)), (39, .v (.int .i64 (n2 : Int)))], [], [ownL EStep 37 x1 x1b l2], [], (n2 ≤ l1.length) ∧ (-1 ≤ best2 ∧ best2 < (l1.length : Int)) ∧ (orangeryref_Folded_L2 l1 last1 (l1.drop n2) n2 best2) = (orangeryref_Folded_L2 l1 last1 l1 0 (-1)), l1.length - n2⟩ : Ls)) ⟨(-1), 0⟩ (Sc (Sc (Sc (Sc (Sc (Sc (Sc (Sc (Sc (Sc (Sc (Sc (Sc Sn))))))))))))) (.keep (.keep (.nil))) ⟨Nat.zero_le _, (by first | exact Nat.le_refl _ | exact Nat.zero_le _ | omega), (rfl : (orangeryref_Folded_L2 l1 last1 l1 0 (-1)) = (orangeryref_Folded_L2 l1 last1 l1 0 (-1))).symm⟩ Le4 ?_
          rintro ⟨best2, n2⟩ ⟨hkn2, hbe, hf3⟩
          simp only [List.cons_append, List.nil_append]
          refine Tx ?_
          refine Cd (b := decide ((n2 : Int) < (l1.length : Int))) (fun hc5 => ?_) fun hc5 => ?_
          · have hlt2 : n2 < l1.length := Int.ofNat_lt.1 (of_decide_eq_true hc5)
            refine Tx ?_
            refine rw_q rfl rfl rfl (q_idx EOp n2 rfl rfl (fun _ => rfl) rfl (fun _ => rfl) rfl rfl rfl Mm rfl (fun _ => rfl) (fun _ => by first | assumption | omega)) ?_
            refine rw_q rfl rfl rfl (q_leA EOp rfl rfl (fun _ => rfl) rfl rfl Mm (fun _ => by first | assumption | omega)) ?_
            refine Al fun g4 => ?_
            refine Tx ?_
            (repeat refine cw_seq ?_); refine cw_regionA (fun _ => some []) ?_
            refine Rb 0 [3] [1,2,4,5,6,7,8,9,10,11,12,13,14,15,16,17,18,19,20] rfl Qp ?_
            refine Rb 1 [3] [2,4,5,6,7,8,9,10,11,12,13,14,15,16,17,18,19,20] rfl (q_ldP rfl rfl (fun _ => rfl) rfl Mm rfl) ?_
            refine Rb 3 [2] [4,5,6,7,8,9,10,11,12,13,14,15,16,17,18,19,20] rfl Qp ?_
            refine ra_one 2 Kr ?_
            refine rw_call (orangeryref_rank_spec (⟨(gt l1 n2).time, (gt l1 n2).who⟩ : Stamp) (CheckOp_rk (hca _ (by omega)))) (.an rfl rfl) (guard_none rfl) rfl rfl rfl Kr rfl rfl Sm ?_
            intro _
            refine Rb 4 [] [5,6,7,8,9,10,11,12,13,14,15,16,17,18,19,20] rfl Qp ?_
            refine Rb 5 [] [6,7,8,9,10,11,12,13,14,15,16,17,18,19,20] rfl Qp ?_
            refine Gb 6 [] [7,8,9,10,11,12,13,14,15,16,17,18,19,20] rfl (guard_vt rfl rfl rfl) (q_pev rfl Bt) ?_
            refine Gb 7 [] [8,9,10,11,12,13,14,15,16,17,18,19,20] rfl (guard_vt rfl rfl rfl) (q_pev rfl Bt) ?_
            refine Gb 8 [] [9,10,11,12,13,14,15,16,17,18,19,20] rfl (guard_vt rfl rfl rfl) (q_pev rfl Bt) ?_
            refine Gb 9 [12,13,14,15,16] [10,11,17,18,19,20] rfl (guard_of rfl rfl rfl) (q_pev rfl Bt) ?_
            refine Gb 10 [12,13,14,15,16] [11,17,18,19,20] rfl (guard_of rfl rfl rfl) (q_ldP rfl rfl Bt rfl Mm rfl) ?_
            refine Gb 12 [11,13] [14,15,16,17,18,19,20] rfl (guard_of rfl rfl rfl) (q_pev rfl Bt) ?_
            refine Gb 13 [11] [14,15,16,17,18,19,20] rfl (guard_of rfl rfl rfl) (q_pev rfl Bt) ?_
            refine Gb 14 [11] [15,16,17,18,19,20] rfl (guard_of rfl rfl rfl) (q_idx EOp best2.toNat rfl rfl Bt rfl Bt rfl rfl rfl Mm rfl (by intro h; first | omega | rfl | (simp at h; omega)) (by first | (intro _; first | assumption | omega) | (intro h; simp at h; omega))) ?_
            refine Gb 15 [11] [16,17,18,19,20] rfl (guard_of rfl rfl rfl) (q_fae rfl rfl Bt rfl rfl) ?_
            refine Gb 16 [11] [17,18,19,20] rfl (guard_of rfl rfl rfl) (q_leP EOp rfl rfl Bt rfl rfl Mm (by first | (intro _; first | assumption | omega) | (intro h; simp at h; omega)) rfl) ?_
            refine ra_one 11 Kr ?_
            refine rw_callg (fun hG_ => orangeryref_rank_spec (⟨(gt l1 n2).time, (gt l1 n2).who⟩ : Stamp) (CheckOp_rk (hca _ (by omega)))) (fun _ => rfl) (.an rfl rfl) (guard_of rfl rfl rfl) rfl rfl rfl Kr rfl Bt Sm ?_
            refine ra_one 17 Kr ?_
            refine rw_callg (fun hG_ => orangeryref_rank_spec (⟨(gt l1 best2.toNat).time, (gt l1 best2.toNat).who⟩ : Stamp) (CheckOp_rk (hca _ (by omega)))) (fun _ => rfl) (.an rfl rfl) (guard_of rfl rfl rfl) rfl rfl rfl Kr rfl Bt Sm ?_
            refine Gb 18 [] [19,20] rfl (guard_of rfl rfl rfl) (q_pev rfl Bt) ?_
            refine Ga 19 [] rfl (guard_vt rfl rfl rfl) (q_pev rfl Bt) ?_
            refine Ra 20 [] rfl (q_pev rfl Bt) ?_
            refine ra_nil Kr ?_
            (repeat refine cw_seq ?_)
            refine Cd (b := (decide ((orangeryref_rank (⟨(gt l1 n2).time, (gt l1 n2).who⟩ : Stamp)) > last1) && (decide (best2 < 0) || decide ((orangeryref_rank (⟨(gt l1 n2).time, (gt l1 n2).who⟩ : Stamp)) < (orangeryref_rank (⟨(gt l1 best2.toNat).time, (gt l1 best2.toNat).who⟩ : Stamp)))))) (fun hc6 => ?_) fun hc6 => ?_
            · refine Tx ?_
              refine rw_q rfl rfl rfl (q_add rfl rfl (fun _ => rfl) rfl (fun _ => rfl) (fun _ => by omega)) ?_
              refine Tx ?_
              refine ⟨⟨(n2 : Int), (n2 + 1)⟩, ⟨hlt2, (by simp only [List.length_append, List.length_cons, List.length_nil]; omega), (by rw [← hf3, drop_gt hlt2]; simp only [orangeryref_Folded_L2, hc6, cond_true, cond_false] : (orangeryref_Folded_L2 l1 last1 l1 0 (-1)) = (orangeryref_Folded_L2 l1 last1 (l1.drop (n2 + 1)) (n2 + 1) (n2 : Int))).symm⟩, (by simp only []; omega), Le4⟩
            · refine Tx ?_
              refine rw_q rfl rfl rfl (q_add rfl rfl (fun _ => rfl) rfl (fun _ => rfl) (fun _ => by omega)) ?_
              refine Tx ?_
              refine ⟨⟨best2, (n2 + 1)⟩, ⟨hlt2, (by simp only [List.length_append, List.length_cons, List.length_nil]; omega), (by rw [← hf3, drop_gt hlt2]; simp only [orangeryref_Folded_L2, hc6, cond_true, cond_false] : (orangeryref_Folded_L2 l1 last1 l1 0 (-1)) = (orangeryref_Folded_L2 l1 last1 (l1.drop (n2 + 1)) (n2 + 1) best2)).symm⟩, (by simp only []; omega), Le4⟩
          · have hge2 : l1.length ≤ n2 := by have := of_decide_eq_false hc5; omega
            refine Tx ?_
            have hv1 : (orangeryref_Folded_L2 l1 last1 l1 0 (-1)) = best2 := by rw [← hf3, List.drop_of_length_le hge2]; simp only [orangeryref_Folded_L2, cond_true, cond_false]
            refine ⟨best2, ⟨(by assumption), hv1.symm⟩, Le4⟩
        · rintro best1 ⟨hbp, rfl⟩
          simp only [List.cons_append, List.nil_append]
          refine Tx ?_
          refine Cd (b := decide (((orangeryref_Folded_L2 l1 last1 l1 0 (-1))) < 0)) (fun hc7 => ?_) fun hc7 => ?_
          · have hc7p := of_decide_eq_true hc7
            refine Tx ?_
            refine Fc EStep ?_
            refine Fc EPlace ?_
            have hr3 : (orangeryref_Folded l1) = ((⟨([] : List Step), ([] : List Place)⟩ : History), 6) := by rw [← hf2]; (conv => lhs; rw [hlt1_]); simp only [orangeryref_Folded_L1, hc4, hc7, cond_true, cond_false]
            refine cw_ret ?_; rw [hr3]; exact Re ⟨(⟨none, 0⟩ : SlV), (⟨none, 0⟩ : SlV)⟩ (Va (Vt Vn))
          · have hc7p := of_decide_eq_false hc7
            refine Tx ?_
            refine cw_join [0, 2, 3, 7, 8, 9, 31, 32, 33, 34, 35, 36, 37, 38, 67, 68] [true, true] (fun (i_ : SlV × Nat) => match i_ with | ⟨x3, g5⟩ => [(12, .v (x3.val ((orangeryref_done p1 (gt l1 (((orangeryref_Folded_L2 l1 last1 l1 0 (-1))).toNat))).1).length)), (13, .v (.pointer (some ⟨g5, 0, none⟩))), (70, .v (.tuple #[x3.val ((orangeryref_done p1 (gt l1 (((orangeryref_Folded_L2 l1 last1 l1 0 (-1))).toNat))).1).length, .agg ⟨[.int .i64 ((((orangeryref_done p1 (gt l1 (((orangeryref_Folded_L2 l1 last1 l1 0 (-1))).toNat))).2).o).time), .int .i64 ((((orangeryref_done p1 (gt l1 (((orangeryref_Folded_L2 l1 last1 l1 0 (-1))).toNat))).2).o).who), .int .i64 ((((orangeryref_done p1 (gt l1 (((orangeryref_Folded_L2 l1 last1 l1 0 (-1))).toNat))).2).o).node), .int .i64 ((((orangeryref_done p1 (gt l1 (((orangeryref_Folded_L2 l1 last1 l1 0 (-1))).toNat))).2).o).parent), .int .i64 ((((orangeryref_done p1 (gt l1 (((orangeryref_Folded_L2 l1 last1 l1 0 (-1))).toNat))).2).o).name), .int .i64 ((((orangeryref_done p1 (gt l1 (((orangeryref_Folded_L2 l1 last1 l1 0 (-1))).toNat))).2).o).life), .int .i64 ((((orangeryref_done p1 (gt l1 (((orangeryref_Folded_L2 l1 last1 l1 0 (-1))).toNat))).2).o).seq), .bool (((orangeryref_done p1 (gt l1 (((orangeryref_Folded_L2 l1 last1 l1 0 (-1))).toNat))).2).did), .int .i64 ((((orangeryref_done p1 (gt l1 (((orangeryref_Folded_L2 l1 last1 l1 0 (-1))).toNat))).2).was).node), .int .i64 ((((orangeryref_done p1 (gt l1 (((orangeryref_Folded_L2 l1 last1 l1 0 (-1))).toNat))).2).was).parent), .int .i64 ((((orangeryref_done p1 (gt l1 (((orangeryref_Folded_L2 l1 last1 l1 0 (-1))).toNat))).2).was).name)]⟩])), (71, .v (.pointer (some ⟨g3, 1, none⟩))), (72, .v (.pointer (some ⟨g3, 1, none⟩))), (73, .v (x2.val p1.length)), (74, .v (y1.val l1.length)), (75, .v (.int .i64 ((orangeryref_Folded_L2 l1 last1 l1 0 (-1))))), (77, .v (.agg ⟨[.int .i64 ((gt l1 (((orangeryref_Folded_L2 l1 last1 l1 0 (-1))).toNat)).time), .int .i64 ((gt l1 (((orangeryref_Folded_L2 l1 last1 l1 0 (-1))).toNat)).who), .int .i64 ((gt l1 (((orangeryref_Folded_L2 l1 last1 l1 0 (-1))).toNat)).node), .int .i64 ((gt l1 (((orangeryref_Folded_L2 l1 last1 l1 0 (-1))).toNat)).parent), .int .i64 ((gt l1 (((orangeryref_Folded_L2 l1 last1 l1 0 (-1))).toNat)).name), .int .i64 ((gt l1 (((orangeryref_Folded_L2 l1 last1 l1 0 (-1))).toNat)).life), .int .i64 ((gt l1 (((orangeryref_Folded_L2 l1 last1 l1 0 (-1))).toNat)).seq)]⟩)), (78, .v (.tuple #[x3.val ((orangeryref_done p1 (gt l1 (((orangeryref_Folded_L2 l1 last1 l1 0 (-1))).toNat))).1).length, .agg ⟨[.int .i64 ((((orangeryref_done p1 (gt l1 (((orangeryref_Folded_L2 l1 last1 l1 0 (-1))).toNat))).2).o).time), .int .i64 ((((orangeryref_done p1 (gt l1 (((orangeryref_Folded_L2 l1 last1 l1 0 (-1))).toNat))).2).o).who), .int .i64 ((((orangeryref_done p1 (gt l1 (((orangeryref_Folded_L2 l1 last1 l1 0 (-1))).toNat))).2).o).node), .int .i64 ((((orangeryref_done p1 (gt l1 (((orangeryref_Folded_L2 l1 last1 l1 0 (-1))).toNat))).2).o).parent), .int .i64 ((((orangeryref_done p1 (gt l1 (((orangeryref_Folded_L2 l1 last1 l1 0 (-1))).toNat))).2).o).name), .int .i64 ((((orangeryref_done p1 (gt l1 (((orangeryref_Folded_L2 l1 last1 l1 0 (-1))).toNat))).2).o).life), .int .i64 ((((orangeryref_done p1 (gt l1 (((orangeryref_Folded_L2 l1 last1 l1 0 (-1))).toNat))).2).o).seq), .bool (((orangeryref_done p1 (gt l1 (((orangeryref_Folded_L2 l1 last1 l1 0 (-1))).toNat))).2).did), .int .i64 ((((orangeryref_done p1 (gt l1 (((orangeryref_Folded_L2 l1 last1 l1 0 (-1))).toNat))).2).was).node), .int .i64 ((((orangeryref_done p1 (gt l1 (((orangeryref_Folded_L2 l1 last1 l1 0 (-1))).toNat))).2).was).parent), .int .i64 ((((orangeryref_done p1 (gt l1 (((orangeryref_Folded_L2 l1 last1 l1 0 (-1))).toNat))).2).was).name)]⟩])), (79, .v (x3.val ((orangeryref_done p1 (gt l1 (((orangeryref_Folded_L2 l1 last1 l1 0 (-1))).toNat))).1).length)), (80, .v (.agg ⟨[.int .i64 ((((orangeryref_done p1 (gt l1 (((orangeryref_Folded_L2 l1 last1 l1 0 (-1))).toNat))).2).o).time), .int .i64 ((((orangeryref_done p1 (gt l1 (((orangeryref_Folded_L2 l1 last1 l1 0 (-1))).toNat))).2).o).who), .int .i64 ((((orangeryref_done p1 (gt l1 (((orangeryref_Folded_L2 l1 last1 l1 0 (-1))).toNat))).2).o).node), .int .i64 ((((orangeryref_done p1 (gt l1 (((orangeryref_Folded_L2 l1 last1 l1 0 (-1))).toNat))).2).o).parent), .int .i64 ((((orangeryref_done p1 (gt l1 (((orangeryref_Folded_L2 l1 last1 l1 0 (-1))).toNat))).2).o).name), .int .i64 ((((orangeryref_done p1 (gt l1 (((orangeryref_Folded_L2 l1 last1 l1 0 (-1))).toNat))).2).o).life), .int .i64 ((((orangeryref_done p1 (gt l1 (((orangeryref_Folded_L2 l1 last1 l1 0 (-1))).toNat))).2).o).seq), .bool (((orangeryref_done p1 (gt l1 (((orangeryref_Folded_L2 l1 last1 l1 0 (-1))).toNat))).2).did), .int .i64 ((((orangeryref_done p1 (gt l1 (((orangeryref_Folded_L2 l1 last1 l1 0 (-1))).toNat))).2).was).node), .int .i64 ((((orangeryref_done p1 (gt l1 (((orangeryref_Folded_L2 l1 last1 l1 0 (-1))).toNat))).2).was).parent), .int .i64 ((((orangeryref_done p1 (gt l1 (((orangeryref_Folded_L2 l1 last1 l1 0 (-1))).toNat))).2).was).name)]⟩))]) (fun (i_ : SlV × Nat) => match i_ with | ⟨x3, g5⟩ => [⟨g5, 37, [.int .i64 ((((orangeryref_done p1 (gt l1 (((orangeryref_Folded_L2 l1 last1 l1 0 (-1))).toNat))).2).o).time), .int .i64 ((((orangeryref_done p1 (gt l1 (((orangeryref_Folded_L2 l1 last1 l1 0 (-1))).toNat))).2).o).who), .int .i64 ((((orangeryref_done p1 (gt l1 (((orangeryref_Folded_L2 l1 last1 l1 0 (-1))).toNat))).2).o).node), .int .i64 ((((orangeryref_done p1 (gt l1 (((orangeryref_Folded_L2 l1 last1 l1 0 (-1))).toNat))).2).o).parent), .int .i64 ((((orangeryref_done p1 (gt l1 (((orangeryref_Folded_L2 l1 last1 l1 0 (-1))).toNat))).2).o).name), .int .i64 ((((orangeryref_done p1 (gt l1 (((orangeryref_Folded_L2 l1 last1 l1 0 (-1))).toNat))).2).o).life), .int .i64 ((((orangeryref_done p1 (gt l1 (((orangeryref_Folded_L2 l1 last1 l1 0 (-1))).toNat))).2).o).seq), .bool (((orangeryref_done p1 (gt l1 (((orangeryref_Folded_L2 l1 last1 l1 0 (-1))).toNat))).2).did), .int .i64 ((((orangeryref_done p1 (gt l1 (((orangeryref_Folded_L2 l1 last1 l1 0 (-1))).toNat))).2).was).node), .int .i64 ((((orangeryref_done p1 (gt l1 (((orangeryref_Folded_L2 l1 last1 l1 0 (-1))).toNat))).2).was).parent), .int .i64 ((((orangeryref_done p1 (gt l1 (((orangeryref_Folded_L2 l1 last1 l1 0 (-1))).toNat))).2).was).name)]⟩]) (fun (i_ : SlV × Nat) => match i_ with | ⟨x3, g5⟩ => [ownL EStep 37 x1 x1b l2]) (fun (i_ : SlV × Nat) => match i_ with | ⟨x3, g5⟩ => [RdL EPlace x3 ((orangeryref_done p1 (gt l1 (((orangeryref_Folded_L2 l1 last1 l1 0 (-1))).toNat))).1), RdL EPlace x2 p1, RdL EOp y1 l1]) (fun _ => True) (.cons rfl (.cons rfl (.cons rfl (.cons rfl (.cons rfl (.cons rfl (.cons rfl (.cons rfl (.cons rfl (.cons rfl (.cons rfl (.cons rfl (.cons rfl (.cons rfl (.cons rfl (.cons rfl (.nil _))))))))))))))))) (.keep (.keep (.nil))) ?_ ?_
            · refine cw_regionA (fun j => match j with | 13 => none | _ => some []) ?_
              refine Rb 0 [3,4,5,6,11] [1,2,7,8,9,10,12,13] rfl Qp ?_
              refine Rb 1 [3,4,5,6,11] [2,7,8,9,10,12,13] rfl Qp ?_
              refine Rb 2 [3,4,5,6,11] [7,8,9,10,12,13] rfl Q1 ?_
              refine Rb 3 [4,11] [5,6,7,8,9,10,12,13] rfl Qp ?_
              refine Rb 4 [11] [5,6,7,8,9,10,12,13] rfl Qp ?_
              refine Rb 5 [11] [6,7,8,9,10,12,13] rfl (q_idx EOp (((orangeryref_Folded_L2 l1 last1 l1 0 (-1))).toNat) rfl rfl (fun _ => rfl) rfl (fun _ => rfl) rfl rfl rfl Mm rfl (fun _ => by omega) (fun _ => by first | assumption | omega)) ?_
              refine Rb 6 [11] [7,8,9,10,12,13] rfl (q_leA EOp rfl rfl (fun _ => rfl) rfl rfl Mm (fun _ => by first | assumption | omega)) ?_
              refine ra_two 7 11 Kr ?_ ?_
              · refine rw_call (orangeryref_done_spec x2 p1 (gt l1 (((orangeryref_Folded_L2 l1 last1 l1 0 (-1))).toNat)) (tree_par hi.1) (tree_node hi.1) (CheckOp_node (hca _ (by omega)))) (.an rfl rfl) (guard_none rfl) rfl rfl rfl Kr rfl rfl Sm ?_
                intro x4
                refine Pr EPlace x4 ((orangeryref_done p1 (gt l1 (((orangeryref_Folded_L2 l1 last1 l1 0 (-1))).toNat))).1) 24 fun hlen2 => ?_
                refine Ra 8 [11] rfl Qp ?_
                refine Ra 9 [10,11] rfl Qp ?_
                refine Ra 10 [11,12] rfl Qp ?_
                refine ra_one 11 Kr ?_
                refine rw_alloc (.an rfl rfl) (guard_none rfl) rfl rfl rfl rfl fun g6 => ?_
                refine Ra 12 [] rfl Qp ?_
                refine ra_one 13 Kr ?_
                refine rw_stA (.lo [g6] rfl rfl) (.inr (by simp)) (guard_none rfl) rfl rfl rfl rfl rfl rfl rfl rfl rfl Ub rfl ?_
                refine ra_nil Kr ?_
                refine ⟨⟨x4, g6⟩, trivial, Le4⟩
              · refine rw_alloc (.an rfl rfl) (guard_none rfl) rfl rfl rfl rfl fun g7 => ?_
                refine ra_one 7 Kr ?_
                refine rw_call (orangeryref_done_spec x2 p1 (gt l1 (((orangeryref_Folded_L2 l1 last1 l1 0 (-1))).toNat)) (tree_par hi.1) (tree_node hi.1) (CheckOp_node (hca _ (by omega)))) (.an rfl rfl) (guard_none rfl) rfl rfl rfl Kr rfl rfl Sm ?_
                intro x5
                refine Pr EPlace x5 ((orangeryref_done p1 (gt l1 (((orangeryref_Folded_L2 l1 last1 l1 0 (-1))).toNat))).1) 24 fun hlen3 => ?_
                refine Ra 8 [] rfl Qp ?_
                refine Ra 9 [10] rfl Qp ?_
                refine Ra 10 [12] rfl Qp ?_
                refine Ra 12 [] rfl Qp ?_
                refine ra_one 13 Kr ?_
                refine rw_stA (.lo [g7] rfl rfl) (.inr (by simp)) (guard_none rfl) rfl rfl rfl rfl rfl rfl rfl rfl rfl Ub rfl ?_
                refine ra_nil Kr ?_
                refine ⟨⟨x5, g7⟩, trivial, Le4⟩
            · rintro ⟨x3, g5⟩ -
              simp only [List.cons_append, List.nil_append]
              refine Tx ?_
              refine rw_bsliceL EStep [((orangeryref_done p1 (gt l1 (((orangeryref_Folded_L2 l1 last1 l1 0 (-1))).toNat))).2)] .sq (guard_none rfl) rfl rfl rfl rfl rfl rfl rfl rfl rfl rfl rfl rfl rfl rfl rfl fun x6 x6b => ?_
              refine rw_appendL EStep l2 [((orangeryref_done p1 (gt l1 (((orangeryref_Folded_L2 l1 last1 l1 0 (-1))).toNat))).2)] (b := x1b) .sq (fun _ _ => .inl ⟨_, rfl⟩) (guard_none rfl) rfl rfl rfl rfl rfl rfl rfl (fun _ _ => Uo) rfl rfl rfl rfl rfl rfl rfl (reads_ownL (e := 37) (b := x6b) Mm) (by show (l2.length + 1) * 88 ≤ 140737488355328; (try simp only [List.length_append, List.length_cons, List.length_nil]); omega) fun x7 x7b => ?_
              refine Tx ?_
              refine rw_q rfl rfl rfl (q_idx EOp (((orangeryref_Folded_L2 l1 last1 l1 0 (-1))).toNat) rfl rfl (fun _ => rfl) rfl (fun _ => rfl) rfl rfl rfl Mm rfl (fun _ => by omega) (fun _ => by first | assumption | omega)) ?_
              refine rw_q rfl rfl rfl (q_fae rfl rfl (fun _ => rfl) rfl rfl) ?_
              refine rw_q rfl rfl rfl (q_leP EOp rfl rfl (fun _ => rfl) rfl rfl Mm (fun _ => by first | assumption | omega) rfl) ?_
              refine Cl (orangeryref_rank_spec (⟨(gt l1 (((orangeryref_Folded_L2 l1 last1 l1 0 (-1))).toNat)).time, (gt l1 (((orangeryref_Folded_L2 l1 last1 l1 0 (-1))).toNat)).who⟩ : Stamp) (CheckOp_rk (hca _ (by omega)))) fun _ => ?_
              refine Tx ?_
              refine ⟨⟨(orangeryref_rank (⟨(gt l1 (((orangeryref_Folded_L2 l1 last1 l1 0 (-1))).toNat)).time, (gt l1 (((orangeryref_Folded_L2 l1 last1 l1 0 (-1))).toNat)).who⟩ : Stamp)), (l2 ++ [((orangeryref_done p1 (gt l1 (((orangeryref_Folded_L2 l1 last1 l1 0 (-1))).toNat))).2)]), x7, x7b, (orangeryref_done p1 (gt l1 (((orangeryref_Folded_L2 l1 last1 l1 0 (-1))).toNat))).1, x3, (fz1 - 1)⟩, ⟨⟨done_tree hi.1 (hca _ (by omega)), (by simp only [List.length_append, List.length_cons, List.length_nil]; omega)⟩, (by (try simp only []); first | omega | (simp only [List.length_append, List.length_cons, List.length_nil]; omega)), (by rw [← hf2]; (conv => lhs; rw [hlt1_]); simp only [orangeryref_Folded_L1, hc4, hc7, cond_true, cond_false] : (orangeryref_Folded l1) = (orangeryref_Folded_L1 l1 (fz1 - 1) (orangeryref_rank (⟨(gt l1 (((orangeryref_Folded_L2 l1 last1 l1 0 (-1))).toNat)).time, (gt l1 (((orangeryref_Folded_L2 l1 last1 l1 0 (-1))).toNat)).who⟩ : Stamp)) (l2 ++ [((orangeryref_done p1 (gt l1 (((orangeryref_Folded_L2 l1 last1 l1 0 (-1))).toNat))).2)]) ((orangeryref_done p1 (gt l1 (((orangeryref_Folded_L2 l1 last1 l1 0 (-1))).toNat))).1))).symm⟩, (by simp only []; omega), Le4⟩
      · have hc4p := of_decide_eq_false hc4
        refine Tx ?_
        refine cw_le (le_freezeL EStep 37 x1 x1b l2 Uo) ?_
        have hr4 : (orangeryref_Folded l1) = ((⟨l2, p1⟩ : History), 0) := by rw [← hf2]; (conv => lhs; rw [hlt1_]); simp only [orangeryref_Folded_L1, hc4, cond_true, cond_false]
        refine cw_ret ?_; rw [hr4]; exact Re ⟨x1, x2⟩ (Va (Vt Vn))

def orangeryref_OpsOf_L0  : List Step → (List Op) → (List Op)
  | [], l1 => l1
  | pn1 :: rn1, l1 => (orangeryref_OpsOf_L0 rn1 (l1 ++ [(pn1.o)]))
def orangeryref_OpsOf (h1 : History) : List Op :=
  (orangeryref_OpsOf_L0 h1.l [])
theorem orangeryref_OpsOf_spec (y1 : SlV) (y2 : SlV) (h1 : History) : DoesG Try.prog 161 [.agg ⟨[y1.val h1.l.length, y2.val h1.t.length]⟩] [RdL EStep y1 h1.l, RdL EPlace y2 h1.t] ⟨[], []⟩ (fun (X : SlV × Option Nat) => X.1.val (orangeryref_OpsOf h1).length) (fun (X : SlV × Option Nat) => []) (fun (X : SlV × Option Nat) => ⟨[], [ownL EOp 33 X.1 X.2 (orangeryref_OpsOf h1)]⟩) := by
  refine does_ofG tab_ok Try.func161 rfl Try.ntmps161 Try.results161 rfl inferInstance (fun _ => inferInstance) fun C => ?_
  refine Pc EStep y1 h1.l 88 fun hlen1 => ?_
  refine Pc EPlace y2 h1.t 24 fun hlen2 => ?_
  refine Tx ?_
  refine Bx fun g1 => ?_
  refine Tx ?_
  (repeat refine cw_seq ?_); refine Lp [2,7,8] [true] (fun (i_ : List Op × SlV × Option Nat × Nat) => match i_ with | ⟨l1, x1, x1b, n1⟩ => (⟨[(3, .v (x1.val l1.length)), (9, .v (.int .i64 (n1 : Int)))], [], [ownL EOp 33 x1 x1b l1], [], (n1 ≤ h1.l.length) ∧ (l1.length ≤ n1) ∧ (orangeryref_OpsOf_L0 (h1.l.drop n1) l1) = (orangeryref_OpsOf h1), h1.l.length - n1⟩ : Ls)) ⟨[], ⟨none, 0⟩, none, 0⟩ (Sc (Sc (Sc Sn))) (.keep (.nil)) ⟨Nat.zero_le _, (by first | exact Nat.le_refl _ | exact Nat.zero_le _ | omega), (by simp only [orangeryref_OpsOf, cond_true, cond_false] : (orangeryref_OpsOf h1) = (orangeryref_OpsOf_L0 h1.l [])).symm⟩ (Le.trans (le_nilL EOp 33) Le4) ?_
  rintro ⟨l1, x1, x1b, n1⟩ ⟨hkn1, hl1, hf1⟩
  simp only [List.cons_append, List.nil_append]
  refine Tx ?_
  refine Cd (b := decide ((n1 : Int) < (h1.l.length : Int))) (fun hc1 => ?_) fun hc1 => ?_
  · have hlt0 : n1 < h1.l.length := Int.ofNat_lt.1 (of_decide_eq_true hc1)
    refine Tx ?_
    refine rw_q rfl rfl rfl (q_idx EStep n1 rfl rfl (fun _ => rfl) rfl (fun _ => rfl) rfl rfl rfl Mm rfl (fun _ => rfl) (fun _ => by first | assumption | omega)) ?_
    refine rw_q rfl rfl rfl (q_leA EStep rfl rfl (fun _ => rfl) rfl rfl Mm (fun _ => by first | assumption | omega)) ?_
    refine Al fun g2 => ?_
    refine Tx ?_
    refine rw_bsliceL EOp [((gt h1.l n1).o)] .sq (guard_none rfl) rfl rfl rfl rfl rfl rfl rfl rfl rfl rfl rfl rfl rfl rfl rfl fun x2 x2b => ?_
    refine rw_appendL EOp l1 [((gt h1.l n1).o)] (b := x1b) .sq (fun _ _ => .inl ⟨_, rfl⟩) (guard_none rfl) rfl rfl rfl rfl rfl rfl rfl (fun _ _ => Uo) rfl rfl rfl rfl rfl rfl rfl (reads_ownL (e := 33) (b := x2b) Mm) (by show (l1.length + 1) * 56 ≤ 140737488355328; (try simp only [List.length_append, List.length_cons, List.length_nil]); omega) fun x3 x3b => ?_
    refine Tx ?_
    refine rw_q rfl rfl rfl (q_add rfl rfl (fun _ => rfl) rfl (fun _ => rfl) (fun _ => by omega)) ?_
    refine Tx ?_
    refine ⟨⟨(l1 ++ [((gt h1.l n1).o)]), x3, x3b, (n1 + 1)⟩, ⟨hlt0, (by simp only [List.length_append, List.length_cons, List.length_nil]; omega), (by rw [← hf1, drop_gt hlt0]; simp only [orangeryref_OpsOf_L0, cond_true, cond_false] : (orangeryref_OpsOf h1) = (orangeryref_OpsOf_L0 (h1.l.drop (n1 + 1)) (l1 ++ [((gt h1.l n1).o)]))).symm⟩, (by simp only []; omega), Le4⟩
  · have hge0 : h1.l.length ≤ n1 := by have := of_decide_eq_false hc1; omega
    refine Tx ?_
    have hr1 : (orangeryref_OpsOf h1) = l1 := by rw [← hf1, List.drop_of_length_le hge0]; simp only [orangeryref_OpsOf_L0, cond_true, cond_false]
    refine cw_ret ?_; rw [hr1]; exact Re ⟨x1, x1b⟩ (Vt Vn)

def orangeryref_SameHistory (a1 : History) (b1 : History) : Bool :=
  ((decide (a1.l = b1.l)) && (decide (a1.t = b1.t)))
theorem orangeryref_SameHistory_spec (y1 : SlV) (y2 : SlV) (a1 : History) (y3 : SlV) (y4 : SlV) (b1 : History) : Does Try.prog 84 [.agg ⟨[y1.val a1.l.length, y2.val a1.t.length]⟩, .agg ⟨[y3.val b1.l.length, y4.val b1.t.length]⟩] [RdL EStep y1 a1.l, RdL EPlace y2 a1.t, RdL EStep y3 b1.l, RdL EPlace y4 b1.t] (fun (_ : Unit) => .bool (orangeryref_SameHistory a1 b1)) (fun (_ : Unit) => []) := by
  refine does_of tab_ok Try.func84 rfl Try.ntmps84 Try.results84 rfl inferInstance (fun _ => inferInstance) fun C => ?_
  refine Pc EStep y1 a1.l 88 fun hlen1 => ?_
  refine Pc EPlace y2 a1.t 24 fun hlen2 => ?_
  refine Pc EStep y3 b1.l 88 fun hlen3 => ?_
  refine Pc EPlace y4 b1.t 24 fun hlen4 => ?_
  refine Tx ?_
  refine Bx fun g1 => ?_
  refine Bx fun g2 => ?_
  refine Tx ?_
  refine Cl ((fun y1 a y2 b => slices_Equal_Step_spec' y1 y2 a b) y1 a1.l y3 b1.l) fun _ => ?_
  refine Tx ?_
  refine rw_callg (fun hG_ => (fun y1 a y2 b => slices_Equal_Place_spec' y1 y2 a b) y2 a1.t y4 b1.t) (fun _ => rfl) .sq (guard_vt rfl rfl rfl) rfl rfl rfl Kr rfl Bt Sm ?_
  refine Tx ?_
  have hr1 : (orangeryref_SameHistory a1 b1) = ((decide (a1.l = b1.l)) && (decide (a1.t = b1.t))) := by simp only [orangeryref_SameHistory, cond_true, cond_false]
  refine cw_ret ?_; rw [hr1]; exact Re () (Vt Vn)

def orangeryref_CheckHistory (h1 : History) : Int :=
  (bif ((((orangeryref_Folded (orangeryref_OpsOf h1)).2) == 0) && (!(orangeryref_SameHistory ((orangeryref_Folded (orangeryref_OpsOf h1)).1) h1))) then 4 else (orangeryref_Folded (orangeryref_OpsOf h1)).2)
theorem orangeryref_CheckHistory_spec (y1 : SlV) (y2 : SlV) (h1 : History) : Does Try.prog 82 [.agg ⟨[y1.val h1.l.length, y2.val h1.t.length]⟩] [RdL EStep y1 h1.l, RdL EPlace y2 h1.t] (fun (_ : Unit) => .int .i64 (orangeryref_CheckHistory h1)) (fun (_ : Unit) => []) := by
  refine does_of tab_ok Try.func82 rfl Try.ntmps82 Try.results82 rfl inferInstance (fun _ => inferInstance) fun C => ?_
  refine Pc EStep y1 h1.l 88 fun hlen1 => ?_
  refine Pc EPlace y2 h1.t 24 fun hlen2 => ?_
  refine Tx ?_
  refine Bx fun g1 => ?_
  refine Tx ?_
  refine Cg (orangeryref_OpsOf_spec y1 y2 h1) fun x1 => ?_
  refine rw_le (le_freezeL EOp 33 x1.1 x1.2 (orangeryref_OpsOf h1) Uo) ?_
  refine Cl (orangeryref_Folded_spec x1.1 (orangeryref_OpsOf h1)) fun x2 => ?_
  refine Pr EStep x2.1 (((orangeryref_Folded (orangeryref_OpsOf h1)).1).l) 88 fun hlen3 => ?_
  refine Pr EPlace x2.2 (((orangeryref_Folded (orangeryref_OpsOf h1)).1).t) 24 fun hlen4 => ?_
  refine Tx ?_
  refine Al fun g2 => ?_
  refine Tx ?_
  refine rw_callg (fun hG_ => orangeryref_SameHistory_spec x2.1 x2.2 ((orangeryref_Folded (orangeryref_OpsOf h1)).1) y1 y2 h1) (fun _ => rfl) .sq (guard_vt rfl rfl rfl) rfl rfl rfl Kr rfl Bt Sm ?_
  refine Tx ?_
  refine Cd (b := ((((orangeryref_Folded (orangeryref_OpsOf h1)).2) == 0) && (!(orangeryref_SameHistory ((orangeryref_Folded (orangeryref_OpsOf h1)).1) h1)))) (fun hc1 => ?_) fun hc1 => ?_
  · refine Tx ?_
    have hr1 : (orangeryref_CheckHistory h1) = 4 := by simp only [orangeryref_CheckHistory, hc1, cond_true, cond_false]
    refine cw_ret ?_; rw [hr1]; exact Re () (Vt Vn)
  · refine Tx ?_
    have hr2 : (orangeryref_CheckHistory h1) = (orangeryref_Folded (orangeryref_OpsOf h1)).2 := by simp only [orangeryref_CheckHistory, hc1, cond_true, cond_false]
    refine cw_ret ?_; rw [hr2]; exact Re () (Vt Vn)

theorem orangeryref_OpsOf_len (h : History) : (orangeryref_OpsOf h).length = h.l.length := by
  have key : ∀ (l : List Step) (acc : List Op), (orangeryref_OpsOf_L0 l acc).length = acc.length + l.length := by
    intro l
    induction l with
    | nil => intro acc; rfl
    | cons p r ih => intro acc; rw [orangeryref_OpsOf_L0, ih]; simp; omega
  unfold orangeryref_OpsOf
  rw [key]; simp

def orangeryref_Inserted_L0 (h1 : History) (o1 : Op) : List Step → (History × Int)
  | [] => (((orangeryref_Folded ((orangeryref_OpsOf h1) ++ [o1])).1), (orangeryref_Folded ((orangeryref_OpsOf h1) ++ [o1])).2)
  | pn1 :: rn1 => (bif decide ((⟨(pn1.o).time, (pn1.o).who⟩ : Stamp) = (⟨o1.time, o1.who⟩ : Stamp)) then ((⟨([] : List Step), ([] : List Place)⟩ : History), 6) else (orangeryref_Inserted_L0 h1 o1 rn1))
def orangeryref_Inserted (h1 : History) (o1 : Op) : History × Int :=
  (bif ((orangeryref_CheckHistory h1) != 0) then ((⟨([] : List Step), ([] : List Place)⟩ : History), (orangeryref_CheckHistory h1)) else (bif ((orangeryref_CheckOp o1) != 0) then ((⟨([] : List Step), ([] : List Place)⟩ : History), (orangeryref_CheckOp o1)) else (orangeryref_Inserted_L0 h1 o1 h1.l)))
theorem orangeryref_Inserted_spec (y1 : SlV) (y2 : SlV) (h1 : History) (o1 : Op) : Does Try.prog 80 [.agg ⟨[y1.val h1.l.length, y2.val h1.t.length]⟩, .agg ⟨[.int .i64 o1.time, .int .i64 o1.who, .int .i64 o1.node, .int .i64 o1.parent, .int .i64 o1.name, .int .i64 o1.life, .int .i64 o1.seq]⟩] [RdL EStep y1 h1.l, RdL EPlace y2 h1.t] (fun (X : SlV × SlV) => .tuple #[.agg ⟨[X.1.val (((orangeryref_Inserted h1 o1).1).l).length, X.2.val (((orangeryref_Inserted h1 o1).1).t).length]⟩, .int .i64 ((orangeryref_Inserted h1 o1).2)]) (fun (X : SlV × SlV) => [RdL EStep X.1 (((orangeryref_Inserted h1 o1).1).l), RdL EPlace X.2 (((orangeryref_Inserted h1 o1).1).t)]) := by
  refine does_of tab_ok Try.func80 rfl Try.ntmps80 Try.results80 rfl inferInstance (fun _ => inferInstance) fun C => ?_
  refine Pc EStep y1 h1.l 88 fun hlen1 => ?_
  refine Pc EPlace y2 h1.t 24 fun hlen2 => ?_
  refine Tx ?_
  refine Bx fun g1 => ?_
  refine Bx fun g2 => ?_
  refine Al fun g3 => ?_
  refine Tx ?_
  refine Cl (orangeryref_CheckHistory_spec y1 y2 h1) fun _ => ?_
  refine Tx ?_
  refine Cd (b := ((orangeryref_CheckHistory h1) != 0)) (fun hc1 => ?_) fun hc1 => ?_
  · have hc1p := bne_iff_ne.1 hc1
    refine Tx ?_
    refine Fc EStep ?_
    refine Fc EPlace ?_
    have hr1 : (orangeryref_Inserted h1 o1) = ((⟨([] : List Step), ([] : List Place)⟩ : History), (orangeryref_CheckHistory h1)) := by simp only [orangeryref_Inserted, hc1, cond_true, cond_false]
    refine cw_ret ?_; rw [hr1]; exact Re ⟨(⟨none, 0⟩ : SlV), (⟨none, 0⟩ : SlV)⟩ (Va (Vt Vn))
  · have hc1p := eq_of_bne_false hc1
    refine Tx ?_
    refine Cl (orangeryref_CheckOp_spec o1) fun _ => ?_
    refine Tx ?_
    refine Cd (b := ((orangeryref_CheckOp o1) != 0)) (fun hc2 => ?_) fun hc2 => ?_
    · have hc2p := bne_iff_ne.1 hc2
      refine Tx ?_
      refine Fc EStep ?_
      refine Fc EPlace ?_
      have hr2 : (orangeryref_Inserted h1 o1) = ((⟨([] : List Step), ([] : List Place)⟩ : History), (orangeryref_CheckOp o1)) := by simp only [orangeryref_Inserted, hc1, hc2, cond_true, cond_false]
      refine cw_ret ?_; rw [hr2]; exact Re ⟨(⟨none, 0⟩ : SlV), (⟨none, 0⟩ : SlV)⟩ (Va (Vt Vn))
    · have hc2p := eq_of_bne_false hc2
      refine Tx ?_
      (repeat refine cw_seq ?_); refine Lp [2,3,4,5,23,24] [true, true, true] (fun (n1 : Nat) => (⟨[(25, .v (.int .i64 (n1 : Int)))], [], [], [], (n1 ≤ h1.l.length) ∧ (orangeryref_Inserted_L0 h1 o1 (h1.l.drop n1)) = (orangeryref_Inserted h1 o1), h1.l.length - n1⟩ : Ls)) 0 (Sc (Sc (Sc (Sc (Sc (Sc Sn)))))) (.keep (.keep (.keep (.nil)))) ⟨Nat.zero_le _, (by simp only [orangeryref_Inserted, hc1, hc2, cond_true, cond_false] : (orangeryref_Inserted h1 o1) = (orangeryref_Inserted_L0 h1 o1 h1.l)).symm⟩ Le4 ?_
      rintro n1 ⟨hkn1, hf1⟩
      simp only [List.cons_append, List.nil_append]
      refine Tx ?_
      refine Cd (b := decide ((n1 : Int) < (h1.l.length : Int))) (fun hc3 => ?_) fun hc3 => ?_
      · have hlt0 : n1 < h1.l.length := Int.ofNat_lt.1 (of_decide_eq_true hc3)
        refine Tx ?_
        refine rw_q rfl rfl rfl (q_idx EStep n1 rfl rfl (fun _ => rfl) rfl (fun _ => rfl) rfl rfl rfl Mm rfl (fun _ => rfl) (fun _ => by first | assumption | omega)) ?_
        refine rw_q rfl rfl rfl (q_leA EStep rfl rfl (fun _ => rfl) rfl rfl Mm (fun _ => by first | assumption | omega)) ?_
        refine Al fun g4 => ?_
        refine Tx ?_
        refine rw_q rfl rfl rfl (q_eqE eqT_Stamp (flatEq_Stamp (⟨((gt h1.l n1).o).time, ((gt h1.l n1).o).who⟩ : Stamp) (⟨o1.time, o1.who⟩ : Stamp)) rfl rfl (fun _ => rfl) rfl (fun _ => rfl) rfl rfl) ?_
        refine rw_nil ?_
        (repeat refine cw_seq ?_)
        refine Cd (b := decide ((⟨((gt h1.l n1).o).time, ((gt h1.l n1).o).who⟩ : Stamp) = (⟨o1.time, o1.who⟩ : Stamp))) (fun hc4 => ?_) fun hc4 => ?_
        · have hc4p := of_decide_eq_true hc4
          refine Tx ?_
          refine Fc EStep ?_
          refine Fc EPlace ?_
          have hr3 : (orangeryref_Inserted h1 o1) = ((⟨([] : List Step), ([] : List Place)⟩ : History), 6) := by rw [← hf1, drop_gt hlt0]; simp only [orangeryref_Inserted_L0, hc4, cond_true, cond_false]
          refine cw_ret ?_; rw [hr3]; exact Re ⟨(⟨none, 0⟩ : SlV), (⟨none, 0⟩ : SlV)⟩ (Va (Vt Vn))
        · have hc4p := of_decide_eq_false hc4
          refine Tx ?_
          refine rw_q rfl rfl rfl (q_add rfl rfl (fun _ => rfl) rfl (fun _ => rfl) (fun _ => by omega)) ?_
          refine Tx ?_
          refine ⟨(n1 + 1), ⟨hlt0, (by rw [← hf1, drop_gt hlt0]; simp only [orangeryref_Inserted_L0, hc4, cond_true, cond_false] : (orangeryref_Inserted h1 o1) = (orangeryref_Inserted_L0 h1 o1 (h1.l.drop (n1 + 1)))).symm⟩, (by simp only []; omega), Le4⟩
      · have hge0 : h1.l.length ≤ n1 := by have := of_decide_eq_false hc3; omega
        refine Tx ?_
        refine cw_join [4] [false, true, true] (fun (i_ : SlV × SlV) => match i_ with | ⟨x1, x2⟩ => [(5, .v (.int .i64 ((orangeryref_Folded ((orangeryref_OpsOf h1) ++ [o1])).2)))]) (fun (i_ : SlV × SlV) => match i_ with | ⟨x1, x2⟩ => [⟨g3, 94, [x1.val (((orangeryref_Folded ((orangeryref_OpsOf h1) ++ [o1])).1).l).length, x2.val (((orangeryref_Folded ((orangeryref_OpsOf h1) ++ [o1])).1).t).length]⟩]) (fun (i_ : SlV × SlV) => match i_ with | ⟨x1, x2⟩ => []) (fun (i_ : SlV × SlV) => match i_ with | ⟨x1, x2⟩ => [RdL EStep x1 (((orangeryref_Folded ((orangeryref_OpsOf h1) ++ [o1])).1).l), RdL EPlace x2 (((orangeryref_Folded ((orangeryref_OpsOf h1) ++ [o1])).1).t)]) (fun _ => True) (.cons rfl (.nil _)) (.drop (.keep (.keep (.nil)))) ?_ ?_
        · refine cw_regionA (fun j => match j with | 4 => none | 8 => some [g3] | _ => some []) ?_
          refine Rb 0 [2,3] [1,4,5,6,7,8,9] rfl (q_ldA rfl rfl (fun _ => rfl) rfl Mm rfl) ?_
          refine Rb 2 [1] [3,4,5,6,7,8,9] rfl (q_ldA rfl rfl (fun _ => rfl) rfl Mm rfl) ?_
          refine ra_two 1 3 Kr ?_ ?_
          · refine rw_callG (orangeryref_OpsOf_spec y1 y2 h1) (.an rfl rfl) (.inr (by simp [Lent.ids])) (guard_none rfl) rfl rfl rfl Kr rfl rfl Sm (.nil _) (.nil _) ?_
            intro x3
            have hol := orangeryref_OpsOf_len h1
            refine ra_one 3 Kr ?_
            refine rw_bsliceL EOp [o1] (.an rfl rfl) (guard_none rfl) rfl rfl rfl rfl rfl rfl rfl rfl rfl rfl rfl rfl rfl rfl rfl fun x4 x4b => ?_
            refine ra_one 4 Kr ?_
            refine rw_appendL EOp (orangeryref_OpsOf h1) [o1] (b := x3.2) (.lo (x3.2 : Option Nat).toList rfl rfl) (fun g h => .inr (by simp [h])) (guard_none rfl) rfl rfl rfl rfl rfl rfl rfl (fun _ _ => Uo) rfl rfl rfl rfl rfl rfl rfl (reads_ownL (e := 33) (b := x4b) Mm) (by show ((orangeryref_OpsOf h1).length + 1) * 56 ≤ 140737488355328; (try simp only [List.length_append, List.length_cons, List.length_nil]); omega) fun x5 x5b => ?_
            refine ra_one 5 Kr ?_
            refine rw_le (le_freezeL EOp 33 x5 x5b ((orangeryref_OpsOf h1) ++ [o1]) Uo) ?_
            refine rw_call (orangeryref_Folded_spec x5 ((orangeryref_OpsOf h1) ++ [o1])) (.an rfl rfl) (guard_none rfl) rfl rfl rfl Kr rfl rfl Sm ?_
            intro x6
            refine Pr EStep x6.1 (((orangeryref_Folded ((orangeryref_OpsOf h1) ++ [o1])).1).l) 88 fun hlen3 => ?_
            refine Pr EPlace x6.2 (((orangeryref_Folded ((orangeryref_OpsOf h1) ++ [o1])).1).t) 24 fun hlen4 => ?_
            refine Ra 6 [7] rfl Qp ?_
            refine Ra 7 [] rfl Qp ?_
            refine ra_one 8 Kr ?_
            refine rw_stA (.an rfl rfl) (.inr (by simp)) (guard_none rfl) rfl rfl rfl rfl rfl rfl rfl rfl rfl Ub rfl ?_
            refine Ra 9 [] rfl Qp ?_
            refine ra_nil Kr ?_
            refine ⟨⟨x6.1, x6.2⟩, trivial, Le4⟩
          · refine rw_bsliceL EOp [o1] (.an rfl rfl) (guard_none rfl) rfl rfl rfl rfl rfl rfl rfl rfl rfl rfl rfl rfl rfl rfl rfl fun x7 x7b => ?_
            refine ra_one 1 Kr ?_
            refine rw_callG (orangeryref_OpsOf_spec y1 y2 h1) (.an rfl rfl) (.inr (by simp [Lent.ids])) (guard_none rfl) rfl rfl rfl Kr rfl rfl Sm (.nil _) (.nil _) ?_
            intro x8
            have hol := orangeryref_OpsOf_len h1
            refine ra_one 4 Kr ?_
            refine rw_appendL EOp (orangeryref_OpsOf h1) [o1] (b := x8.2) (.lo (x8.2 : Option Nat).toList rfl rfl) (fun g h => .inr (by simp [h])) (guard_none rfl) rfl rfl rfl rfl rfl rfl rfl (fun _ _ => Uo) rfl rfl rfl rfl rfl rfl rfl (reads_ownL (e := 33) (b := x7b) Mm) (by show ((orangeryref_OpsOf h1).length + 1) * 56 ≤ 140737488355328; (try simp only [List.length_append, List.length_cons, List.length_nil]); omega) fun x9 x9b => ?_
            refine ra_one 5 Kr ?_
            refine rw_le (le_freezeL EOp 33 x9 x9b ((orangeryref_OpsOf h1) ++ [o1]) Uo) ?_
            refine rw_call (orangeryref_Folded_spec x9 ((orangeryref_OpsOf h1) ++ [o1])) (.an rfl rfl) (guard_none rfl) rfl rfl rfl Kr rfl rfl Sm ?_
            intro x10
            refine Pr EStep x10.1 (((orangeryref_Folded ((orangeryref_OpsOf h1) ++ [o1])).1).l) 88 fun hlen5 => ?_
            refine Pr EPlace x10.2 (((orangeryref_Folded ((orangeryref_OpsOf h1) ++ [o1])).1).t) 24 fun hlen6 => ?_
            refine Ra 6 [7] rfl Qp ?_
            refine Ra 7 [] rfl Qp ?_
            refine ra_one 8 Kr ?_
            refine rw_stA (.an rfl rfl) (.inr (by simp)) (guard_none rfl) rfl rfl rfl rfl rfl rfl rfl rfl rfl Ub rfl ?_
            refine Ra 9 [] rfl Qp ?_
            refine ra_nil Kr ?_
            refine ⟨⟨x10.1, x10.2⟩, trivial, Le4⟩
        · rintro ⟨x1, x2⟩ -
          simp only [List.cons_append, List.nil_append]
          (repeat refine cw_seq ?_)
          have hr4 : (orangeryref_Inserted h1 o1) = (((orangeryref_Folded ((orangeryref_OpsOf h1) ++ [o1])).1), (orangeryref_Folded ((orangeryref_OpsOf h1) ++ [o1])).2) := by rw [← hf1, List.drop_of_length_le hge0]; simp only [orangeryref_Inserted_L0, cond_true, cond_false]
          refine cw_ret ?_; rw [hr4]; exact Re ⟨x1, x2⟩ (Va (Vt Vn))
end Go.Proofs.Ytchdacbjiomplaa
